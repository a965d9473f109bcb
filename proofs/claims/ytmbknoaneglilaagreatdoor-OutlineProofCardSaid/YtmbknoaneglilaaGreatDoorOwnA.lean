/-
  A part of the proof: conditions: none beyond each theorem's own.
-/
import Derived.Test.YtmbknoaneglilaaGreatDoorLogicA
import Derived.Test.YtmbknoaneglilaaGreatDoorLogicD
import Derived.Laws.Small
import Derived.Deep.Slices
import Derived.OpenShut
import Derived.Carry
import Derived.IntWalk
import Derived.Test.YtmbknoaneglilaaGreatDoorSpecA
import Derived.KernelRfl
import Derived.Lib.LaidTab
import Derived.Lib.ItoaNum
import Derived.Test.YtmbknoaneglilaaGreatDoorProg
import Derived.Test.YtmbknoaneglilaaGreatDoorWalkD
import Derived.Test.YtmbknoaneglilaaGreatDoorWalkF
import Derived.ChangeKeysEq
import Derived.Test.YtmbknoaneglilaaGreatDoorLogicB
import Derived.Test.YtmbknoaneglilaaGreatDoorLogicC
import Derived.Test.YtmbknoaneglilaaGreatDoorLogicE
import Derived.Test.YtmbknoaneglilaaGreatDoorShelf
import Derived.Test.YtmbknoaneglilaaGreatDoorWalkA
import Derived.Test.YtmbknoaneglilaaGreatDoorWalkB
import Derived.Test.YtmbknoaneglilaaGreatDoorWalkC
import Derived.Test.YtmbknoaneglilaaGreatDoorWalkE
import Derived.Test.YtmbknoaneglilaaGreatDoorRow
set_option linter.all false
set_option maxRecDepth 100000
set_option maxHeartbeats 8000000
namespace Go.Ab
variable [Tabs]
theorem FW_room (r : Option Nat) (n : Nat) : (FW r).room n := fun _ h => by simp [FW] at h
variable {c : Ctx} {Q : AExit → St → Prop} {s : St}
end Go.Ab
namespace Go.Ab
variable [Tabs]
section
variable {P : Program} {r : Option Nat} {H : List AObj} {ρ : Operand → AV}
variable {d : Option Tmp} {t : TypeId} {p : String} {af : Array Edge} {g : Option (Nat × Bool)} {x y : Operand}
theorem ev_bool2 {op : BinOp} {a b : Bool} {xt yt : TypeId} {v : AV} (hx : Less (ρ x) (.raw (.bool a))) (hy : Less (ρ y) (.raw (.bool b)))
    (hr : ∀ w e, ∃ u, (binOp op xt (.bool a) (.bool b)).run P w = .ok u w ∧ Rep e v u) : Ev P r ⟨d, .binOp op xt x y yt, t, p, af, g⟩ H ρ v :=
  Ev.pure (by intro c h; cases h) fun e ρc _ _ hs => by
    have e1 := rep_raw hx (hs x (by simp [Op.operands]))
    have e2 := rep_raw hy (hs y (by simp [Op.operands]))
    obtain ⟨u, h1, h2⟩ := hr e.w e
    refine ⟨u, ?_, h2⟩
    have hg : (eqGuard op xt x y (.bool a) (.bool b)).run P e.w = .ok () e.w := by
      unfold eqGuard; split <;> simp
    simp [execOp, e1, e2, hg, h1]
theorem ev_neqB {a b : Bool} {xt yt : TypeId} (ht : P.underlying xt = some .bool) (hx : Less (ρ x) (.raw (.bool a))) (hy : Less (ρ y) (.raw (.bool b))) :
    Ev P r ⟨d, .binOp .neq xt x y yt, t, p, af, g⟩ H ρ (.raw (.bool (!(a == b)))) :=
  ev_bool2 hx hy fun w e => ⟨_, run_neq_bool w xt a b ht, by rw [Rep]⟩
end
end Go.Ab
namespace Go.Ab
open Go.ChangeShapes Go.WideShapes
variable [Tabs]
theorem env0_ok {w : World} (h : Tabs.is w) (hb : ∀ b, Tabs.blk b → b < w.heap.size) : EnvOK (env0 w) :=
  ⟨fun b hb => by have hb' : w.heap.size ≤ b := hb
                  have : w.heap[b]? = none := by simpa using hb'
                  simp [env0, this], fun i o h => by simp [env0] at h, fun i j b hi => by simp [env0] at hi, fun i b hi => by simp [env0] at hi, h, fun b hk => ⟨hb b hk, fun i hi => by simp [env0] at hi⟩⟩
section
variable {H : Type} {enc : TypeId × Value → H} {P : Program} {w : World} {base : Nat} {spare : Nat → Bool} {held : Bool}
theorem trodAll_stays (hl : laidOutB P = true) {W W' : World} (hheap : ∀ b, b < W.heap.size → W'.heap[b]? = W.heap[b]?) {sp' : Nat → Bool} :
    ∀ {ts : List TypeId} {vs : List Value} {ds : List (DataW H)} {ps : List MemPlace}, (∀ t ∈ ts, P.readableRec t = true ∧ t < P.types.size) → DataW.TrodAll enc P W base (fun _ => true) true ts vs ds ps → (∀ p ∈ ps, p.block < W.heap.size) → (∀ p ∈ ps, sp' p.block = true) →
      DataW.TrodAll enc P W' base sp' true ts vs ds ps
  | [], _, _, _, _, h, _, _ => by
    obtain ⟨rfl, rfl, rfl⟩ := trodAll_nil h
    exact trodAll_mk0
  | t :: ts, _, _, _, ht, h, hlt, hs => by
    obtain ⟨v, vs1, d, ds1, a, b, rfl, rfl, rfl, h1, h2⟩ := trodAll_cons h
    refine trodAll_cons_mk (WideElems.Trod_stays hl (ht t (by simp)).1 (ht t (by simp)).2 h1 (fun p hp => ?_) (fun p hp => hs p (by simp [hp]))) (trodAll_stays hl hheap (fun u hu => ht u (List.mem_cons_of_mem _ hu)) h2 (fun p hp => hlt p (by simp [hp])) (fun p hp => hs p (by simp [hp])))
    have hb := hheap p.block (hlt p (by simp [hp]))
    cases p with
    | cell b o => exact cell?_of_heap hb
    | map b => exact hb
/-- **What a law's row asks of a call that returns true and leaves what it met.** -/
theorem post_true {f : Func} {s : ChangeSpec} {W W' : World} {args : Array Value} {ds gs : List (DataW H)} {before : List MemPlace} {tb : TypeId} (hl : laidOutB P = true) (hread : ∀ t ∈ f.params.toList, P.readableRec t = true ∧ t < P.types.size)
    (hres : f.resultTypes = #[tb]) (htb : P.underlying tb = some .bool) (hvars : s.vars = []) (hspec : (s.fn H ds).results = [.lit (.bool true)] ∧ (s.fn H ds).args = ds ∧ (s.fn H ds).vars = [])
    (hW : DataW.Whole enc P f.params.toList s.vars false W args.toList ds gs before) (hheap : ∀ b, b < W.heap.size → W'.heap[b]? = W.heap[b]?) (hst : Still W W') :
    s.post enc P f false true false false W args (.bool true) W' := by
  have hlt := hW.lt
  have hW0 := hW
  obtain ⟨p, q, h1, h2, rfl, _, _⟩ := hW
  rw [hvars] at h2
  obtain ⟨rfl, rfl⟩ := trodVars_none h2
  simp only [List.append_nil] at hlt
  obtain ⟨e1, e2, e3⟩ := hspec
  refine ⟨ds, [], p ++ [], [], p, [], hW0, ?_, ?_, ?_, ?_, fun h => by cases h⟩
  · rw [List.append_nil, e1, hres]
    exact trodAll_cons_mk (RowKit.shut_bool htb _) trodAll_mk0
  · rw [List.append_nil, e2]
    exact trodAll_stays hl hheap hread h1 hlt (fun p hp => by simpa using hlt p hp)
  · rw [List.append_nil, e3, hvars]; rfl
  · refine ⟨hst.1, hst.2, fun i hi => ?_⟩
    rw [hheap i hi]
    split <;> simp_all
theorem APure.law {f : FuncId} {args : List AV} {W : World} {vs : Array Value} (hc : APure P f args (.raw (.bool true))) (ht : Tabs.is W) (hb : ∀ b, Tabs.blk b → b < W.heap.size) (hr : RepL (env0 W) args vs.toList) :
    Calls P f vs W fun x W' => x = .returned (.bool true) ∧ (∀ b, b < W.heap.size → W'.heap[b]? = W.heap[b]?) ∧ Still W W' := by
  refine ((hc (env0 W) vs (env0_ok ht hb) hr).calls (fun k => FW_room none k)).mono ?_
  rintro x w' ⟨u, e', rfl, rfl, hx, hu⟩
  rw [Rep] at hu; subst hu
  exact ⟨rfl, hx.heap, hx.still⟩
end
end Go.Ab
namespace Go.Ab
variable [Tabs]
section seq
variable {c : Ctx} {ops : Array Oper} {Q : AExit → St → Prop} {rest : List Oper} {s : St} {i : Nat}
variable {d : Option Tmp} {op : Op} {t : TypeId} {p : String} {af : Array Edge}
end seq
section cond
variable {c : Ctx} {Q : AExit → St → Prop} {s : St} {x : Operand} {y z : Code}
end cond
section split
variable {c : Ctx} {ops : Array Oper} {Q : AExit → St → Prop} {s : St} {i : Nat} {l : List Oper}
theorem spn (u : Nat) {α : Type} {m n : α} {_ : Decidable (m ≠ n)} (h1 : decide (m ≠ n) = true → ¬ m = n → SeqWP c ops Q i l s) (h2 : decide (m ≠ n) = false → m = n → SeqWP c ops Q i l s) (hb : Less (sget s.sl u) (.raw (.bool (decide (m ≠ n)))) := by exact J) : SeqWP c ops Q i l s :=
  sq_split u hb (fun h => h1 h (of_decide_eq_true h)) (fun h => h2 h (Classical.byContradiction (of_decide_eq_false h)))
end split
section draw
variable {c : Ctx} {H0 : List AObj} {ops : Array Oper} {Q : AExit → St → Prop} {m i : Nat} {s : St} {rest : List Oper}
variable {d : Option Tmp} {op : Op} {t : TypeId} {p : String} {af : Array Edge}
theorem dn1 {j u : Nat} (hj : gslot ops j = some u) (ht : Nat.blt u c.nt = true) (hb : Less (sget s.sl u) (.raw (.bool false))) (hd : dOK c.nt d = true) (k : DR c H0 ops Q m (i + 1) rest (s.put d (.raw (.tuple #[])))) :
    DR c H0 ops Q m i (⟨d, op, t, p, af, some (j, true)⟩ :: rest) s := dr_no hj ht hb rfl hd k
theorem du {j u : Nat} {want : Bool} (hj : gslot ops j = some u) (ht : Nat.blt u c.nt = true) (hb : Less (sget s.sl u) (.raw (.tuple #[]))) (hd : dOK c.nt d = true) (k : DR c H0 ops Q m (i + 1) rest (s.put d (.raw (.tuple #[])))) :
    DR c H0 ops Q m i (⟨d, op, t, p, af, some (j, want)⟩ :: rest) s := dr_no hj ht hb rfl hd k
end draw
section ex
variable {c : Ctx} {Q : AExit → St → Prop} {K : St → Prop} {s : St} {id j : Nat}
end ex
section app
variable {c : Ctx} {ops : Array Oper} {Q : AExit → St → Prop} {s : St} {i : Nat} {o : Oper} {l m : List Oper} {H0 : List AObj} {k : Nat}
end app
end Go.Ab
namespace Ol
open Ni (inn)
theorem opp_symm (a b : UInt8) : opp a b = opp b a := by unfold opp; cases decide (a = 35) <;> cases decide (b = 46) <;> cases decide (a = 46) <;> cases decide (b = 35) <;> rfl
theorem mists_iff {a b : List Th} : mists a b = true ↔ ∃ t ∈ a, ∃ u ∈ b, agree t.sh u.sh = true := by
  unfold mists mist; simp only [List.any_eq_true]
theorem findSome_inv {α : Type} {f : Nat → Option α} : ∀ {n : Nat} {a : α}, (List.range n).findSome? f = some a → ∃ i, i < n ∧ f i = some a ∧ ∀ j, j < i → f j = none
  | 0, a, h => by simp at h
  | n + 1, a, h => by
    rw [List.range_succ, List.findSome?_append] at h
    cases hp : (List.range n).findSome? f with
    | some b =>
      rw [hp] at h; simp only [Option.some_or, Option.some.injEq] at h; subst h
      obtain ⟨i, h1, h2, h3⟩ := findSome_inv hp
      exact ⟨i, by omega, h2, h3⟩
    | none =>
      rw [hp] at h
      rw [List.findSome?_eq_none_iff] at hp
      refine ⟨n, by omega, by simpa using h, fun j hj => hp j (List.mem_range.2 hj)⟩
end Ol
namespace Ol
open Ni (inn)
def befB : List Int → List Int → Bool
  | x :: a, y :: b => if x = y then befB a b else decide (x < y)
  | _, _ => false
theorem plan_none_inv {ok : List Int → Bool} : ∀ {many : Nat} {cs now : List Int}, plan ok many cs now = none → ∀ q, List.Sublist q cs → q.length = many → ok (now ++ q) = false
  | 0, cs, now, h, q, hq, hl => by
    have : q = [] := List.length_eq_zero_iff.1 hl
    subst this
    unfold plan at h
    split at h
    · cases h
    · rename_i hn; rw [List.append_nil]; simpa using hn
  | many + 1, [], now, _, q, hq, hl => by
    have := List.Sublist.length_le hq
    simp only [List.length_nil] at this; omega
  | many + 1, c :: cs, now, h, q, hq, hl => by
    unfold plan at h
    split at h
    · cases h
    · rename_i hn
      cases hq with
      | cons _ hq => exact plan_none_inv h q hq hl
      | cons_cons _ hq =>
        rename_i q'
        have := plan_none_inv hn q' hq (by simpa using hl)
        rwa [List.append_assoc] at this
theorem plan_some_inv {ok : List Int → Bool} : ∀ {many : Nat} {cs now l : List Int}, cs.Pairwise (· < ·) → plan ok many cs now = some l →
    ∃ q, l = now ++ q ∧ List.Sublist q cs ∧ q.length = many ∧ ok l = true ∧ ∀ q', List.Sublist q' cs → q'.length = many → ok (now ++ q') = true → befB q' q = false
  | 0, cs, now, l, _, h => by
    unfold plan at h
    split at h
    · rename_i hn
      injection h with h; subst h
      exact ⟨[], by simp, List.nil_sublist _, rfl, hn, fun q' _ h2 _ => by have := List.length_eq_zero_iff.1 h2; subst this; rfl⟩
    · cases h
  | many + 1, [], now, l, _, h => by unfold plan at h; cases h
  | many + 1, c :: cs, now, l, hp, h => by
    have hp' := List.pairwise_cons.1 hp
    unfold plan at h
    split at h
    · rename_i l' hn
      injection h with h; subst h
      obtain ⟨q, h1, h2, h3, h4, h5⟩ := plan_some_inv hp'.2 hn
      refine ⟨c :: q, by rw [h1, List.append_assoc]; rfl, .cons_cons _ h2, by rw [List.length_cons, h3], h4, fun q' k1 k2 k3 => ?_⟩
      cases k1 with
      | cons _ k1 =>
        cases q' with
        | nil => cases k2
        | cons x q' =>
          have : c < x := hp'.1 x (k1.subset (by simp))
          unfold befB
          rw [if_neg (by omega)]; simp; omega
      | cons_cons _ k1 =>
        rename_i q''
        unfold befB
        rw [if_pos rfl]
        exact h5 q'' k1 (by simpa using k2) (by rwa [List.append_assoc])
    · rename_i hn
      obtain ⟨q, h1, h2, h3, h4, h5⟩ := plan_some_inv hp'.2 h
      refine ⟨q, h1, .cons _ h2, h3, h4, fun q' k1 k2 k3 => ?_⟩
      cases k1 with
      | cons _ k1 => exact h5 q' k1 k2 k3
      | cons_cons _ k1 =>
        rename_i q''
        have := plan_none_inv hn q'' k1 (by simpa using k2)
        rw [List.append_assoc] at this
        rw [show now ++ c :: q'' = now ++ ([c] ++ q'') from rfl, this] at k3; cases k3
theorem sub_rising : ∀ {l m : List Int}, l.Pairwise (· < ·) → m.Pairwise (· < ·) → (∀ n ∈ l, n ∈ m) → List.Sublist l m
  | [], m, _, _, _ => List.nil_sublist _
  | x :: l, [], _, _, h => by have := h x (by simp); cases this
  | x :: l, y :: m, hl, hm, h => by
    have hl' := List.pairwise_cons.1 hl
    have hm' := List.pairwise_cons.1 hm
    rcases List.mem_cons.1 (h x (by simp)) with e | e
    · subst e
      refine .cons_cons _ (sub_rising hl'.2 hm'.2 fun n hn => ?_)
      rcases List.mem_cons.1 (h n (by simp [hn])) with e | e
      · have := hl'.1 n hn; omega
      · exact e
    · refine .cons _ (sub_rising hl hm'.2 fun n hn => ?_)
      have hyx := hm'.1 x e
      rcases List.mem_cons.1 (h n hn) with e2 | e2
      · rcases List.mem_cons.1 hn with e3 | e3
        · omega
        · have := hl'.1 n e3; omega
      · exact e2
theorem ce_rising {s : Sg} {l : List Int} (h : ceOK s l = true) : l.Pairwise (· < ·) := by
  unfold ceOK at h
  simp only [Bool.and_eq_true, List.all_eq_true] at h
  have step : ∀ i, (hi : i + 1 < l.length) → l[i]'(by omega) < l[i + 1] := fun i hi => by
    have := (h.1 (i + 1) (List.mem_range.2 hi)).2
    unfold upto at this
    rw [getD_get hi, getD_get (show i + 1 - 1 < l.length by omega)] at this
    simpa using this
  have all : ∀ d i, (hi : i + d + 1 < l.length) → l[i]'(by omega) < l[i + d + 1] := fun d => by
    induction d with
    | zero => intro i hi; exact step i hi
    | succ d ih => intro i hi; have h1 := ih i (by omega); have h2 := step (i + d + 1) (by omega); exact Int.lt_trans h1 h2
  rw [List.pairwise_iff_getElem]
  intro i j hi hj hij
  have := all (j - i - 1) i (by omega)
  simpa [show i + (j - i - 1) + 1 = j by omega] using this
theorem tells_mono {w : Int} {a b : Th} {l m : List Int} (hs : ∀ n ∈ l, n ∈ m) (h : tells w a b l = true) : tells w a b m = true := by
  unfold tells at h ⊢
  rw [List.any_eq_true] at h ⊢
  obtain ⟨n, hn, h⟩ := h
  exact ⟨n, hs n hn, h⟩
theorem enough_iff {x : Sn} {l : List Int} : enough x l = true ↔ ∀ i, i < (byF x).length → ∀ k, k < i → ∀ a ∈ (byF x).getD i [], ∀ b ∈ (byF x).getD k [], tells x.s.wide a b l = true := by
  unfold enough tellAll tellAB
  simp only [List.all_eq_true, List.mem_range]
theorem enough_mono {x : Sn} {l m : List Int} (hs : ∀ n ∈ l, n ∈ m) (h : enough x l = true) : enough x m = true := by
  rw [enough_iff] at h ⊢
  exact fun i hi k hk a ha b hb => tells_mono hs (h i hi k hk a ha b hb)
theorem planOf_some {x : Sn} {cells p : List Int} (hc : cells.Pairwise (· < ·)) (h : planOf x cells = some p) :
    List.Sublist p cells ∧ enough x p = true ∧ ∀ q, List.Sublist q cells → enough x q = true → p.length < q.length ∨ (p.length = q.length ∧ befB q p = false) := by
  unfold planOf at h
  obtain ⟨m, hm, h1, h2⟩ := findSome_inv h
  obtain ⟨q, e1, e2, e3, e4, e5⟩ := plan_some_inv hc h1
  rw [List.nil_append] at e1; subst e1
  refine ⟨e2, e4, fun q hq ho => ?_⟩
  by_cases hlt : q.length < m
  · have := plan_none_inv (h2 _ hlt) q hq rfl
    rw [List.nil_append, ho] at this; cases this
  · by_cases he : q.length = m
    · exact .inr ⟨by omega, e5 q hq he (by rwa [List.nil_append])⟩
    · exact .inl (by omega)
theorem planOf_none {x : Sn} {cells : List Int} (h : planOf x cells = none) : ∀ q, List.Sublist q cells → enough x q = false := by
  unfold planOf at h
  rw [List.findSome?_eq_none_iff] at h
  intro q hq
  have := plan_none_inv (h q.length (List.mem_range.2 (by have := hq.length_le; omega))) q hq rfl
  rwa [List.nil_append] at this
theorem planOf_iff {x : Sn} {cells : List Int} (hc : cells.Pairwise (· < ·)) : enough x cells = (planOf x cells).isSome := by
  cases h : planOf x cells with
  | none => rw [planOf_none h cells (List.Sublist.refl _)]; rfl
  | some p =>
    obtain ⟨h1, h2, _⟩ := planOf_some hc h
    rw [enough_mono (fun n hn => h1.subset hn) h2]; rfl
end Ol
namespace Ol
open Ni (inn)
namespace Ca
def eR (c : Ca) (k : Int) : Int := (k + 1) * (c.s.far - c.p.near) + c.s.flame * c.p.near
end Ca
end Ol
namespace Go.Proofs.YtmbknoaneglilaaGreatDoor
open Go Go.Ab Ni Ol
theorem rin_pure (n lo hi : Int) : APure Tryz.prog 89 [I n, I lo, I hi] (B (inn n lo hi)) := by
 refine apure_of (rs := [.tmp 6]) Tryz.func89 rfl rfl (Nat.le_of_ble_eq_true rfl) (by simp [AV.pureL, AV.pureB, AV.pureE, pureE_map]) (by first | rfl | (simp [AV.pureL, AV.pureB, AV.pureE, pureE_map])) fun e0 he0 => ?_
 refine W 5 ?_
 refine sq_split 10 J (fun g1 => ?_) (fun g1 => ?_)
 ·
  have g1' := g1
  try simp only [qq] at g1'
  refine W 5 ?_
  exact retQ_pure (v := .raw _) rfl rfl (Less.eq (by simp [inn, *]))
 have g1' := g1
 try simp only [qq] at g1'
 refine W 5 ?_
 exact retQ_pure (v := .raw _) rfl rfl (Less.eq (by simp [inn, *]))
theorem rstage_pure (s : Sg) : APure Tryz.prog 24 [stA s] (B (stOK s)) := by
 refine apure_of (rs := [.tmp 2]) Tryz.func24 rfl rfl (Nat.le_of_ble_eq_true rfl) (by simp [AV.pureL, AV.pureB, AV.pureE, pureE_map]) (by first | rfl | (simp [AV.pureL, AV.pureB, AV.pureE, pureE_map])) fun e0 he0 => ?_
 refine W 4 ?_
 refine cl A (rin_pure _ _ _) ?_
 refine W 1 ?_
 refine sq_split 6 J (fun g1 => ?_) (fun g1 => ?_)
 ·
  have g1' := g1
  try simp only [qq] at g1'
  refine W 2 ?_
  refine cy A (rin_pure _ _ _) ?_
  refine W 2 ?_
  refine sq_split 11 J (fun g2 => ?_) (fun g2 => ?_)
  ·
   have g2' := g2
   try simp only [qq] at g2'
   refine W 2 ?_
   refine cy A (rin_pure _ _ _) ?_
   refine W 2 ?_
   refine sq_split 16 J (fun g3 => ?_) (fun g3 => ?_)
   ·
    have g3' := g3
    try simp only [qq] at g3'
    refine W 2 ?_
    refine cy A (rin_pure _ _ _) ?_
    refine W 2 ?_
    refine sq_split 21 J (fun g4 => ?_) (fun g4 => ?_)
    ·
     have g4' := g4
     try simp only [qq] at g4'
     refine W 4 ?_
     refine cy A (rin_pure _ _ _) ?_
     refine W 2 ?_
     refine sq_split 28 J (fun g5 => ?_) (fun g5 => ?_)
     ·
      have g5' := g5
      try simp only [qq] at g5'
      refine W 4 ?_
      refine cy A (rin_pure _ _ _) ?_
      refine W 2 ?_
      exact retQ_pure (v := .raw _) rfl rfl (Less.eq (by simp [stOK, *]))
     have g5' := g5
     try simp only [qq] at g5'
     refine W 7 ?_
     exact retQ_pure (v := .raw _) rfl rfl (Less.eq (by simp [stOK, *]))
    have g4' := g4
    try simp only [qq] at g4'
    refine W 14 ?_
    exact retQ_pure (v := .raw _) rfl rfl (Less.eq (by simp [stOK, *]))
   have g3' := g3
   try simp only [qq] at g3'
   refine W 19 ?_
   exact retQ_pure (v := .raw _) rfl rfl (Less.eq (by simp [stOK, *]))
  have g2' := g2
  try simp only [qq] at g2'
  refine W 24 ?_
  exact retQ_pure (v := .raw _) rfl rfl (Less.eq (by simp [stOK, *]))
 have g1' := g1
 try simp only [qq] at g1'
 refine W 29 ?_
 exact retQ_pure (v := .raw _) rfl rfl (Less.eq (by simp [stOK, *]))
theorem rat_pure (x y : Int) : APure Tryz.prog 31 [I x, I y] (B (awayOK x && awayOK y)) := by
 refine apure_of (rs := [.tmp 4]) Tryz.func31 rfl rfl (Nat.le_of_ble_eq_true rfl) (by simp [AV.pureL, AV.pureB, AV.pureE, pureE_map]) (by first | rfl | (simp [AV.pureL, AV.pureB, AV.pureE, pureE_map])) fun e0 he0 => ?_
 refine W 2 ?_
 refine cl A (rin_pure _ _ _) ?_
 refine W 1 ?_
 refine sq_split 7 J (fun g1 => ?_) (fun g1 => ?_)
 ·
  have g1' := g1
  try simp only [qq] at g1'
  refine W 1 ?_
  refine cy A (rin_pure _ _ _) ?_
  refine W 2 ?_
  exact retQ_pure (v := .raw _) rfl rfl (Less.eq (by simp [awayOK, *]))
 have g1' := g1
 try simp only [qq] at g1'
 refine W 4 ?_
 exact retQ_pure (v := .raw _) rfl rfl (Less.eq (by simp [awayOK, *]))
end Go.Proofs.YtmbknoaneglilaaGreatDoor
namespace Go.Proofs.YtmbknoaneglilaaGreatDoor
open Go Go.Ab Ni Ol
theorem ch_ok {c : UInt8} (h : (c.toNat : Int) = 35 ∨ (c.toNat : Int) = 46) : chOK c = true := by
  unfold chOK; simp only [decide_eq_true_eq]
  exact h.imp (fun h => UInt8.toNat_inj.1 (by show c.toNat = 35; omega)) (fun h => UInt8.toNat_inj.1 (by show c.toNat = 46; omega))
theorem ch_no {c : UInt8} (h : (c.toNat : Int) ≠ 35) (k : (c.toNat : Int) ≠ 46) : chOK c = false := by
  rw [Bool.eq_false_iff]; intro ho; unfold chOK at ho; simp only [decide_eq_true_eq] at ho
  rcases ho with e | e <;> (subst e; first | exact h rfl | exact k rfl)
theorem rfigure_pure (f : Fg) : APure Tryz.prog 25 [fgA f] (B (fgOK f)) := by
  refine apure_of (rs := [.tmp 2]) Tryz.func25 rfl rfl (Nat.le_of_ble_eq_true rfl) (by simp [AV.pureL, AV.pureB, AV.pureE, pureE_map]) (by first | rfl | (simp [AV.pureL, AV.pureB, AV.pureE, pureE_map])) fun e0 he0 => ?_
  refine W 5 ?_
  refine cl A (rin_pure _ _ _) ?_
  refine W 2 ?_
  refine sq_split 11 J (fun g1_5 => ?_) (fun g1_5 => ?_)
  · skip
    have g1_5' := g1_5
    try simp only [qq] at g1_5'
    refine W 10 ?_
    exact retQ_pure (v := .raw _) rfl rfl (Less.eq (by unfold fgOK; simp_all))
  · skip
    have g1_5' := g1_5
    try simp only [qq] at g1_5'
    have h1 : inn f.length 1 6 = true := by simpa using g1_5
    have hlen : 1 ≤ f.length ∧ f.length ≤ 6 := by simp only [inn, Bool.and_eq_true, decide_eq_true_eq] at h1; omega
    have hw0 := w0_eq (f := f) (by omega)
    refine W 2 ?_
    refine sq_yes rfl rfl (less_b g1_5) rfl (ev_index_map (k := 0) sl24.h J J rfl (by omega)) ?_
    refine W 2 ?_
    refine cy A (rin_pure _ _ _) ?_
    refine W 2 ?_
    refine aw_cond J (fun c_19 => ?_) (fun c_19 => ?_)
    · skip
      have c_19' := c_19
      try simp only [qq] at c_19'
      refine W 1 ?_
      exact retQ_pure (v := .raw _) rfl rfl (Less.eq (by unfold fgOK; rw [hw0]; simp_all))
    · skip
      have c_19' := c_19
      try simp only [qq] at c_19'
      have h2 : inn (w0 f) 1 6 = true := by rw [hw0]; simpa using c_19
      refine W 2 ?_
      refine aw_loopk (ι := { k : Nat // k ≤ f.length ∧ ∀ i, (h : i < f.length) → i < k → fgRow (w0 f) f[i] = true }) [1] (fun i => [(3, B ((f.take i.1).any hasH)), (4, I i.1)]) (fun H i => H) (fun i => f.length - i.1) (⟨0, Nat.zero_le _, by omega⟩) ⟨J, J, J, trivial⟩ rfl ?_
      rintro ⟨k, hk, hok⟩
      dsimp only [keepS, St.put, sget, slotsOf, nn1, nn2, nn3, nn4, nn5, nn6, Nat.reduceBEq, Nat.reduceAdd, nn7, nn8]
      refine W 5 ?_
      refine iff (fun c_24 c_24' => ?_) (fun c_24 c_24' => ?_)
      · skip
        refine W 0 ?_
        refine aw_draw 12 mo (by kernel_rfl) ?_
        refine WD 8 ?_
        refine dr_ev rfl (ev_index_map (k := 0) sl24.h J J rfl (by omega)) ?_
        refine WD 3 ?_
        refine W 0 ?_
        refine ifn (fun c_38 c_38' => ?_) (fun c_38 c_38' => ?_)
        · skip
          refine W 1 ?_
          exact retQ_pure (v := .raw _) rfl rfl (Less.eq (by rw [fg_row_bad (k := k) (by omega) (fgRow_len (by rw [hw0]; omega))]))
        · skip
          have hlk : f[k].length ≤ 6 := by simp only [inn, Bool.and_eq_true, decide_eq_true_eq] at h2; omega
          refine W 1 ?_
          refine aw_loopk (ι := { j : Nat // j ≤ f[k].length ∧ ∀ i, (h : i < f[k].length) → i < j → chOK f[k][i] = true }) [1, 4] (fun q => [(3, B ((f.take k).any hasH || (f[k].take q.1).any fun c => decide (c = 35))), (5, I q.1)]) (fun H q => H) (fun q => f[k].length - q.1) (⟨0, Nat.zero_le _, by omega⟩) ⟨(Less.eq (by show B ((f.take k).any hasH) = _; simp)), J, J, J, trivial⟩ rfl ?_
          rintro ⟨j, hj, hoj⟩
          dsimp only [keepS, St.put, sget, slotsOf, nn1, nn2, nn3, nn4, nn5, nn6, Nat.reduceBEq, Nat.reduceAdd, nn7, nn8]
          refine W 8 ?_
          refine iff (fun c_46 c_46' => ?_) (fun c_46 c_46' => ?_)
          · skip
            have hk' : j < f[k].length := by omega
            have eC := any_take (q := fun c => decide (c = 35)) (l := f[k]) (k := j) hk'
            refine W 9 ?_
            refine sq_split 57 J (fun g12_8 => ?_) (fun g12_8 => ?_)
            · skip
              have g12_8' := g12_8
              try simp only [qq] at g12_8'
              refine W 9 ?_
              refine aw_cond J (fun c_66 => ?_) (fun c_66 => ?_)
              · skip
                have c_66' := c_66
                try simp only [qq] at c_66'
                refine W 1 ?_
                exact retQ_pure (v := .raw _) rfl rfl (Less.eq (by rw [fg_row_bad (k := k) (by omega) (fgRow_ch (j := j) hk' (ch_no g12_8' c_66'))]))
              · skip
                have c_66' := c_66
                try simp only [qq] at c_66'
                have hch : chOK f[k][j] = true := ch_ok (.inr (by simpa using c_66))
                refine W 2 ?_
                refine sq_split 68 J (fun g14_1 => ?_) (fun g14_1 => ?_)
                · skip
                  have g14_1' := g14_1
                  try simp only [qq] at g14_1'
                  have eF : B true = B ((f.take k).any hasH || (f[k].take (j + 1)).any fun c => decide (c = 35)) := by rw [eC, ← Bool.or_assoc, g14_1]; rfl
                  refine W 13 ?_
                  exact ⟨⟨j + 1, by omega, fun i h hi => (by by_cases e : i = j; (subst e; exact hch); exact hoj i h (by omega))⟩, by simp only; omega, Sub.slots ⟨(Less.eq eF), J, J, J, trivial⟩⟩
                · skip
                  have g14_1' := g14_1
                  try simp only [qq] at g14_1'
                  have eF : B (decide (((f[k][j]).toNat : Int) = 35)) = B ((f.take k).any hasH || (f[k].take (j + 1)).any fun c => decide (c = 35)) := by rw [eC, ← Bool.or_assoc, g14_1, dec35]; rfl
                  refine W 13 ?_
                  exact ⟨⟨j + 1, by omega, fun i h hi => (by by_cases e : i = j; (subst e; exact hch); exact hoj i h (by omega))⟩, by simp only; omega, Sub.slots ⟨(Less.eq eF), J, J, J, trivial⟩⟩
            · skip
              have g12_8' := g12_8
              try simp only [qq] at g12_8'
              have hch : chOK f[k][j] = true := ch_ok (.inl (by simpa using g12_8))
              refine W 12 ?_
              refine sq_split 68 J (fun g14_1 => ?_) (fun g14_1 => ?_)
              · skip
                have g14_1' := g14_1
                try simp only [qq] at g14_1'
                have eF : B true = B ((f.take k).any hasH || (f[k].take (j + 1)).any fun c => decide (c = 35)) := by rw [eC, ← Bool.or_assoc, g14_1]; rfl
                refine W 13 ?_
                exact ⟨⟨j + 1, by omega, fun i h hi => (by by_cases e : i = j; (subst e; exact hch); exact hoj i h (by omega))⟩, by simp only; omega, Sub.slots ⟨(Less.eq eF), J, J, J, trivial⟩⟩
              · skip
                have g14_1' := g14_1
                try simp only [qq] at g14_1'
                have eF : B (decide (((f[k][j]).toNat : Int) = 35)) = B ((f.take k).any hasH || (f[k].take (j + 1)).any fun c => decide (c = 35)) := by rw [eC, ← Bool.or_assoc, g14_1, dec35]; rfl
                refine W 13 ?_
                exact ⟨⟨j + 1, by omega, fun i h hi => (by by_cases e : i = j; (subst e; exact hch); exact hoj i h (by omega))⟩, by simp only; omega, Sub.slots ⟨(Less.eq eF), J, J, J, trivial⟩⟩
          · skip
            refine V 3 ?_
            refine sq_nil ?_
            have hgood : fgRow (w0 f) f[k] = true := fgRow_ok (by omega) (fun i h => hoj i h (by omega))
            have eA := any_take (q := hasH) (l := f) (k := k) (by omega)
            have eB : hasH f[k] = (f[k].take j).any (fun c => decide (c = 35)) := by unfold hasH; rw [List.take_of_length_le (by omega)]
            exact ⟨⟨k + 1, by omega, fun i h hi => (by by_cases e : i = k; (subst e; exact hgood); exact hok i h (by omega))⟩, by simp only; omega, Sub.slots ⟨(Less.eq (show B ((f.take k).any hasH || (f[k].take j).any fun c => decide (c = 35)) = _ by rw [eA, eB])), J, J, trivial⟩⟩
      · skip
        refine W 2 ?_
        exact retQ_pure (v := .raw _) rfl rfl (Less.eq (by rw [fg_end h1 h2 (fun i h => hok i h (by omega)), show k = f.length by omega, List.take_length]))
end Go.Proofs.YtmbknoaneglilaaGreatDoor
namespace Go.Proofs.YtmbknoaneglilaaGreatDoor
open Go Go.Ab Ni Ol
theorem enough_pure (x : Sn) (cells : List Int) (hl : x.l.length ≤ 1000000) (hc : cells.length ≤ 1000000) : APure Tryz.prog 66 [stA x.s, figs x.l, rcA x.r, ints cells] (.tup [B (celOK x cells && enough x cells), I (er (celOK x cells))]) := by
  refine apure_of (rs := [.tmp 8, .tmp 9]) Tryz.func66 rfl rfl (Nat.le_of_ble_eq_true rfl) (by simp [AV.pureL, AV.pureB, AV.pureE, pureE_map]) (by first | rfl | (simp [AV.pureL, AV.pureB, AV.pureE, pureE_map])) fun e0 he0 => ?_
  refine W 11 ?_
  refine cl A (isscene_pure x hl) ?_
  refine W 2 ?_
  refine sq_split 18 J (fun g2_3 => ?_) (fun g2_3 => ?_)
  · skip
    have g2_3' := g2_3
    try simp only [qq] at g2_3'
    refine W 8 ?_
    exact retQ_pure (v := .tup [.raw _, .raw _]) rfl rfl (less_tup ⟨Less.eq (by rw [cel_1 g2_3']; rfl), Less.eq (by rw [cel_1 g2_3']; rfl), trivial⟩)
  · skip
    have g2_3' := g2_3
    try simp only [qq] at g2_3'
    refine W 2 ?_
    refine cy A (arecells_pure x.s cells (sn_facts (x := x) g2_3').2.1 hc) ?_
    refine W 2 ?_
    refine aw_cond J (fun c_23 => ?_) (fun c_23 => ?_)
    · skip
      have c_23' := c_23
      try simp only [qq] at c_23'
      refine W 2 ?_
      exact retQ_pure (v := .tup [.raw _, .raw _]) rfl rfl (less_tup ⟨Less.eq (by rw [cel_2 (by simpa using c_23)]; rfl), Less.eq (by rw [cel_2 (by simpa using c_23)]; rfl), trivial⟩)
    · skip
      have c_23' := c_23
      try simp only [qq] at c_23'
      have hxo : snOK x = true := by cases h : snOK x <;> simp_all
      have hce : ceOK x.s cells = true := by cases h : ceOK x.s cells <;> simp_all
      have hok := cel_3 hxo hce
      refine W 0 ?_
      refine aw_draw 7 mo (by kernel_rfl) ?_
      refine WD 2 ?_
      refine dcl A (by_pure hxo) ?_
      refine WD 1 ?_
      refine dcl A (tell_pure (byF x) cells (sn_facts hxo).2.1 (byF_clo hxo) (by have := byF_len x; have := (sn_facts hxo).1; omega) (fun l hl => by obtain ⟨i, hi, rfl⟩ := List.getElem_of_mem hl; have := byF_mx hxo hi; omega) (ce_in hce).1 (by have := (ce_in hce).2; omega)) ?_
      refine WD 2 ?_
      refine W 0 ?_
      exact retQ_pure (v := .tup [.raw _, .raw _]) rfl rfl (less_tup ⟨Less.eq (by rw [hok, Bool.true_and] <;> rfl), Less.eq (by rw [hok] <;> rfl), trivial⟩)
end Go.Proofs.YtmbknoaneglilaaGreatDoor
namespace Go.Proofs.YtmbknoaneglilaaGreatDoor
open Go Go.Ab Ni Ol
instance en111 : EnT Tryz.prog 111 := ⟨Ent.of Tryz.func111 (by kernel_rfl) rfl⟩
instance en112 : EnT Tryz.prog 112 := ⟨Ent.of Tryz.func112 (by kernel_rfl) rfl⟩
instance en154 : EnT Tryz.prog 154 := ⟨Ent.of Tryz.func154 (by kernel_rfl) rfl⟩
instance en23 : EnT Tryz.prog 23 := ⟨Ent.of Tryz.func23 (by kernel_rfl) rfl⟩
instance en24 : EnT Tryz.prog 24 := ⟨Ent.of Tryz.func24 (by kernel_rfl) rfl⟩
instance en25 : EnT Tryz.prog 25 := ⟨Ent.of Tryz.func25 (by kernel_rfl) rfl⟩
instance en29 : EnT Tryz.prog 29 := ⟨Ent.of Tryz.func29 (by kernel_rfl) rfl⟩
instance en34 : EnT Tryz.prog 34 := ⟨Ent.of Tryz.func34 (by kernel_rfl) rfl⟩
instance en36 : EnT Tryz.prog 36 := ⟨Ent.of Tryz.func36 (by kernel_rfl) rfl⟩
instance en37 : EnT Tryz.prog 37 := ⟨Ent.of Tryz.func37 (by kernel_rfl) rfl⟩
instance en41 : EnT Tryz.prog 41 := ⟨Ent.of Tryz.func41 (by kernel_rfl) rfl⟩
instance en42 : EnT Tryz.prog 42 := ⟨Ent.of Tryz.func42 (by kernel_rfl) rfl⟩
instance en49 : EnT Tryz.prog 49 := ⟨Ent.of Tryz.func49 (by kernel_rfl) rfl⟩
instance en51 : EnT Tryz.prog 51 := ⟨Ent.of Tryz.func51 (by kernel_rfl) rfl⟩
instance en53 : EnT Tryz.prog 53 := ⟨Ent.of Tryz.func53 (by kernel_rfl) rfl⟩
instance en72 : EnT Tryz.prog 72 := ⟨Ent.of Tryz.func72 (by kernel_rfl) rfl⟩
instance en85 : EnT Tryz.prog 85 := ⟨Ent.of Tryz.func85 (by kernel_rfl) rfl⟩
theorem allT_no {α : Type} {q : α → Bool} {l : List α} {n i : Nat} (hi : i < l.length) (hn : i < n) (h : q l[i] = false) : (l.take n).all q = false := by
  rw [List.all_eq_false]
  have hm : i < (l.take n).length := by rw [List.length_take]; omega
  exact ⟨(l.take n)[i], List.getElem_mem hm, by rw [List.getElem_take, h]; simp⟩
theorem allT_yes {α : Type} {q : α → Bool} {l : List α} {n : Nat} (h : ∀ i, (hi : i < l.length) → i < n → q l[i] = true) : (l.take n).all q = true := by
  rw [List.all_eq_true]
  intro x hx
  obtain ⟨i, hi, rfl⟩ := List.getElem_of_mem hx
  rw [List.length_take] at hi
  rw [List.getElem_take]; exact h i (by omega) (by omega)
def shortB (l : List (List UInt8)) : Bool := (l.take 20).all (fun r => decide (r.length ≤ 20)) && decide (l.length ≤ 18)
def fewB (l : List Fg) : Bool := (l.take 9).all shortB && decide (l.length ≤ 8)
theorem shortB_sz {l : List (List UInt8)} (h : shortB l = true) : l.length ≤ 18 ∧ ∀ r ∈ l, r.length ≤ 20 := by
  unfold shortB at h
  simp only [Bool.and_eq_true, decide_eq_true_eq] at h
  rw [List.take_of_length_le (by omega)] at h
  exact ⟨h.2, fun r hr => by have := List.all_eq_true.1 h.1 r hr; simpa using this⟩
theorem fewB_sz {l : List Fg} (h : fewB l = true) : l.length ≤ 8 ∧ ∀ f ∈ l, f.length ≤ 18 ∧ ∀ r ∈ f, r.length ≤ 20 := by
  unfold fewB at h
  simp only [Bool.and_eq_true, decide_eq_true_eq] at h
  rw [List.take_of_length_le (by omega)] at h
  exact ⟨h.2, fun f hf => shortB_sz (List.all_eq_true.1 h.1 f hf)⟩
def spn (lo hi : Int) : Bool := decide (lo ≤ hi) && decide (hi - lo < 6)
theorem rcOK_eq (s : Sg) (r : Rc) : rcOK s r = (inn r.nl 0 (s.far - 1) && (inn r.nh 0 (s.far - 1) && (spn r.nl r.nh && ((awayOK r.xl && awayOK r.y) && ((awayOK r.xh && awayOK r.y) && spn r.xl r.xh))))) := by
  unfold rcOK pcOK spOK spn inn awayOK
  rw [Bool.eq_iff_iff]
  simp only [Bool.and_eq_true, decide_eq_true_eq, inn]
  omega
theorem coOK_ref (l : List Fg) : coOK l = (decide (0 < l.length) && ((l.take 6).all fgOK && decide (l.length ≤ 6))) := by
  rw [coOK_eq, Bool.eq_iff_iff]
  simp only [Bool.and_eq_true, inn, decide_eq_true_eq, Bool.not_eq_true', List.any_eq_false, Bool.not_eq_true, Bool.not_eq_false', List.all_eq_true]
  constructor
  · rintro ⟨h1, h2⟩
    exact ⟨by omega, fun f hf => by have := h2 f (List.mem_of_mem_take hf); simpa using this, by omega⟩
  · rintro ⟨h1, h2, h3⟩
    rw [List.take_of_length_le h3] at h2
    exact ⟨by omega, fun f hf => by have := h2 f hf; simp [this]⟩
def askE (x : Sn) (is : Bool) : Int := if (snOK x && is) = true then 0 else 2
theorem snOK_eq (x : Sn) : snOK x = (stOK x.s && (coOK x.l && rcOK x.s x.r)) := by unfold snOK; rw [Bool.and_assoc]
def readB (n : Nat) (r : Rc) (f : Int) (p : Pc) : Bool := decide (f ≥ 0) && (decide (f < n) && (decide (p.near ≥ r.nl) && (decide (p.near ≤ r.nh) && (decide (p.x ≥ r.xl) && (decide (p.x ≤ r.xh) && decide (p.y = r.y))))))
def wholeB (s : Sg) (c : List (List UInt8)) : Bool := siOK s c && decide (cnt 63 c = 0)
theorem short_pure (l : List (List UInt8)) : APure Tryz.prog 23 [strs l] (B (shortB l)) := by
  refine apure_of (rs := [.tmp 2]) Tryz.func23 rfl rfl (Nat.le_of_ble_eq_true rfl) (by simp [AV.pureL, AV.pureB, AV.pureE, pureE_map]) (by first | rfl | (simp [AV.pureL, AV.pureB, AV.pureE, pureE_map])) fun e0 he0 => ?_
  refine W 2 ?_
  refine aw_loopk (ι := { k : Nat // k ≤ l.length ∧ k ≤ 20 ∧ ∀ i, (h : i < l.length) → i < k → decide (l[i].length ≤ 20) = true }) [0] (fun g => [(3, I g.1)]) (fun H g => H) (fun g => 20 - g.1) (⟨0, Nat.zero_le _, by omega, by omega⟩) ⟨J, J, trivial⟩ rfl ?_
  rintro ⟨k, hk, hok⟩
  dsimp only [keepS, St.put, sget, slotsOf, nn1, nn2, nn3, nn4, nn5, nn6, Nat.reduceBEq, Nat.reduceAdd, nn7, nn8]
  refine W 5 ?_
  refine sq_split 8 J (fun g2_4 => ?_) (fun g2_4 => ?_)
  · skip
    have g2_4' := g2_4
    try simp only [qq] at g2_4'
    have hkL : k < l.length := by omega
    refine W 3 ?_
    refine aw_cond J (fun c_11 => ?_) (fun c_11 => ?_)
    · skip
      have c_11' := c_11
      try simp only [qq] at c_11'
      refine W 6 ?_
      refine iff (fun c_19 c_19' => ?_) (fun c_19 c_19' => ?_)
      · skip
        refine W 1 ?_
        exact retQ_pure (v := .raw _) rfl rfl (Less.eq (by rw [shortB, allT_no (i := k) (n := 20) hkL (by omega) (by simp only [decide_eq_false_iff_not]; omega)]; rfl))
      · skip
        refine V 3 ?_
        refine sq_nil ?_
        have hgood : decide (l[k].length ≤ 20) = true := by simp only [decide_eq_true_eq]; omega
        exact ⟨⟨k + 1, by omega, by omega, fun i h hi => (by by_cases e : i = k; (subst e; exact hgood); exact hok.2 i h (by omega))⟩, by simp only; omega, Sub.slots ⟨J, J, trivial⟩⟩
    · skip
      have c_11' := c_11
      try simp only [qq] at c_11'
      refine W 4 ?_
      exact retQ_pure (v := .raw _) rfl rfl (Less.eq (by rw [shortB, allT_yes (n := 20) (fun i h hi => hok.2 i h (by omega))]; simp; omega))
  · skip
    have g2_4' := g2_4
    try simp only [qq] at g2_4'
    refine W 8 ?_
    exact retQ_pure (v := .raw _) rfl rfl (Less.eq (by rw [shortB, allT_yes (n := 20) (fun i h hi => hok.2 i h (by omega))]; simp; omega))
theorem few_pure (l : List Fg) : APure Tryz.prog 34 [figs l] (B (fewB l)) := by
 refine apure_of (rs := [.tmp 2]) Tryz.func34 rfl rfl (Nat.le_of_ble_eq_true rfl) (by simp [AV.pureL, AV.pureB, AV.pureE, pureE_map]) (by first | rfl | (simp [AV.pureL, AV.pureB, AV.pureE, pureE_map])) fun e0 he0 => ?_
 refine W 2 ?_
 refine aw_loopk (ι := { k : Nat // k ≤ l.length ∧ k ≤ 9 ∧ ∀ i, (h : i < l.length) → i < k → shortB l[i] = true }) [0] (fun g => [(3, I g.1)]) (fun H g => H) (fun g => 9 - g.1) (⟨0, Nat.zero_le _, by omega, by omega⟩) ⟨J, J, trivial⟩ rfl ?_
 rintro ⟨k, hk, hok⟩
 dsimp only [keepS, St.put, sget, slotsOf, nn1, nn2, nn3, nn4, nn5, nn6, Nat.reduceBEq, Nat.reduceAdd, nn7, nn8]
 refine W 5 ?_
 refine sq_split 8 J (fun g2_4 => ?_) (fun g2_4 => ?_)
 ·
  have g2_4' := g2_4
  try simp only [qq] at g2_4'
  have hkL : k < l.length := by omega
  refine W 3 ?_
  refine aw_cond J (fun c_11 => ?_) (fun c_11 => ?_)
  ·
   have c_11' := c_11
   try simp only [qq] at c_11'
   refine W 5 ?_
   refine cl A (short_pure _) ?_
   refine W 1 ?_
   refine aw_cond J (fun c_20 => ?_) (fun c_20 => ?_)
   ·
    have c_20' := c_20
    try simp only [qq] at c_20'
    refine W 1 ?_
    exact retQ_pure (v := .raw _) rfl rfl (Less.eq (by rw [fewB, allT_no (i := k) (n := 9) hkL (by omega) (by simpa using c_20)]; rfl))
   have c_20' := c_20
   try simp only [qq] at c_20'
   refine V 3 ?_
   refine sq_nil ?_
   have hgood : shortB l[k] = true := by simpa using c_20
   exact ⟨⟨k + 1, by omega, by omega, fun i h hi => (by by_cases e : i = k; (subst e; exact hgood); exact hok.2 i h (by omega))⟩, by simp only; omega, Sub.slots ⟨J, J, trivial⟩⟩
  have c_11' := c_11
  try simp only [qq] at c_11'
  refine W 4 ?_
  exact retQ_pure (v := .raw _) rfl rfl (Less.eq (by rw [fewB, allT_yes (n := 9) (fun i h hi => hok.2 i h (by omega))]; simp; omega))
 have g2_4' := g2_4
 try simp only [qq] at g2_4'
 refine W 8 ?_
 exact retQ_pure (v := .raw _) rfl rfl (Less.eq (by rw [fewB, allT_yes (n := 9) (fun i h hi => hok.2 i h (by omega))]; simp; omega))
theorem rfigures_pure (l : List Fg) : APure Tryz.prog 85 [figs l] (B ((l.take 6).all fgOK && decide (l.length ≤ 6))) := by
 refine apure_of (rs := [.tmp 2]) Tryz.func85 rfl rfl (Nat.le_of_ble_eq_true rfl) (by simp [AV.pureL, AV.pureB, AV.pureE, pureE_map]) (by first | rfl | (simp [AV.pureL, AV.pureB, AV.pureE, pureE_map])) fun e0 he0 => ?_
 refine W 2 ?_
 refine aw_loopk (ι := { k : Nat // k ≤ l.length ∧ k ≤ 6 ∧ ∀ i, (h : i < l.length) → i < k → fgOK l[i] = true }) [0] (fun g => [(3, I g.1)]) (fun H g => H) (fun g => 6 - g.1) (⟨0, Nat.zero_le _, by omega, by omega⟩) ⟨J, J, trivial⟩ rfl ?_
 rintro ⟨k, hk, hok⟩
 dsimp only [keepS, St.put, sget, slotsOf, nn1, nn2, nn3, nn4, nn5, nn6, Nat.reduceBEq, Nat.reduceAdd, nn7, nn8]
 refine W 5 ?_
 refine sq_split 8 J (fun g2_4 => ?_) (fun g2_4 => ?_)
 ·
  have g2_4' := g2_4
  try simp only [qq] at g2_4'
  have hkL : k < l.length := by omega
  refine W 3 ?_
  refine aw_cond J (fun c_11 => ?_) (fun c_11 => ?_)
  ·
   have c_11' := c_11
   try simp only [qq] at c_11'
   refine W 4 ?_
   refine cl A (rfigure_pure _) ?_
   refine W 1 ?_
   refine aw_cond J (fun c_19 => ?_) (fun c_19 => ?_)
   ·
    have c_19' := c_19
    try simp only [qq] at c_19'
    refine W 1 ?_
    exact retQ_pure (v := .raw _) rfl rfl (Less.eq (by rw [allT_no (i := k) (n := 6) hkL (by omega) (by simpa using c_19)]; rfl))
   have c_19' := c_19
   try simp only [qq] at c_19'
   refine V 3 ?_
   refine sq_nil ?_
   have hgood : fgOK l[k] = true := by simpa using c_19
   exact ⟨⟨k + 1, by omega, by omega, fun i h hi => (by by_cases e : i = k; (subst e; exact hgood); exact hok.2 i h (by omega))⟩, by simp only; omega, Sub.slots ⟨J, J, trivial⟩⟩
  have c_11' := c_11
  try simp only [qq] at c_11'
  refine W 4 ?_
  exact retQ_pure (v := .raw _) rfl rfl (Less.eq (by rw [allT_yes (n := 6) (fun i h hi => hok.2 i h (by omega))]; simp; omega))
 have g2_4' := g2_4
 try simp only [qq] at g2_4'
 refine W 8 ?_
 exact retQ_pure (v := .raw _) rfl rfl (Less.eq (by rw [allT_yes (n := 6) (fun i h hi => hok.2 i h (by omega))]; simp; omega))
theorem rcompany_pure (l : List Fg) : APure Tryz.prog 111 [figs l] (B (coOK l)) := by
 refine apure_of (rs := [.tmp 2]) Tryz.func111 rfl rfl (Nat.le_of_ble_eq_true rfl) (by simp [AV.pureL, AV.pureB, AV.pureE, pureE_map]) (by first | rfl | (simp [AV.pureL, AV.pureB, AV.pureE, pureE_map])) fun e0 he0 => ?_
 refine W 5 ?_
 refine sq_split 6 J (fun g1_3 => ?_) (fun g1_3 => ?_)
 ·
  have g1_3' := g1_3
  try simp only [qq] at g1_3'
  refine W 1 ?_
  refine cy A (rfigures_pure l) ?_
  refine W 2 ?_
  exact retQ_pure (v := .raw _) rfl rfl (Less.eq (by rw [coOK_ref]; simp [*] <;> (intros; omega)))
 have g1_3' := g1_3
 try simp only [qq] at g1_3'
 refine W 4 ?_
 exact retQ_pure (v := .raw _) rfl rfl (Less.eq (by rw [coOK_ref]; simp [*] <;> (intros; omega)))
theorem rspan_pure (a b : Int) (h1 : -1000 ≤ a ∧ a ≤ 1000) (h2 : -1000 ≤ b ∧ b ≤ 1000) : APure Tryz.prog 154 [.agg [I a, I b]] (B (spn a b)) := by
 refine apure_of (rs := [.tmp 2]) Tryz.func154 rfl rfl (Nat.le_of_ble_eq_true rfl) (by simp [AV.pureL, AV.pureB, AV.pureE, pureE_map]) (by first | rfl | (simp [AV.pureL, AV.pureB, AV.pureE, pureE_map])) fun e0 he0 => ?_
 refine W 8 ?_
 refine sq_split 8 J (fun g1_5 => ?_) (fun g1_5 => ?_)
 ·
  have g1_5' := g1_5
  try simp only [qq] at g1_5'
  refine W 8 ?_
  exact retQ_pure (v := .raw _) rfl rfl (Less.eq (by unfold spn; simp [*]))
 have g1_5' := g1_5
 try simp only [qq] at g1_5'
 refine W 8 ?_
 exact retQ_pure (v := .raw _) rfl rfl (Less.eq (by unfold spn; simp [*]))
theorem rreach_pure (s : Sg) (r : Rc) (h : 2 ≤ s.far ∧ s.far ≤ 40) : APure Tryz.prog 112 [stA s, rcA r] (B (rcOK s r)) := by
 refine apure_of (rs := [.tmp 4]) Tryz.func112 rfl rfl (Nat.le_of_ble_eq_true rfl) (by simp [AV.pureL, AV.pureB, AV.pureE, pureE_map]) (by first | rfl | (simp [AV.pureL, AV.pureB, AV.pureE, pureE_map])) fun e0 he0 => ?_
 refine W 9 ?_
 refine cl A (rin_pure _ _ _) ?_
 refine W 1 ?_
 refine sq_split 12 J (fun g1_7 => ?_) (fun g1_7 => ?_)
 ·
  have g1_7' := g1_7
  try simp only [qq] at g1_7'
  refine W 6 ?_
  refine cy A (rin_pure _ _ _) ?_
  refine W 2 ?_
  refine sq_split 21 J (fun g1_16 => ?_) (fun g1_16 => ?_)
  ·
   have g1_16' := g1_16
   try simp only [qq] at g1_16'
   refine W 2 ?_
   refine cy A (rspan_pure r.nl r.nh (by have := g1_7; unfold inn at this; simp only [Bool.and_eq_true, decide_eq_true_eq] at this; omega) (by have := g1_16; unfold inn at this; simp only [Bool.and_eq_true, decide_eq_true_eq] at this; omega)) ?_
   refine W 2 ?_
   refine sq_split 26 J (fun g1_21 => ?_) (fun g1_21 => ?_)
   ·
    have g1_21' := g1_21
    try simp only [qq] at g1_21'
    refine W 5 ?_
    refine cy A (rat_pure _ _) ?_
    refine W 2 ?_
    refine sq_split 34 J (fun g1_29 => ?_) (fun g1_29 => ?_)
    ·
     have g1_29' := g1_29
     try simp only [qq] at g1_29'
     refine W 5 ?_
     refine cy A (rat_pure _ _) ?_
     refine W 2 ?_
     refine sq_split 42 J (fun g1_37 => ?_) (fun g1_37 => ?_)
     ·
      have g1_37' := g1_37
      try simp only [qq] at g1_37'
      refine W 2 ?_
      refine cy A (rspan_pure r.xl r.xh (by have := g1_29; unfold awayOK inn at this; simp only [Bool.and_eq_true, decide_eq_true_eq] at this; omega) (by have := g1_37; unfold awayOK inn at this; simp only [Bool.and_eq_true, decide_eq_true_eq] at this; omega)) ?_
      refine W 2 ?_
      exact retQ_pure (v := .raw _) rfl rfl (Less.eq (by rw [rcOK_eq]; first | (simp [*]; done) | (cases hq : awayOK r.xh <;> cases hq2 : awayOK r.y <;> simp_all)))
     have g1_37' := g1_37
     try simp only [qq] at g1_37'
     refine W 5 ?_
     exact retQ_pure (v := .raw _) rfl rfl (Less.eq (by rw [rcOK_eq]; first | (simp [*]; done) | (cases hq : awayOK r.xh <;> cases hq2 : awayOK r.y <;> simp_all)))
    have g1_29' := g1_29
    try simp only [qq] at g1_29'
    refine W 13 ?_
    exact retQ_pure (v := .raw _) rfl rfl (Less.eq (by rw [rcOK_eq]; first | (simp [*]; done) | (cases hq : awayOK r.xh <;> cases hq2 : awayOK r.y <;> simp_all)))
   have g1_21' := g1_21
   try simp only [qq] at g1_21'
   refine W 21 ?_
   exact retQ_pure (v := .raw _) rfl rfl (Less.eq (by rw [rcOK_eq]; first | (simp [*]; done) | (cases hq : awayOK r.xh <;> cases hq2 : awayOK r.y <;> simp_all)))
  have g1_16' := g1_16
  try simp only [qq] at g1_16'
  refine W 26 ?_
  exact retQ_pure (v := .raw _) rfl rfl (Less.eq (by rw [rcOK_eq]; first | (simp [*]; done) | (cases hq : awayOK r.xh <;> cases hq2 : awayOK r.y <;> simp_all)))
 have g1_7' := g1_7
 try simp only [qq] at g1_7'
 refine W 35 ?_
 exact retQ_pure (v := .raw _) rfl rfl (Less.eq (by rw [rcOK_eq]; first | (simp [*]; done) | (cases hq : awayOK r.xh <;> cases hq2 : awayOK r.y <;> simp_all)))
theorem asked_pure (x : Sn) (is : Bool) : APure Tryz.prog 36 [stA x.s, figs x.l, rcA x.r, B is] (I (askE x is)) := by
 refine apure_of (rs := [.tmp 8]) Tryz.func36 rfl rfl (Nat.le_of_ble_eq_true rfl) (by simp [AV.pureL, AV.pureB, AV.pureE, pureE_map]) (by first | rfl | (simp [AV.pureL, AV.pureB, AV.pureE, pureE_map])) fun e0 he0 => ?_
 refine W 4 ?_
 refine cl A (rstage_pure x.s) ?_
 refine W 2 ?_
 refine sq_split 12 J (fun g1_3 => ?_) (fun g1_3 => ?_)
 ·
  have g1_3' := g1_3
  try simp only [qq] at g1_3'
  refine W 16 ?_
  exact retQ_pure (v := .raw _) rfl rfl (Less.eq (by unfold askE; rw [snOK_eq]; simp_all))
 have g1_3' := g1_3
 try simp only [qq] at g1_3'
 refine W 1 ?_
 refine cy A (rcompany_pure x.l) ?_
 refine W 3 ?_
 refine sq_split 17 J (fun g1_8 => ?_) (fun g1_8 => ?_)
 ·
  have g1_8' := g1_8
  try simp only [qq] at g1_8'
  refine W 11 ?_
  exact retQ_pure (v := .raw _) rfl rfl (Less.eq (by unfold askE; rw [snOK_eq]; simp_all))
 have g1_8' := g1_8
 try simp only [qq] at g1_8'
 refine W 2 ?_
 refine cy A (rreach_pure x.s x.r (stOK_iff.1 (by simpa using g1_3)).2.2.1) ?_
 refine W 3 ?_
 refine sq_split 23 J (fun g1_14 => ?_) (fun g1_14 => ?_)
 ·
  have g1_14' := g1_14
  try simp only [qq] at g1_14'
  refine W 5 ?_
  exact retQ_pure (v := .raw _) rfl rfl (Less.eq (by unfold askE; rw [snOK_eq]; simp_all))
 have g1_14' := g1_14
 try simp only [qq] at g1_14'
 refine W 3 ?_
 refine aw_cond J (fun c_26 => ?_) (fun c_26 => ?_)
 ·
  have c_26' := c_26
  try simp only [qq] at c_26'
  refine W 1 ?_
  exact retQ_pure (v := .raw _) rfl rfl (Less.eq (by unfold askE; rw [snOK_eq]; simp_all))
 have c_26' := c_26
 try simp only [qq] at c_26'
 refine W 1 ?_
 exact retQ_pure (v := .raw _) rfl rfl (Less.eq (by unfold askE; rw [snOK_eq]; simp_all))
theorem rsight_pure (s : Sg) (l : List (List UInt8)) (hs : shp l) : APure Tryz.prog 37 [stA s, strs l] (B (siOK s l)) := by
 refine apure_of (rs := [.tmp 4]) Tryz.func37 rfl rfl (Nat.le_of_ble_eq_true rfl) (by simp [AV.pureL, AV.pureB, AV.pureE, pureE_map]) (by first | rfl | (simp [AV.pureL, AV.pureB, AV.pureE, pureE_map])) fun e0 he0 => ?_
 refine W 7 ?_
 refine ifn (fun c_12 c_12' => ?_) (fun c_12 c_12' => ?_)
 ·
  refine W 1 ?_
  exact retQ_pure (v := .raw _) rfl rfl (Less.eq (by unfold siOK; rw [decide_eq_false c_12']; rfl))
 have hlen : (l.length : Int) = s.high := by omega
 refine W 1 ?_
 refine aw_loopk (ι := { m : Nat // m ≤ l.length ∧ ∀ i, (h : i < l.length) → i < m → siRow s.wide l[i] = true }) [1, 2] (fun g => [(5, I g.1)]) (fun H g => H) (fun g => l.length - g.1) (⟨0, Nat.zero_le _, by omega⟩) ⟨J, J, J, trivial⟩ rfl ?_
 rintro ⟨m, hm, hok⟩
 dsimp only [keepS, St.put, sget, slotsOf, nn1, nn2, nn3, nn4, nn5, nn6, Nat.reduceBEq, Nat.reduceAdd, nn7, nn8]
 have hs1 := hs.1
 refine W 4 ?_
 refine iff (fun c_16 c_16' => ?_) (fun c_16 c_16' => ?_)
 ·
  have hmL : m < l.length := by omega
  have hrl := hs.2 _ (List.getElem_mem hmL)
  refine W 0 ?_
  refine aw_draw 8 mo (by kernel_rfl) ?_
  refine WD 8 ?_
  refine W 0 ?_
  refine ifn (fun c_26 c_26' => ?_) (fun c_26 c_26' => ?_)
  ·
   refine W 1 ?_
   exact retQ_pure (v := .raw _) rfl rfl (Less.eq (by rw [siOK_bad hmL (by rw [siRow_eq, decide_eq_false (by simpa using c_26')]; rfl)]))
  refine W 1 ?_
  refine aw_loopk (ι := { k : Nat // k ≤ l[m].length ∧ ∀ i, (h : i < l[m].length) → i < k → sBad l[m][i] = false }) [1, 2, 5] (fun g => [(6, I g.1)]) (fun H g => H) (fun g => l[m].length - g.1) (⟨0, Nat.zero_le _, by omega⟩) ⟨J, J, J, J, trivial⟩ rfl ?_
  rintro ⟨k, hk, hok2⟩
  dsimp only [keepS, St.put, sget, slotsOf, nn1, nn2, nn3, nn4, nn5, nn6, Nat.reduceBEq, Nat.reduceAdd, nn7, nn8]
  refine W 7 ?_
  refine iff (fun c_33 c_33' => ?_) (fun c_33 c_33' => ?_)
  ·
   have hkL : k < l[m].length := by omega
   refine W 10 ?_
   refine sq_split 44 J (fun g12_2 => ?_) (fun g12_2 => ?_)
   ·
    have g12_2' := g12_2
    try simp only [qq] at g12_2'
    refine W 4 ?_
    refine sq_split 48 J (fun g12_6 => ?_) (fun g12_6 => ?_)
    ·
     have g12_6' := g12_6
     try simp only [qq] at g12_6'
     refine W 4 ?_
     refine sq_split 52 J (fun g12_10 => ?_) (fun g12_10 => ?_)
     ·
      have g12_10' := g12_10
      try simp only [qq] at g12_10'
      refine W 3 ?_
      refine aw_cond J (fun c_55 => ?_) (fun c_55 => ?_)
      ·
       have c_55' := c_55
       try simp only [qq] at c_55'
       refine W 1 ?_
       exact retQ_pure (v := .raw _) rfl rfl (Less.eq (by rw [siOK_bad hmL (by rw [siRow_eq, List.any_eq_true.2 ⟨_, List.getElem_mem hkL, by rw [sBad_eq]; simp only [dec35n, dec43n, dec46n, dec63n] at *; simp_all⟩]; simp)]))
      have c_55' := c_55
      try simp only [qq] at c_55'
      refine V 3 ?_
      refine sq_nil ?_
      have hgood2 : sBad l[m][k] = false := by rw [sBad_eq]; simp only [dec35n, dec43n, dec46n, dec63n] at *; simp_all
      exact ⟨⟨k + 1, by omega, fun i h hi => (by by_cases e : i = k; (subst e; exact hgood2); exact hok2 i h (by omega))⟩, by simp only; omega, Sub.slots ⟨J, J, J, J, trivial⟩⟩
     have g12_10' := g12_10
     try simp only [qq] at g12_10'
     refine V 7 ?_
     refine sq_nil ?_
     have hgood2 : sBad l[m][k] = false := by rw [sBad_eq]; simp only [dec35n, dec43n, dec46n, dec63n] at *; simp_all
     exact ⟨⟨k + 1, by omega, fun i h hi => (by by_cases e : i = k; (subst e; exact hgood2); exact hok2 i h (by omega))⟩, by simp only; omega, Sub.slots ⟨J, J, J, J, trivial⟩⟩
    have g12_6' := g12_6
    try simp only [qq] at g12_6'
    refine V 11 ?_
    refine sq_nil ?_
    have hgood2 : sBad l[m][k] = false := by rw [sBad_eq]; simp only [dec35n, dec43n, dec46n, dec63n] at *; simp_all
    exact ⟨⟨k + 1, by omega, fun i h hi => (by by_cases e : i = k; (subst e; exact hgood2); exact hok2 i h (by omega))⟩, by simp only; omega, Sub.slots ⟨J, J, J, J, trivial⟩⟩
   have g12_2' := g12_2
   try simp only [qq] at g12_2'
   refine V 15 ?_
   refine sq_nil ?_
   have hgood2 : sBad l[m][k] = false := by rw [sBad_eq]; simp only [dec35n, dec43n, dec46n, dec63n] at *; simp_all
   exact ⟨⟨k + 1, by omega, fun i h hi => (by by_cases e : i = k; (subst e; exact hgood2); exact hok2 i h (by omega))⟩, by simp only; omega, Sub.slots ⟨J, J, J, J, trivial⟩⟩
  refine V 3 ?_
  refine sq_nil ?_
  have hgood : siRow s.wide l[m] = true := by rw [siRow_eq, decide_eq_true (by simpa using c_26'), List.any_eq_false.2 (fun q hq => by obtain ⟨i, hi, rfl⟩ := List.getElem_of_mem hq; simp [hok2 i hi (by omega)])]; rfl
  exact ⟨⟨m + 1, by omega, fun i h hi => (by by_cases e : i = m; (subst e; exact hgood); exact hok i h (by omega))⟩, by simp only; omega, Sub.slots ⟨J, J, J, trivial⟩⟩
 refine W 1 ?_
 exact retQ_pure (v := .raw _) rfl rfl (Less.eq (by rw [siOK_end hlen (fun i hi => hok i hi (by omega))]))
end Go.Proofs.YtmbknoaneglilaaGreatDoor
namespace Go.Proofs.YtmbknoaneglilaaGreatDoor
open Go Go.Ab Ni Ol
def cntR (ch : UInt8) (r : List UInt8) (k : Nat) : Int := ((r.take k).count ch : Int)
theorem cntR_succ {ch : UInt8} {r : List UInt8} {k : Nat} (h : k < r.length) : cntR ch r (k + 1) = cntR ch r k + (if r[k] = ch then 1 else 0) := by
  unfold cntR; rw [List.take_succ_eq_append_getElem h, List.count_append]
  by_cases e : r[k] = ch
  · rw [if_pos e, e]; simp
  · rw [if_neg e]; simp [List.count_singleton, e]
theorem cntR_bd (ch : UInt8) (r : List UInt8) (k : Nat) : 0 ≤ cntR ch r k ∧ cntR ch r k ≤ k := by
  unfold cntR
  have h1 := List.count_le_length (a := ch) (l := r.take k)
  rw [List.length_take] at h1
  omega
theorem cntR_all (ch : UInt8) (r : List UInt8) : cntR ch r r.length = (r.count ch : Int) := by unfold cntR; rw [List.take_length]
theorem rcount_pure (l : List (List UInt8)) (ch : UInt8) (hl : l.length ≤ 1000) (hr : ∀ r ∈ l, r.length ≤ 1000) : APure Tryz.prog 41 [strs l, C ch] (I (cnt ch l)) := by
  refine apure_of (rs := [.tmp 4]) Tryz.func41 rfl rfl (Nat.le_of_ble_eq_true rfl) (by simp [AV.pureL, AV.pureB, AV.pureE, pureE_map]) (by first | rfl | (simp [AV.pureL, AV.pureB, AV.pureE, pureE_map])) fun e0 he0 => ?_
  refine W 3 ?_
  refine aw_loopk (ι := { m : Nat // m ≤ l.length }) [0, 1] (fun g => [(5, I (cnt ch (l.take g.1))), (6, I g.1)]) (fun H g => H) (fun g => l.length - g.1) (⟨0, Nat.zero_le _⟩) ⟨J, J, J, J, trivial⟩ rfl ?_
  rintro ⟨m, hm⟩
  dsimp only [keepS, St.put, sget, slotsOf, nn1, nn2, nn3, nn4, nn5, nn6, Nat.reduceBEq, Nat.reduceAdd, nn7, nn8]
  have hb := cnt_bd ch (l.take m) 1000 (fun r h => hr r (List.mem_of_mem_take h))
  have hb2 : ((l.take m).length : Int) * (1000 : Nat) ≤ 1000000 := by rw [List.length_take]; omega
  refine W 4 ?_
  refine iff (fun c_11 c_11' => ?_) (fun c_11 c_11' => ?_)
  · skip
    have hmL : m < l.length := by omega
    have hrl := hr _ (List.getElem_mem hmL)
    refine W 1 ?_
    refine aw_loopk (ι := { k : Nat // k ≤ l[m].length }) [0, 1, 6] (fun g => [(5, I (cnt ch (l.take m) + cntR ch l[m] g.1)), (7, I g.1)]) (fun H g => H) (fun g => l[m].length - g.1) (⟨0, Nat.zero_le _⟩) ⟨(by exact less_int (by simp [cntR])), J, J, J, J, trivial⟩ rfl ?_
    rintro ⟨k, hk⟩
    dsimp only [keepS, St.put, sget, slotsOf, nn1, nn2, nn3, nn4, nn5, nn6, Nat.reduceBEq, Nat.reduceAdd, nn7, nn8]
    have hbr := cntR_bd ch l[m] k
    refine W 7 ?_
    refine iff (fun c_20 c_20' => ?_) (fun c_20 c_20' => ?_)
    · skip
      have hkL : k < l[m].length := by omega
      refine W 8 ?_
      refine iff (fun c_30 c_30' => ?_) (fun c_30 c_30' => ?_)
      · skip
        have eR : cntR ch l[m] (k + 1) = cntR ch l[m] k + 1 := by rw [cntR_succ hkL, if_pos (UInt8.toNat_inj.1 (by omega))]
        refine W 6 ?_
        exact ⟨⟨k + 1, by omega⟩, by simp only; omega, Sub.slots ⟨(by exact less_int (by rw [eR]; omega)), J, J, J, J, trivial⟩⟩
      · skip
        have eR : cntR ch l[m] (k + 1) = cntR ch l[m] k + 0 := by rw [cntR_succ hkL, if_neg (fun h => c_30' (by rw [h]))]
        refine W 3 ?_
        exact ⟨⟨k + 1, by omega⟩, by simp only; omega, Sub.slots ⟨(by exact less_int (by rw [eR]; omega)), J, J, J, J, trivial⟩⟩
    · skip
      obtain rfl : k = l[m].length := by omega
      have eC : cnt ch (l.take m) + cntR ch l[m] l[m].length = cnt ch (l.take (m + 1)) := by rw [cntR_all, cnt_take hmL]
      refine W 3 ?_
      exact ⟨⟨m + 1, by omega⟩, by simp only; omega, Sub.slots ⟨(by exact less_int eC), J, J, J, trivial⟩⟩
  · skip
    obtain rfl : m = l.length := by omega
    refine W 2 ?_
    exact retQ_pure (v := .raw _) rfl rfl (Less.eq (by rw [List.take_length]))
theorem rcell_pure (s : Sg) (l : List (List UInt8)) (k : Nat) (hs : stOK s = true) (hc : Clo s l) (hk : (k : Int) < s.wide * s.high) : APure Tryz.prog 42 [stA s, strs l, I k] (C (chAt s.wide l k)) := by
 refine apure_of (rs := [.tmp 6]) Tryz.func42 rfl rfl (Nat.le_of_ble_eq_true rfl) (by simp [AV.pureL, AV.pureB, AV.pureE, pureE_map]) (by first | rfl | (simp [AV.pureL, AV.pureB, AV.pureE, pureE_map])) fun e0 he0 => ?_
 have hsb := stOK_iff.1 hs
 have hwh := wh_bd hs
 obtain ⟨h1, h2, h3⟩ := chAt_get hs hc hk
 have hlr : l[k / s.wide.toNat].length = s.wide.toNat := hc.row _ (List.getElem_mem h1)
 refine W 2 ?_
 refine aw_draw 13 mo (by kernel_rfl) ?_
 refine WD 4 ?_
 refine dr_ev rfl (ev_quo (q := ((k / s.wide.toNat : Nat) : Int)) J J (by omega) (quo_nat (by omega) (by omega))) ?_
 refine dr_ev rfl (ev_index_map (k := k / s.wide.toNat) sl24.h J J rfl h1) ?_
 refine WD 4 ?_
 refine dr_ev rfl (ev_less (ev_rem J J (by omega)) (less_int (rem_nat (by omega)))) ?_
 refine WD 2 ?_
 refine W 0 ?_
 exact retQ_pure (v := .raw _) rfl rfl (Less.eq (by rw [h3]))
theorem ropposed_pure (a b : UInt8) : APure Tryz.prog 72 [C a, C b] (B (opp a b)) := by
 refine apure_of (rs := [.tmp 4]) Tryz.func72 rfl rfl (Nat.le_of_ble_eq_true rfl) (by simp [AV.pureL, AV.pureB, AV.pureE, pureE_map]) (by first | rfl | (simp [AV.pureL, AV.pureB, AV.pureE, pureE_map])) fun e0 he0 => ?_
 refine W 4 ?_
 refine sq_split 7 J (fun g1_2 => ?_) (fun g1_2 => ?_)
 ·
  have g1_2' := g1_2
  try simp only [qq] at g1_2'
  refine W 4 ?_
  refine sq_split 11 J (fun g1_6 => ?_) (fun g1_6 => ?_)
  ·
   have g1_6' := g1_6
   try simp only [qq] at g1_6'
   refine W 8 ?_
   exact retQ_pure (v := .raw _) rfl rfl (Less.eq (by unfold opp; simp only [dec35, dec46] at *; simp [*]))
  have g1_6' := g1_6
  try simp only [qq] at g1_6'
  refine W 3 ?_
  refine sq_split 14 J (fun g1_9 => ?_) (fun g1_9 => ?_)
  ·
   have g1_9' := g1_9
   try simp only [qq] at g1_9'
   refine W 5 ?_
   exact retQ_pure (v := .raw _) rfl rfl (Less.eq (by unfold opp; simp only [dec35, dec46] at *; simp [*]))
  have g1_9' := g1_9
  try simp only [qq] at g1_9'
  refine W 5 ?_
  exact retQ_pure (v := .raw _) rfl rfl (Less.eq (by unfold opp; simp only [dec35, dec46] at *; simp [*]))
 have g1_2' := g1_2
 try simp only [qq] at g1_2'
 refine W 7 ?_
 refine sq_split 14 J (fun g1_9 => ?_) (fun g1_9 => ?_)
 ·
  have g1_9' := g1_9
  try simp only [qq] at g1_9'
  refine W 5 ?_
  exact retQ_pure (v := .raw _) rfl rfl (Less.eq (by unfold opp; simp only [dec35, dec46] at *; simp [*]))
 have g1_9' := g1_9
 try simp only [qq] at g1_9'
 refine W 5 ?_
 exact retQ_pure (v := .raw _) rfl rfl (Less.eq (by unfold opp; simp only [dec35, dec46] at *; simp [*]))
theorem whole_pure (s : Sg) (c : List (List UInt8)) (hc : shp c) : APure Tryz.prog 29 [stA s, strs c] (B (wholeB s c)) := by
 refine apure_of (rs := [.tmp 4]) Tryz.func29 rfl rfl (Nat.le_of_ble_eq_true rfl) (by simp [AV.pureL, AV.pureB, AV.pureE, pureE_map]) (by first | rfl | (simp [AV.pureL, AV.pureB, AV.pureE, pureE_map])) fun e0 he0 => ?_
 refine W 4 ?_
 refine cl A (rsight_pure s c hc) ?_
 refine W 1 ?_
 refine sq_split 8 J (fun g1_3 => ?_) (fun g1_3 => ?_)
 ·
  have g1_3' := g1_3
  try simp only [qq] at g1_3'
  refine W 1 ?_
  refine cy A (rcount_pure c 63 hc.1 hc.2) ?_
  refine W 3 ?_
  exact retQ_pure (v := .raw _) rfl rfl (Less.eq (by unfold wholeB; simp [*]))
 have g1_3' := g1_3
 try simp only [qq] at g1_3'
 refine W 5 ?_
 exact retQ_pure (v := .raw _) rfl rfl (Less.eq (by unfold wholeB; simp [*]))
theorem reading_pure (l : List Fg) (r : Rc) (f : Int) (p : Pc) : APure Tryz.prog 49 [figs l, rcA r, .agg [I f, I p.near, I p.x, I p.y]] (B (readB l.length r f p)) := by
 refine apure_of (rs := [.tmp 6]) Tryz.func49 rfl rfl (Nat.le_of_ble_eq_true rfl) (by simp [AV.pureL, AV.pureB, AV.pureE, pureE_map]) (by first | rfl | (simp [AV.pureL, AV.pureB, AV.pureE, pureE_map])) fun e0 he0 => ?_
 refine W 11 ?_
 refine sq_split 13 J (fun g2_3 => ?_) (fun g2_3 => ?_)
 ·
  have g2_3' := g2_3
  try simp only [qq] at g2_3'
  refine W 7 ?_
  refine sq_split 20 J (fun g2_10 => ?_) (fun g2_10 => ?_)
  ·
   have g2_10' := g2_10
   try simp only [qq] at g2_10'
   refine W 8 ?_
   refine sq_split 28 J (fun g2_18 => ?_) (fun g2_18 => ?_)
   ·
    have g2_18' := g2_18
    try simp only [qq] at g2_18'
    refine W 8 ?_
    refine sq_split 36 J (fun g2_26 => ?_) (fun g2_26 => ?_)
    ·
     have g2_26' := g2_26
     try simp only [qq] at g2_26'
     refine W 8 ?_
     refine sq_split 44 J (fun g2_34 => ?_) (fun g2_34 => ?_)
     ·
      have g2_34' := g2_34
      try simp only [qq] at g2_34'
      refine W 8 ?_
      refine sq_split 52 J (fun g2_42 => ?_) (fun g2_42 => ?_)
      ·
       have g2_42' := g2_42
       try simp only [qq] at g2_42'
       refine W 7 ?_
       exact retQ_pure (v := .raw _) rfl rfl (Less.eq (by unfold readB; simp [*]))
      have g2_42' := g2_42
      try simp only [qq] at g2_42'
      refine W 7 ?_
      exact retQ_pure (v := .raw _) rfl rfl (Less.eq (by unfold readB; simp [*]))
     have g2_34' := g2_34
     try simp only [qq] at g2_34'
     refine W 15 ?_
     exact retQ_pure (v := .raw _) rfl rfl (Less.eq (by unfold readB; simp [*]))
    have g2_26' := g2_26
    try simp only [qq] at g2_26'
    refine W 23 ?_
    exact retQ_pure (v := .raw _) rfl rfl (Less.eq (by unfold readB; simp [*]))
   have g2_18' := g2_18
   try simp only [qq] at g2_18'
   refine W 31 ?_
   exact retQ_pure (v := .raw _) rfl rfl (Less.eq (by unfold readB; simp [*]))
  have g2_10' := g2_10
  try simp only [qq] at g2_10'
  refine W 39 ?_
  exact retQ_pure (v := .raw _) rfl rfl (Less.eq (by unfold readB; simp [*]))
 have g2_3' := g2_3
 try simp only [qq] at g2_3'
 refine W 46 ?_
 exact retQ_pure (v := .raw _) rfl rfl (Less.eq (by unfold readB; simp [*]))
theorem has_pure (l : List Int) (n : Int) (hl : l.length ≤ 1000000) : APure Tryz.prog 51 [ints l, I n] (B (decide (n ∈ l))) := by
 refine apure_of (rs := [.tmp 4]) Tryz.func51 rfl rfl (Nat.le_of_ble_eq_true rfl) (by simp [AV.pureL, AV.pureB, AV.pureE, pureE_map]) (by first | rfl | (simp [AV.pureL, AV.pureB, AV.pureE, pureE_map])) fun e0 he0 => ?_
 refine W 2 ?_
 refine aw_loopk (ι := { k : Nat // k ≤ l.length ∧ ∀ i, (h : i < l.length) → i < k → ¬ l[i] = n }) [0, 1] (fun g => [(5, I g.1)]) (fun H g => H) (fun g => l.length - g.1) (⟨0, Nat.zero_le _, by omega⟩) ⟨J, J, J, trivial⟩ rfl ?_
 rintro ⟨k, hk, hok⟩
 dsimp only [keepS, St.put, sget, slotsOf, nn1, nn2, nn3, nn4, nn5, nn6, Nat.reduceBEq, Nat.reduceAdd, nn7, nn8]
 refine W 4 ?_
 refine iff (fun c_9 c_9' => ?_) (fun c_9 c_9' => ?_)
 ·
  have hkL : k < l.length := by omega
  refine W 6 ?_
  refine iff (fun c_17 c_17' => ?_) (fun c_17 c_17' => ?_)
  ·
   refine W 1 ?_
   exact retQ_pure (v := .raw _) rfl rfl (Less.eq (by rw [decide_eq_true (c_17' ▸ List.getElem_mem hkL)]))
  refine W 3 ?_
  exact ⟨⟨k + 1, by omega, fun i h hi => (by by_cases e : i = k; (subst e; exact c_17'); exact hok i h (by omega))⟩, by simp only; omega, Sub.slots ⟨J, J, J, trivial⟩⟩
 refine W 1 ?_
 exact retQ_pure (v := .raw _) rfl rfl (Less.eq (by rw [decide_eq_false (fun h => by obtain ⟨i, hi, e⟩ := List.getElem_of_mem h; exact hok i hi (by omega) e)]))
theorem within_pure (l q : List Int) (hl : l.length ≤ 1000000) (hq : q.length ≤ 1000000) : APure Tryz.prog 53 [ints l, ints q] (B (q.all fun n => decide (n ∈ l))) := by
 refine apure_of (rs := [.tmp 4]) Tryz.func53 rfl rfl (Nat.le_of_ble_eq_true rfl) (by simp [AV.pureL, AV.pureB, AV.pureE, pureE_map]) (by first | rfl | (simp [AV.pureL, AV.pureB, AV.pureE, pureE_map])) fun e0 he0 => ?_
 refine W 2 ?_
 refine aw_loopk (ι := { k : Nat // k ≤ q.length ∧ ∀ i, (h : i < q.length) → i < k → decide (q[i] ∈ l) = true }) [0, 1] (fun g => [(5, I g.1)]) (fun H g => H) (fun g => q.length - g.1) (⟨0, Nat.zero_le _, by omega⟩) ⟨J, J, J, trivial⟩ rfl ?_
 rintro ⟨k, hk, hok⟩
 dsimp only [keepS, St.put, sget, slotsOf, nn1, nn2, nn3, nn4, nn5, nn6, Nat.reduceBEq, Nat.reduceAdd, nn7, nn8]
 refine W 4 ?_
 refine iff (fun c_9 c_9' => ?_) (fun c_9 c_9' => ?_)
 ·
  have hkL : k < q.length := by omega
  refine W 5 ?_
  refine cl A (has_pure l _ hl) ?_
  refine W 1 ?_
  refine aw_cond J (fun c_18 => ?_) (fun c_18 => ?_)
  ·
   have c_18' := c_18
   try simp only [qq] at c_18'
   refine W 1 ?_
   exact retQ_pure (v := .raw _) rfl rfl (Less.eq (by rw [List.all_eq_false.2 ⟨_, List.getElem_mem hkL, by simpa using c_18⟩]))
  have c_18' := c_18
  try simp only [qq] at c_18'
  refine W 3 ?_
  exact ⟨⟨k + 1, by omega, fun i h hi => (by by_cases e : i = k; (subst e; simpa using c_18); exact hok i h (by omega))⟩, by simp only; omega, Sub.slots ⟨J, J, J, trivial⟩⟩
 refine W 1 ?_
 exact retQ_pure (v := .raw _) rfl rfl (Less.eq (by rw [List.all_eq_true.2 fun n hn => by obtain ⟨i, hi, rfl⟩ := List.getElem_of_mem hn; exact hok i hi (by omega)]))
end Go.Proofs.YtmbknoaneglilaaGreatDoor
namespace Go.Proofs.YtmbknoaneglilaaGreatDoor
open Go Go.Ab Ni Ol
instance en27 : EnT Tryz.prog 27 := ⟨Ent.of Tryz.func27 (by kernel_rfl) rfl⟩
end Go.Proofs.YtmbknoaneglilaaGreatDoor
namespace Go.Proofs.YtmbknoaneglilaaGreatDoor
open Go Go.Ab Ni Ol
theorem cell_ch (c : Ca) (k m : Int) : c.cell k m = 35 ∨ c.cell k m = 43 ∨ c.cell k m = 46 := by
  unfold Ca.cell Ca.cellAt
  split
  · exact .inl rfl
  · split
    · exact .inr (.inl rfl)
    · exact .inr (.inr rfl)
theorem shadow_row {c : Ca} {r : List UInt8} (h : r ∈ c.shadow) : r.length = c.s.wide.toNat ∧ ∀ b ∈ r, b = 35 ∨ b = 43 ∨ b = 46 := by
  unfold Ca.shadow at h
  obtain ⟨m, _, rfl⟩ := List.mem_map.1 h
  refine ⟨by simp [Ca.srow], fun b hb => ?_⟩
  unfold Ca.srow at hb
  obtain ⟨k, _, rfl⟩ := List.mem_map.1 hb
  exact cell_ch c _ _
theorem shadow_clo (c : Ca) : Clo c.s c.shadow := ⟨by simp [Ca.shadow], fun r hr => (shadow_row hr).1⟩
theorem clo_shp {s : Sg} {l : List (List UInt8)} (hs : stOK s = true) (h : Clo s l) : shp l := by
  have hb := stOK_iff.1 hs
  exact ⟨by rw [h.len]; omega, fun r hr => by rw [h.row r hr]; omega⟩
theorem shadow_whole {c : Ca} (hs : stOK c.s = true) : wholeB c.s c.shadow = true := by
  have hb := stOK_iff.1 hs
  unfold wholeB
  rw [Bool.and_eq_true]
  constructor
  · unfold siOK
    simp only [Bool.and_eq_true, decide_eq_true_eq, List.all_eq_true, siRow]
    refine ⟨by rw [(shadow_clo c).len]; omega, fun r hr => ?_⟩
    obtain ⟨h1, h2⟩ := shadow_row hr
    refine ⟨by omega, ?_⟩
    rw [Bool.not_eq_true', List.any_eq_false]
    intro b hb'
    rcases h2 b hb' with rfl | rfl | rfl <;> decide
  · rw [decide_eq_true_eq]
    unfold Ol.cnt
    have : ∀ L : List (List UInt8), (∀ r ∈ L, ∀ b ∈ r, b = 35 ∨ b = 43 ∨ b = 46) → (L.map fun r => ((r.count 63 : Nat) : Int)).sum = 0 := fun L => by
      induction L with
      | nil => intro _; rfl
      | cons r L ih =>
        intro h
        have h1 : r.count 63 = 0 := List.count_eq_zero.2 fun hm => by rcases h r (by simp) 63 hm with h | h | h <;> cases h
        rw [List.map_cons, List.sum_cons, h1, ih fun q hq => h q (by simp [hq])]; rfl
    exact this _ fun r hr => (shadow_row hr).2
theorem readB_iff {n : Nat} {r : Rc} {f : Int} {p : Pc} : readB n r f p = true ↔ (0 ≤ f ∧ f < n) ∧ (r.nl ≤ p.near ∧ p.near ≤ r.nh) ∧ (r.xl ≤ p.x ∧ p.x ≤ r.xh) ∧ p.y = r.y := by
  unfold readB; simp only [Bool.and_eq_true, decide_eq_true_eq]; omega
theorem read_mem {x : Sn} {f : Nat} {p : Pc} (hf : f < x.l.length) (h : readB x.l.length x.r f p = true) : (⟨⟨f, p⟩, (Ca.mk x.s x.l[f] p).shadow⟩ : Th) ∈ rdN x f := by
  obtain ⟨_, h2, h3, h4⟩ := readB_iff.1 h
  unfold rdN rdX
  refine List.mem_flatMap.2 ⟨p.near, mem_rng.2 h2, List.mem_map.2 ⟨p.x, mem_rng.2 h3, ?_⟩⟩
  unfold thrown
  rw [getD_get hf, ← h4]
theorem byF_get {x : Sn} {f : Nat} (hf : f < x.l.length) : (byF x).getD f [] = rdN x f := by
  rw [getD_get (by rw [byF_len]; exact hf)]
  simp [byF]
theorem askE_0 {x : Sn} {is : Bool} : askE x is = 0 ↔ snOK x = true ∧ is = true := by
  unfold askE
  by_cases h : (snOK x && is) = true
  · rw [if_pos h]; simp only [Bool.and_eq_true] at h; simp [h]
  · rw [if_neg h]; simp only [Bool.and_eq_true] at h
    exact ⟨(fun e => by cases e), fun e => absurd e h⟩
end Go.Proofs.YtmbknoaneglilaaGreatDoor
namespace Go.Proofs.YtmbknoaneglilaaGreatDoor
open Go Go.Ab Ni Ol
instance un4 : UnD Tryz.prog 4 .bool := ⟨by kernel_rfl⟩
end Go.Proofs.YtmbknoaneglilaaGreatDoor
namespace Go.Proofs.YtmbknoaneglilaaGreatDoor
open Go Go.Ab Ni Ol
instance en71 : EnT Tryz.prog 71 := ⟨Ent.of Tryz.func71 (by kernel_rfl) rfl⟩
structure Rz where
  fig : Int
  p : Pc
  deriving DecidableEq
section
variable {r : Option Nat} {H : List AObj} {ρ : Operand → AV} {d : Option Tmp} {t : TypeId} {p : String} {af : Array Edge} {g : Option (Nat × Bool)} {x y : Operand} {yt : TypeId}
end
theorem befB_self : ∀ l : List Int, befB l l = false
  | [] => rfl
  | x :: l => by unfold befB; rw [if_pos rfl, befB_self l]
theorem befB_at : ∀ {a b : List Int} {k : Nat} (h1 : k < a.length) (h2 : k < b.length), (∀ i, (h1 : i < a.length) → (h2 : i < b.length) → i < k → a[i] = b[i]) → a[k] ≠ b[k] → befB a b = decide (a[k] < b[k])
  | x :: a, y :: b, 0, _, _, _, hne => by
    have hne : x ≠ y := hne
    unfold befB; rw [if_neg hne]; rfl
  | x :: a, y :: b, k + 1, h1, h2, h, hne => by
    have e : x = y := h 0 (by simp) (by simp) (by omega)
    unfold befB; rw [if_pos e]
    exact befB_at (by simpa using h1) (by simpa using h2) (fun i p1 p2 p3 => by have := h (i + 1) (by simpa using p1) (by simpa using p2) (by omega); simpa using this) (by simpa using hne)
theorem before_pure (a b : List Int) (hl : a.length = b.length) (hn : a.length ≤ 1000000) : APure Tryz.prog 71 [ints a, ints b] (B (befB a b)) := by
 refine apure_of (rs := [.tmp 4]) Tryz.func71 rfl rfl (Nat.le_of_ble_eq_true rfl) (by simp [AV.pureL, AV.pureB, AV.pureE, pureE_map]) (by first | rfl | (simp [AV.pureL, AV.pureB, AV.pureE, pureE_map])) fun e0 he0 => ?_
 refine W 2 ?_
 refine aw_loopk (ι := { k : Nat // k ≤ a.length ∧ ∀ i, (h1 : i < a.length) → (h2 : i < b.length) → i < k → a[i] = b[i] }) [0, 1] (fun g => [(5, I g.1)]) (fun H g => H) (fun g => a.length - g.1) (⟨0, Nat.zero_le _, by omega⟩) ⟨J, J, J, trivial⟩ rfl ?_
 rintro ⟨k, hk, hok⟩
 dsimp only [keepS, St.put, sget, slotsOf, nn1, nn2, nn3, nn4, nn5, nn6, Nat.reduceBEq, Nat.reduceAdd, nn7, nn8]
 refine W 4 ?_
 refine iff (fun c_9 c_9' => ?_) (fun c_9 c_9' => ?_)
 ·
  have hkL : k < a.length := by omega
  refine W 0 ?_
  refine aw_draw 9 mo (by kernel_rfl) ?_
  refine WD 9 ?_
  refine W 0 ?_
  refine ifn (fun c_20 c_20' => ?_) (fun c_20 c_20' => ?_)
  ·
   refine W 0 ?_
   refine aw_draw 10 mo (by kernel_rfl) ?_
   refine WD 10 ?_
   refine W 0 ?_
   exact retQ_pure (v := .raw _) rfl rfl (Less.eq (by rw [befB_at hkL (by omega) (fun i h1 h2 h => hok i h1 h2 h) c_20']))
  refine W 3 ?_
  exact ⟨⟨k + 1, by omega, fun i h1 h2 h => (by by_cases e : i = k; (subst e; simpa using c_20'); exact hok i h1 h2 (by omega))⟩, by simp only; omega, Sub.slots ⟨J, J, J, trivial⟩⟩
 have heq : a = b := same_ext hl fun i h1 h2 => hok i h1 h2 (by omega)
 refine W 1 ?_
 exact retQ_pure (v := .raw _) rfl rfl (Less.eq (by rw [heq, befB_self]))
end Go.Proofs.YtmbknoaneglilaaGreatDoor
namespace Go.Proofs.YtmbknoaneglilaaGreatDoor
open Go Go.Ab Ni Ol
theorem gate_bool {a b : Bool} (h : (a && b) = true) : a = true ∧ b = true := by simpa using h
end Go.Proofs.YtmbknoaneglilaaGreatDoor
namespace Go.Proofs.YtmbknoaneglilaaGreatDoor
open Go Go.Ab Ni Ol
theorem mis_err {x : Sn} (hx : snOK x = true) (hl : x.l.length ≤ 1000000) : ∃ g1 g2 g : Int, APure Tryz.prog 44 [stA x.s, figs x.l, rcA x.r] (.tup [I g1, I g2, I g]) ∧ ((g = 0 ∧ misOf x ≠ none) ∨ (g = 5 ∧ misOf x = none)) := by
  have k := mistaken_pure x hl
  refine ⟨_, _, _, k, ?_⟩
  unfold misE
  rw [if_pos hx]
  cases h : misOf x with
  | none => exact .inr ⟨rfl, rfl⟩
  | some q => exact .inl ⟨rfl, by simp⟩
end Go.Proofs.YtmbknoaneglilaaGreatDoor
namespace Go.Proofs.YtmbknoaneglilaaGreatDoor
open Go Go.Ab Ni Ol
instance en66 : EnT Tryz.prog 66 := ⟨Ent.of Tryz.func66 (by kernel_rfl) rfl⟩
instance en68 : EnT Tryz.prog 68 := ⟨Ent.of Tryz.func68 (by kernel_rfl) rfl⟩
theorem less_bo {a b : Bool} (h : a = b) : Less (B a) (B b) := Less.eq (by rw [h])
def metK (e : Bool) (w : Int) (c d : List (List UInt8)) (p : List Int) (k : Nat) : Bool := e || (p.take k).any fun n => opp (chAt w c n) (chAt w d n)
theorem metK_succ {e : Bool} {w : Int} {c d : List (List UInt8)} {p : List Int} {k : Nat} (h : k < p.length) : metK e w c d p (k + 1) = (metK e w c d p k || opp (chAt w c p[k]) (chAt w d p[k])) := by
  unfold metK; rw [List.take_succ_eq_append_getElem h, List.any_append, Bool.or_assoc]; simp
theorem rcell_int {s : Sg} {l : List (List UInt8)} {n : Int} (hs : stOK s = true) (hc : Clo s l) (h0 : 0 ≤ n ∧ n < s.wide * s.high) : APure Tryz.prog 42 [stA s, strs l, I n] (C (chAt s.wide l n)) := by
  obtain ⟨k, rfl⟩ : ∃ k : Nat, n = k := ⟨n.toNat, by omega⟩
  exact rcell_pure s l k hs hc h0.2
theorem rcells_pure (s : Sg) (l : List Int) (hs : stOK s = true) (hl : l.length ≤ 1000000) : APure Tryz.prog 68 [stA s, ints l] (B (ceOK s l)) := by
  refine apure_of (rs := [.tmp 4]) Tryz.func68 rfl rfl (Nat.le_of_ble_eq_true rfl) (by simp [AV.pureL, AV.pureB, AV.pureE, pureE_map]) (by first | rfl | (simp [AV.pureL, AV.pureB, AV.pureE, pureE_map])) fun e0 he0 => ?_
  have hwh := wh_bd hs
  refine W 3 ?_
  refine aw_loopk (ι := { k : Nat // k ≤ l.length ∧ ∀ i, i < l.length → i < k → (inn (l.getD i 0) 0 (s.wide * s.high - 1) && upto l i) = true }) [1, 2] (fun g => [(5, I g.1)]) (fun H g => H) (fun g => l.length - g.1) (⟨0, Nat.zero_le _, by omega⟩) ⟨J, J, J, trivial⟩ rfl ?_
  rintro ⟨k, hk, hok⟩
  dsimp only [keepS, St.put, sget, slotsOf, nn1, nn2, nn3, nn4, nn5, nn6, Nat.reduceBEq, Nat.reduceAdd, nn7, nn8]
  refine W 4 ?_
  refine iff (fun c_9 c_9' => ?_) (fun c_9 c_9' => ?_)
  · skip
    have hkL : k < l.length := by omega
    refine W 0 ?_
    refine aw_draw 28 mo (by kernel_rfl) ?_
    refine WD 10 ?_
    refine dcl A (rin_pure _ _ _) ?_
    refine WD 2 ?_
    refine dr_split 24 J (fun g4_12 => ?_) (fun g4_12 => ?_)
    · skip
      have g4_12' := g4_12
      try simp only [qq] at g4_12'
      have hbad : (inn (l.getD k 0) 0 (s.wide * s.high - 1) && upto l k) = false := by rw [cg_eq hkL]; first | (simp_all; done) | (simp_all; omega)
      refine WD 15 ?_
      refine W 2 ?_
      exact retQ_pure (v := .raw _) rfl rfl (Less.eq (by rw [ce_bad hkL hbad]))
    · skip
      have g4_12' := g4_12
      try simp only [qq] at g4_12'
      refine WD 3 ?_
      refine dr_split 27 J (fun g4_15 => ?_) (fun g4_15 => ?_)
      · skip
        have g4_15' := g4_15
        try simp only [qq] at g4_15'
        refine WD 7 ?_
        refine dr_yes rfl rfl (less_b g4_15) rfl (ev_index_map (k := k - 1) sl64.h J J (by omega) (by omega)) ?_
        refine WD 4 ?_
        refine W 0 ?_
        refine aw_cond J (fun c_39 => ?_) (fun c_39 => ?_)
        · skip
          have c_39' := c_39
          try simp only [qq] at c_39'
          have hbad : (inn (l.getD k 0) 0 (s.wide * s.high - 1) && upto l k) = false := by rw [cg_eq hkL]; first | (simp_all; done) | (simp_all; omega)
          refine W 1 ?_
          exact retQ_pure (v := .raw _) rfl rfl (Less.eq (by rw [ce_bad hkL hbad]))
        · skip
          have c_39' := c_39
          try simp only [qq] at c_39'
          refine V 3 ?_
          refine sq_nil ?_
          have hgood : (inn (l.getD k 0) 0 (s.wide * s.high - 1) && upto l k) = true := by rw [cg_eq hkL]; first | (simp_all; done) | (simp_all; omega)
          exact ⟨⟨k + 1, by omega, fun i h hi => (by by_cases e : i = k; (subst e; exact hgood); exact hok i h (by omega))⟩, by simp only; omega, Sub.slots ⟨J, J, J, trivial⟩⟩
      · skip
        have g4_15' := g4_15
        try simp only [qq] at g4_15'
        refine WD 12 ?_
        refine V 4 ?_
        refine sq_nil ?_
        have hgood : (inn (l.getD k 0) 0 (s.wide * s.high - 1) && upto l k) = true := by rw [cg_eq hkL]; first | (simp_all; done) | (simp_all; omega)
        exact ⟨⟨k + 1, by omega, fun i h hi => (by by_cases e : i = k; (subst e; exact hgood); exact hok i h (by omega))⟩, by simp only; omega, Sub.slots ⟨J, J, J, trivial⟩⟩
  · skip
    refine W 4 ?_
    exact retQ_pure (v := .raw _) rfl rfl (Less.eq (by rw [ce_end (fun i hi => hok i hi (by omega))]))
theorem proof_gate (x : Sn) (cells other : List Int) (f1 f2 : Int) (p1 p2 : Pc) (hg : (fewB x.l && (decide (cells.length ≤ 10) && (decide (other.length ≤ 10) && (decide (askE x (stOK x.s && ceOK x.s cells) = 0) && (ceOK x.s other && ((other.all fun n => decide (n ∈ cells)) && (readB x.l.length x.r f1 p1 && readB x.l.length x.r f2 p2))))))) = false) : APure Tryz.prog 16 [stA x.s, figs x.l, rcA x.r, ints cells, ints other, .agg [I f1, I p1.near, I p1.x, I p1.y], .agg [I f2, I p2.near, I p2.x, I p2.y]] (B true) := by
 refine apure_of (rs := [.tmp 14]) Tryz.func16 rfl rfl (Nat.le_of_ble_eq_true rfl) (by simp [AV.pureL, AV.pureB, AV.pureE, pureE_map]) (by first | rfl | (simp [AV.pureL, AV.pureB, AV.pureE, pureE_map])) fun e0 he0 => ?_
 refine W 5 ?_
 refine aw_draw 53 mo (by kernel_rfl) ?_
 refine WD 1 ?_
 refine dcl A (few_pure x.l) ?_
 refine WD 2 ?_
 refine dr_split 35 J (fun g1_3 => ?_) (fun g1_3 => ?_)
 ·
  have g1_3' := g1_3
  try simp only [qq] at g1_3'
  refine WD 49 ?_
  refine W 1 ?_
  refine cl A (known_pure) ?_
  refine W 1 ?_
  exact retQ_pure (v := .raw _) rfl rfl J
 have g1_3' := g1_3
 try simp only [qq] at g1_3'
 refine WD 5 ?_
 refine dr_split 40 J (fun g1_8 => ?_) (fun g1_8 => ?_)
 ·
  have g1_8' := g1_8
  try simp only [qq] at g1_8'
  refine WD 44 ?_
  refine W 1 ?_
  refine cl A (known_pure) ?_
  refine W 1 ?_
  exact retQ_pure (v := .raw _) rfl rfl J
 have g1_8' := g1_8
 try simp only [qq] at g1_8'
 refine WD 5 ?_
 refine dr_split 45 J (fun g1_13 => ?_) (fun g1_13 => ?_)
 ·
  have g1_13' := g1_13
  try simp only [qq] at g1_13'
  refine WD 39 ?_
  refine W 1 ?_
  refine cl A (known_pure) ?_
  refine W 1 ?_
  exact retQ_pure (v := .raw _) rfl rfl J
 have g1_13' := g1_13
 try simp only [qq] at g1_13'
 refine WD 4 ?_
 refine dcy A (rstage_pure x.s) ?_
 refine WD 1 ?_
 refine dr_split 51 J (fun g1_19 => ?_) (fun g1_19 => ?_)
 ·
  have g1_19' := g1_19
  try simp only [qq] at g1_19'
  have hst : stOK x.s = true := by simpa using g1_19
  refine WD 2 ?_
  refine dcy A (rcells_pure x.s cells hst (by omega)) ?_
  refine WD 1 ?_
  refine dcy A (asked_pure x _) ?_
  refine WD 3 ?_
  refine dr_split 59 J (fun g1_27 => ?_) (fun g1_27 => ?_)
  ·
   have g1_27' := g1_27
   try simp only [qq] at g1_27'
   refine WD 25 ?_
   refine W 1 ?_
   refine cl A (known_pure) ?_
   refine W 1 ?_
   exact retQ_pure (v := .raw _) rfl rfl J
  have g1_27' := g1_27
  try simp only [qq] at g1_27'
  have hq := askE_0.1 (by simpa using g1_27)
  have hst2 := (sn_facts hq.1).2.1
  refine WD 2 ?_
  refine dcy A (rcells_pure x.s other hst2 (by omega)) ?_
  refine WD 3 ?_
  refine dr_split 65 J (fun g1_33 => ?_) (fun g1_33 => ?_)
  ·
   have g1_33' := g1_33
   try simp only [qq] at g1_33'
   refine WD 19 ?_
   refine W 1 ?_
   refine cl A (known_pure) ?_
   refine W 1 ?_
   exact retQ_pure (v := .raw _) rfl rfl J
  have g1_33' := g1_33
  try simp only [qq] at g1_33'
  refine WD 2 ?_
  refine dcy A (within_pure cells other (by omega) (by omega)) ?_
  refine WD 3 ?_
  refine dr_split 71 J (fun g1_39 => ?_) (fun g1_39 => ?_)
  ·
   have g1_39' := g1_39
   try simp only [qq] at g1_39'
   refine WD 13 ?_
   refine W 1 ?_
   refine cl A (known_pure) ?_
   refine W 1 ?_
   exact retQ_pure (v := .raw _) rfl rfl J
  have g1_39' := g1_39
  try simp only [qq] at g1_39'
  refine WD 3 ?_
  refine dcy A (reading_pure x.l x.r f1 p1) ?_
  refine WD 3 ?_
  refine dr_split 78 J (fun g1_46 => ?_) (fun g1_46 => ?_)
  ·
   have g1_46' := g1_46
   try simp only [qq] at g1_46'
   refine WD 6 ?_
   refine W 1 ?_
   refine cl A (known_pure) ?_
   refine W 1 ?_
   exact retQ_pure (v := .raw _) rfl rfl J
  have g1_46' := g1_46
  try simp only [qq] at g1_46'
  refine WD 3 ?_
  refine dcy A (reading_pure x.l x.r f2 p2) ?_
  refine WD 2 ?_
  refine W 0 ?_
  refine aw_cond J (fun c_84 => ?_) (fun c_84 => ?_)
  ·
   have c_84' := c_84
   try simp only [qq] at c_84'
   refine W 0 ?_
   refine cl A (known_pure) ?_
   refine W 1 ?_
   exact retQ_pure (v := .raw _) rfl rfl J
  have c_84' := c_84
  try simp only [qq] at c_84'
  first | (exfalso; simp_all; done) | (exfalso; simp_all; omega)
 have g1_19' := g1_19
 try simp only [qq] at g1_19'
 refine WD 4 ?_
 refine dcy A (asked_pure x _) ?_
 refine WD 3 ?_
 refine dr_split 59 J (fun g1_27 => ?_) (fun g1_27 => ?_)
 ·
  have g1_27' := g1_27
  try simp only [qq] at g1_27'
  refine WD 25 ?_
  refine W 1 ?_
  refine cl A (known_pure) ?_
  refine W 1 ?_
  exact retQ_pure (v := .raw _) rfl rfl J
 have g1_27' := g1_27
 try simp only [qq] at g1_27'
 have hq := askE_0.1 (by simpa using g1_27)
 have hst2 := (sn_facts hq.1).2.1
 refine WD 2 ?_
 refine dcy A (rcells_pure x.s other hst2 (by omega)) ?_
 refine WD 3 ?_
 refine dr_split 65 J (fun g1_33 => ?_) (fun g1_33 => ?_)
 ·
  have g1_33' := g1_33
  try simp only [qq] at g1_33'
  refine WD 19 ?_
  refine W 1 ?_
  refine cl A (known_pure) ?_
  refine W 1 ?_
  exact retQ_pure (v := .raw _) rfl rfl J
 have g1_33' := g1_33
 try simp only [qq] at g1_33'
 refine WD 2 ?_
 refine dcy A (within_pure cells other (by omega) (by omega)) ?_
 refine WD 3 ?_
 refine dr_split 71 J (fun g1_39 => ?_) (fun g1_39 => ?_)
 ·
  have g1_39' := g1_39
  try simp only [qq] at g1_39'
  refine WD 13 ?_
  refine W 1 ?_
  refine cl A (known_pure) ?_
  refine W 1 ?_
  exact retQ_pure (v := .raw _) rfl rfl J
 have g1_39' := g1_39
 try simp only [qq] at g1_39'
 refine WD 3 ?_
 refine dcy A (reading_pure x.l x.r f1 p1) ?_
 refine WD 3 ?_
 refine dr_split 78 J (fun g1_46 => ?_) (fun g1_46 => ?_)
 ·
  have g1_46' := g1_46
  try simp only [qq] at g1_46'
  refine WD 6 ?_
  refine W 1 ?_
  refine cl A (known_pure) ?_
  refine W 1 ?_
  exact retQ_pure (v := .raw _) rfl rfl J
 have g1_46' := g1_46
 try simp only [qq] at g1_46'
 refine WD 3 ?_
 refine dcy A (reading_pure x.l x.r f2 p2) ?_
 refine WD 2 ?_
 refine W 0 ?_
 refine aw_cond J (fun c_84 => ?_) (fun c_84 => ?_)
 ·
  have c_84' := c_84
  try simp only [qq] at c_84'
  refine W 0 ?_
  refine cl A (known_pure) ?_
  refine W 1 ?_
  exact retQ_pure (v := .raw _) rfl rfl J
 have c_84' := c_84
 try simp only [qq] at c_84'
 first | (exfalso; simp_all; done) | (exfalso; simp_all; omega)
theorem proof_no0 {x : Sn} {cells other p : List Int} {f1 f2 : Nat} {p1 p2 : Pc} {a b : Int} (hc10 : cells.length ≤ 10) (ho10 : other.length ≤ 10)
    (k34 : APure Tryz.prog 34 [figs x.l] (B true)) (k24 : APure Tryz.prog 24 [stA x.s] (B true)) (k68 : APure Tryz.prog 68 [stA x.s, ints cells] (B true)) (k36 : APure Tryz.prog 36 [stA x.s, figs x.l, rcA x.r, B true] (I 0)) (k68' : APure Tryz.prog 68 [stA x.s, ints other] (B true)) (k53 : APure Tryz.prog 53 [ints cells, ints other] (B true))
    (k49 : APure Tryz.prog 49 [figs x.l, rcA x.r, .agg [I (f1 : Int), I p1.near, I p1.x, I p1.y]] (B true)) (k49' : APure Tryz.prog 49 [figs x.l, rcA x.r, .agg [I (f2 : Int), I p2.near, I p2.x, I p2.y]] (B true))
    (k66 : APure Tryz.prog 66 [stA x.s, figs x.l, rcA x.r, ints cells] (.tup [B false, I 0])) (k66' : APure Tryz.prog 66 [stA x.s, figs x.l, rcA x.r, ints other] (.tup [B false, I 0])) (k67 : APure Tryz.prog 67 [stA x.s, figs x.l, rcA x.r, ints cells] (.tup [ints p, I 5])) (k44 : APure Tryz.prog 44 [stA x.s, figs x.l, rcA x.r] (.tup [I a, I b, I 0])) : APure Tryz.prog 16 [stA x.s, figs x.l, rcA x.r, ints cells, ints other, .agg [I (f1 : Int), I p1.near, I p1.x, I p1.y], .agg [I (f2 : Int), I p2.near, I p2.x, I p2.y]] (B true) := by
  refine apure_of (rs := [.tmp 14]) Tryz.func16 rfl rfl (Nat.le_of_ble_eq_true rfl) (by simp [AV.pureL, AV.pureB, AV.pureE, pureE_map]) (by first | rfl | (simp [AV.pureL, AV.pureB, AV.pureE, pureE_map])) fun e0 he0 => ?_
  refine W 5 ?_
  refine aw_draw 53 mo (by kernel_rfl) ?_
  refine WD 1 ?_
  refine dcl A (k34) ?_
  refine WD 7 ?_
  refine dr_split 40 J (fun g1_8 => ?_) (fun g1_8 => ?_)
  · skip
    have g1_8' := g1_8
    try simp only [qq] at g1_8'
    first | exact absurd g1_8 (by decide) | (exfalso; simp at g1_8; done) | (exfalso; simp at g1_8; omega) | (exfalso; simp_all; done) | (exfalso; simp_all; omega)
  · skip
    have g1_8' := g1_8
    try simp only [qq] at g1_8'
    refine WD 5 ?_
    refine dr_split 45 J (fun g1_13 => ?_) (fun g1_13 => ?_)
    · skip
      have g1_13' := g1_13
      try simp only [qq] at g1_13'
      first | exact absurd g1_13 (by decide) | (exfalso; simp at g1_13; done) | (exfalso; simp at g1_13; omega) | (exfalso; simp_all; done) | (exfalso; simp_all; omega)
    · skip
      have g1_13' := g1_13
      try simp only [qq] at g1_13'
      refine WD 4 ?_
      refine dcy A (k24) ?_
      refine WD 3 ?_
      refine dcy A (k68) ?_
      refine WD 1 ?_
      refine dcy A (k36) ?_
      refine WD 5 ?_
      refine dcy A (k68') ?_
      refine WD 5 ?_
      refine dcy A (k53) ?_
      refine WD 6 ?_
      refine dcy A (k49) ?_
      refine WD 6 ?_
      refine dcy A (k49') ?_
      refine WD 2 ?_
      refine W 0 ?_
      refine aw_cond J (fun c_84 => ?_) (fun c_84 => ?_)
      · skip
        have c_84' := c_84
        try simp only [qq] at c_84'
        first | exact absurd c_84 (by decide) | (exfalso; simp at c_84; done) | (exfalso; simp at c_84; omega) | (exfalso; simp_all; done) | (exfalso; simp_all; omega)
      · skip
        have c_84' := c_84
        try simp only [qq] at c_84'
        refine W 4 ?_
        refine cl A (k66) ?_
        refine W 9 ?_
        refine cl A (k66') ?_
        refine W 9 ?_
        refine cl A (k67) ?_
        refine W 8 ?_
        refine cl A (k44) ?_
        refine W 49 ?_
        refine aw_cond J (fun c_159 => ?_) (fun c_159 => ?_)
        · skip
          have c_159' := c_159
          try simp only [qq] at c_159'
          first | exact absurd c_159 (by decide) | (exfalso; simp at c_159; done) | (exfalso; simp at c_159; omega) | (exfalso; simp_all; done) | (exfalso; simp_all; omega)
        · skip
          have c_159' := c_159
          try simp only [qq] at c_159'
          refine W 2 ?_
          refine ifn (fun c_161 c_161' => ?_) (fun c_161 c_161' => ?_)
          · skip
            refine W 0 ?_
            refine cl A (known_pure) ?_
            refine W 1 ?_
            exact retQ_pure (v := .raw _) rfl rfl J
          · skip
            first | exact absurd c_161 (by decide) | (exfalso; simp at c_161; done) | (exfalso; simp at c_161; omega) | (exfalso; simp_all; done) | (exfalso; simp_all; omega)
theorem proof_no5 {x : Sn} {cells other p : List Int} {f1 f2 : Nat} {p1 p2 : Pc} {a b : Int} (hc10 : cells.length ≤ 10) (ho10 : other.length ≤ 10)
    (k34 : APure Tryz.prog 34 [figs x.l] (B true)) (k24 : APure Tryz.prog 24 [stA x.s] (B true)) (k68 : APure Tryz.prog 68 [stA x.s, ints cells] (B true)) (k36 : APure Tryz.prog 36 [stA x.s, figs x.l, rcA x.r, B true] (I 0)) (k68' : APure Tryz.prog 68 [stA x.s, ints other] (B true)) (k53 : APure Tryz.prog 53 [ints cells, ints other] (B true))
    (k49 : APure Tryz.prog 49 [figs x.l, rcA x.r, .agg [I (f1 : Int), I p1.near, I p1.x, I p1.y]] (B true)) (k49' : APure Tryz.prog 49 [figs x.l, rcA x.r, .agg [I (f2 : Int), I p2.near, I p2.x, I p2.y]] (B true))
    (k66 : APure Tryz.prog 66 [stA x.s, figs x.l, rcA x.r, ints cells] (.tup [B false, I 0])) (k66' : APure Tryz.prog 66 [stA x.s, figs x.l, rcA x.r, ints other] (.tup [B false, I 0])) (k67 : APure Tryz.prog 67 [stA x.s, figs x.l, rcA x.r, ints cells] (.tup [ints p, I 5])) (k44 : APure Tryz.prog 44 [stA x.s, figs x.l, rcA x.r] (.tup [I a, I b, I 5])) : APure Tryz.prog 16 [stA x.s, figs x.l, rcA x.r, ints cells, ints other, .agg [I (f1 : Int), I p1.near, I p1.x, I p1.y], .agg [I (f2 : Int), I p2.near, I p2.x, I p2.y]] (B true) := by
  refine apure_of (rs := [.tmp 14]) Tryz.func16 rfl rfl (Nat.le_of_ble_eq_true rfl) (by simp [AV.pureL, AV.pureB, AV.pureE, pureE_map]) (by first | rfl | (simp [AV.pureL, AV.pureB, AV.pureE, pureE_map])) fun e0 he0 => ?_
  refine W 5 ?_
  refine aw_draw 53 mo (by kernel_rfl) ?_
  refine WD 1 ?_
  refine dcl A (k34) ?_
  refine WD 7 ?_
  refine dr_split 40 J (fun g1_8 => ?_) (fun g1_8 => ?_)
  · skip
    have g1_8' := g1_8
    try simp only [qq] at g1_8'
    first | exact absurd g1_8 (by decide) | (exfalso; simp at g1_8; done) | (exfalso; simp at g1_8; omega) | (exfalso; simp_all; done) | (exfalso; simp_all; omega)
  · skip
    have g1_8' := g1_8
    try simp only [qq] at g1_8'
    refine WD 5 ?_
    refine dr_split 45 J (fun g1_13 => ?_) (fun g1_13 => ?_)
    · skip
      have g1_13' := g1_13
      try simp only [qq] at g1_13'
      first | exact absurd g1_13 (by decide) | (exfalso; simp at g1_13; done) | (exfalso; simp at g1_13; omega) | (exfalso; simp_all; done) | (exfalso; simp_all; omega)
    · skip
      have g1_13' := g1_13
      try simp only [qq] at g1_13'
      refine WD 4 ?_
      refine dcy A (k24) ?_
      refine WD 3 ?_
      refine dcy A (k68) ?_
      refine WD 1 ?_
      refine dcy A (k36) ?_
      refine WD 5 ?_
      refine dcy A (k68') ?_
      refine WD 5 ?_
      refine dcy A (k53) ?_
      refine WD 6 ?_
      refine dcy A (k49) ?_
      refine WD 6 ?_
      refine dcy A (k49') ?_
      refine WD 2 ?_
      refine W 0 ?_
      refine aw_cond J (fun c_84 => ?_) (fun c_84 => ?_)
      · skip
        have c_84' := c_84
        try simp only [qq] at c_84'
        first | exact absurd c_84 (by decide) | (exfalso; simp at c_84; done) | (exfalso; simp at c_84; omega) | (exfalso; simp_all; done) | (exfalso; simp_all; omega)
      · skip
        have c_84' := c_84
        try simp only [qq] at c_84'
        refine W 4 ?_
        refine cl A (k66) ?_
        refine W 9 ?_
        refine cl A (k66') ?_
        refine W 9 ?_
        refine cl A (k67) ?_
        refine W 8 ?_
        refine cl A (k44) ?_
        refine W 52 ?_
        refine ifn (fun c_161 c_161' => ?_) (fun c_161 c_161' => ?_)
        · skip
          refine W 0 ?_
          refine cl A (known_pure) ?_
          refine W 1 ?_
          exact retQ_pure (v := .raw _) rfl rfl J
        · skip
          first | exact absurd c_161 (by decide) | (exfalso; simp at c_161; done) | (exfalso; simp at c_161; omega) | (exfalso; simp_all; done) | (exfalso; simp_all; omega)
theorem proof_yes_t {x : Sn} {cells other p : List Int} {f1 f2 : Nat} {p1 p2 : Pc} {a b : Int} (hc10 : cells.length ≤ 10) (ho10 : other.length ≤ 10)
    (k34 : APure Tryz.prog 34 [figs x.l] (B true)) (k24 : APure Tryz.prog 24 [stA x.s] (B true)) (k68 : APure Tryz.prog 68 [stA x.s, ints cells] (B true)) (k36 : APure Tryz.prog 36 [stA x.s, figs x.l, rcA x.r, B true] (I 0)) (k68' : APure Tryz.prog 68 [stA x.s, ints other] (B true)) (k53 : APure Tryz.prog 53 [ints cells, ints other] (B true))
    (k49 : APure Tryz.prog 49 [figs x.l, rcA x.r, .agg [I (f1 : Int), I p1.near, I p1.x, I p1.y]] (B true)) (k49' : APure Tryz.prog 49 [figs x.l, rcA x.r, .agg [I (f2 : Int), I p2.near, I p2.x, I p2.y]] (B true))
    (k66 : APure Tryz.prog 66 [stA x.s, figs x.l, rcA x.r, ints cells] (.tup [B true, I 0])) (k66' : APure Tryz.prog 66 [stA x.s, figs x.l, rcA x.r, ints other] (.tup [B true, I 0])) (k67 : APure Tryz.prog 67 [stA x.s, figs x.l, rcA x.r, ints cells] (.tup [ints p, I 0])) (k44 : APure Tryz.prog 44 [stA x.s, figs x.l, rcA x.r] (.tup [I a, I b, I 5])) {c d : List (List UInt8)} (hst : stOK x.s = true) (hp8 : p.length ≤ 8) (hpi : ∀ n ∈ p, 0 ≤ n ∧ n < x.s.wide * x.s.high) (hf1 : f1 < x.l.length) (hf2 : f2 < x.l.length) (cc : Clo x.s c) (cd : Clo x.s d)
    (k68p : APure Tryz.prog 68 [stA x.s, ints p] (B true)) (k53p : APure Tryz.prog 53 [ints cells, ints p] (B true)) (k66p : APure Tryz.prog 66 [stA x.s, figs x.l, rcA x.r, ints p] (.tup [B true, I 0]))
    (k28 : APure Tryz.prog 28 [stA x.s, fgA x.l[f1], pcA p1] (.tup [strs c, I 0])) (k28' : APure Tryz.prog 28 [stA x.s, fgA x.l[f2], pcA p2] (.tup [strs d, I 0])) (k29 : APure Tryz.prog 29 [stA x.s, strs c] (B true)) (k29' : APure Tryz.prog 29 [stA x.s, strs d] (B true))
    (hmet : metK (decide ((f1 : Int) = f2)) x.s.wide c d p p.length = true) (hlen : p.length ≤ other.length) (hbef : other.length = p.length → befB other p = false) : APure Tryz.prog 16 [stA x.s, figs x.l, rcA x.r, ints cells, ints other, .agg [I (f1 : Int), I p1.near, I p1.x, I p1.y], .agg [I (f2 : Int), I p2.near, I p2.x, I p2.y]] (B true) := by
  refine apure_of (rs := [.tmp 14]) Tryz.func16 rfl rfl (Nat.le_of_ble_eq_true rfl) (by simp [AV.pureL, AV.pureB, AV.pureE, pureE_map]) (by first | rfl | (simp [AV.pureL, AV.pureB, AV.pureE, pureE_map])) fun e0 he0 => ?_
  refine W 5 ?_
  refine aw_draw 53 mo (by kernel_rfl) ?_
  refine WD 1 ?_
  refine dcl A (k34) ?_
  refine WD 7 ?_
  refine dr_split 40 J (fun g1_8 => ?_) (fun g1_8 => ?_)
  · skip
    have g1_8' := g1_8
    try simp only [qq] at g1_8'
    first | exact absurd g1_8 (by decide) | (exfalso; simp at g1_8; done) | (exfalso; simp at g1_8; omega) | (exfalso; simp_all; done) | (exfalso; simp_all; omega)
  · skip
    have g1_8' := g1_8
    try simp only [qq] at g1_8'
    refine WD 5 ?_
    refine dr_split 45 J (fun g1_13 => ?_) (fun g1_13 => ?_)
    · skip
      have g1_13' := g1_13
      try simp only [qq] at g1_13'
      first | exact absurd g1_13 (by decide) | (exfalso; simp at g1_13; done) | (exfalso; simp at g1_13; omega) | (exfalso; simp_all; done) | (exfalso; simp_all; omega)
    · skip
      have g1_13' := g1_13
      try simp only [qq] at g1_13'
      refine WD 4 ?_
      refine dcy A (k24) ?_
      refine WD 3 ?_
      refine dcy A (k68) ?_
      refine WD 1 ?_
      refine dcy A (k36) ?_
      refine WD 5 ?_
      refine dcy A (k68') ?_
      refine WD 5 ?_
      refine dcy A (k53) ?_
      refine WD 6 ?_
      refine dcy A (k49) ?_
      refine WD 6 ?_
      refine dcy A (k49') ?_
      refine WD 2 ?_
      refine W 0 ?_
      refine aw_cond J (fun c_84 => ?_) (fun c_84 => ?_)
      · skip
        have c_84' := c_84
        try simp only [qq] at c_84'
        first | exact absurd c_84 (by decide) | (exfalso; simp at c_84; done) | (exfalso; simp at c_84; omega) | (exfalso; simp_all; done) | (exfalso; simp_all; omega)
      · skip
        have c_84' := c_84
        try simp only [qq] at c_84'
        refine W 4 ?_
        refine cl A (k66) ?_
        refine W 9 ?_
        refine cl A (k66') ?_
        refine W 9 ?_
        refine cl A (k67) ?_
        refine W 8 ?_
        refine cl A (k44) ?_
        refine W 52 ?_
        refine ifn (fun c_161 c_161' => ?_) (fun c_161 c_161' => ?_)
        · skip
          first | exact absurd c_161 (by decide) | (exfalso; simp at c_161; done) | (exfalso; simp at c_161; omega) | (exfalso; simp_all; done) | (exfalso; simp_all; omega)
        · skip
          refine W 2 ?_
          refine cl A (k68p) ?_
          refine W 4 ?_
          refine cy A (k53p) ?_
          refine W 11 ?_
          refine sq_split 181 J (fun g11_18 => ?_) (fun g11_18 => ?_)
          · skip
            have g11_18' := g11_18
            try simp only [qq] at g11_18'
            first | exact absurd g11_18 (by decide) | (exfalso; simp at g11_18; done) | (exfalso; simp at g11_18; omega) | (exfalso; simp_all; done) | (exfalso; simp_all; omega)
          · skip
            have g11_18' := g11_18
            try simp only [qq] at g11_18'
            refine W 6 ?_
            refine sq_split 187 J (fun g11_24 => ?_) (fun g11_24 => ?_)
            · skip
              have g11_24' := g11_24
              try simp only [qq] at g11_24'
              refine W 2 ?_
              refine cy A (before_pure other p (by omega) (by omega)) ?_
              refine W 4 ?_
              refine aw_cond J (fun c_194 => ?_) (fun c_194 => ?_)
              · skip
                have c_194' := c_194
                try simp only [qq] at c_194'
                exact absurd (hbef (by omega)) (by simp [c_194])
              · skip
                have c_194' := c_194
                try simp only [qq] at c_194'
                refine W 4 ?_
                refine cl A (k66p) ?_
                refine W 5 ?_
                refine aw_draw 14 mo (by kernel_rfl) ?_
                refine WD 4 ?_
                refine dr_ev rfl (ev_index_map (k := f1) sl45.h J J rfl hf1) ?_
                refine WD 3 ?_
                refine dcl A (k28) ?_
                refine WD 5 ?_
                refine W 0 ?_
                refine aw_draw 14 mo (by kernel_rfl) ?_
                refine WD 4 ?_
                refine dr_ev rfl (ev_index_map (k := f2) sl45.h J J rfl hf2) ?_
                refine WD 3 ?_
                refine dcl A (k28') ?_
                refine WD 5 ?_
                refine W 17 ?_
                refine cy A (k29) ?_
                refine W 5 ?_
                refine cy A (k29') ?_
                refine W 2 ?_
                refine aw_cond J (fun c_252 => ?_) (fun c_252 => ?_)
                · skip
                  have c_252' := c_252
                  try simp only [qq] at c_252'
                  first | exact absurd c_252 (by decide) | (exfalso; simp at c_252; done) | (exfalso; simp at c_252; omega) | (exfalso; simp_all; done) | (exfalso; simp_all; omega)
                · skip
                  have c_252' := c_252
                  try simp only [qq] at c_252'
                  refine W 7 ?_
                  refine aw_loopk (ι := { k : Nat // k ≤ p.length }) [7, 19, 26, 28] (fun g => [(30, B (metK (decide ((f1 : Int) = f2)) x.s.wide c d p g.1)), (31, I g.1)]) (fun H g => H) (fun g => p.length - g.1) (⟨0, Nat.zero_le _⟩) ⟨(by exact less_bo (by simp [metK])), J, J, J, J, J, trivial⟩ rfl ?_
                  rintro ⟨k, hk⟩
                  dsimp only [keepS, St.put, sget, slotsOf, nn1, nn2, nn3, nn4, nn5, nn6, Nat.reduceBEq, Nat.reduceAdd, nn7, nn8]
                  refine W 4 ?_
                  refine iff (fun c_261 c_261' => ?_) (fun c_261 c_261' => ?_)
                  · skip
                    have hkL : k < p.length := by omega
                    refine W 0 ?_
                    refine aw_draw 18 mo (by kernel_rfl) ?_
                    refine WD 2 ?_
                    refine dr_split 265 J (fun g22_1 => ?_) (fun g22_1 => ?_)
                    · skip
                      have g22_1' := g22_1
                      try simp only [qq] at g22_1'
                      have eM : true = (metK (decide ((f1 : Int) = f2)) x.s.wide c d p (k + 1)) := by rw [metK_succ hkL, g22_1]; rfl
                      refine WD 16 ?_
                      refine W 4 ?_
                      exact ⟨⟨k + 1, by omega⟩, by simp only; omega, Sub.slots ⟨(by exact less_bo eM), J, J, J, J, J, trivial⟩⟩
                    · skip
                      have g22_1' := g22_1
                      try simp only [qq] at g22_1'
                      have eM : opp (chAt x.s.wide c p[k]) (chAt x.s.wide d p[k]) = (metK (decide ((f1 : Int) = f2)) x.s.wide c d p (k + 1)) := by rw [metK_succ hkL, g22_1]; rfl
                      refine WD 6 ?_
                      refine dcy A (rcell_int hst cc (hpi _ (List.getElem_mem hkL))) ?_
                      refine WD 6 ?_
                      refine dcy A (rcell_int hst cd (hpi _ (List.getElem_mem hkL))) ?_
                      refine dcy A (ropposed_pure _ _) ?_
                      refine WD 1 ?_
                      refine W 4 ?_
                      exact ⟨⟨k + 1, by omega⟩, by simp only; omega, Sub.slots ⟨(by exact less_bo eM), J, J, J, J, J, trivial⟩⟩
                  · skip
                    obtain rfl : k = p.length := by omega
                    refine W 2 ?_
                    refine sq_split 283 J (fun g23_1 => ?_) (fun g23_1 => ?_)
                    · skip
                      have g23_1' := g23_1
                      try simp only [qq] at g23_1'
                      refine cy A (known_pure) ?_
                      refine W 2 ?_
                      exact retQ_pure (v := .raw _) rfl rfl J
                    · skip
                      have g23_1' := g23_1
                      try simp only [qq] at g23_1'
                      first | exact absurd g23_1 (by decide) | (exfalso; simp at g23_1; done) | (exfalso; simp at g23_1; omega) | (exfalso; simp_all; done) | (exfalso; simp_all; omega)
            · skip
              have g11_24' := g11_24
              try simp only [qq] at g11_24'
              refine W 12 ?_
              refine cl A (k66p) ?_
              refine W 5 ?_
              refine aw_draw 14 mo (by kernel_rfl) ?_
              refine WD 4 ?_
              refine dr_ev rfl (ev_index_map (k := f1) sl45.h J J rfl hf1) ?_
              refine WD 3 ?_
              refine dcl A (k28) ?_
              refine WD 5 ?_
              refine W 0 ?_
              refine aw_draw 14 mo (by kernel_rfl) ?_
              refine WD 4 ?_
              refine dr_ev rfl (ev_index_map (k := f2) sl45.h J J rfl hf2) ?_
              refine WD 3 ?_
              refine dcl A (k28') ?_
              refine WD 5 ?_
              refine W 17 ?_
              refine cy A (k29) ?_
              refine W 5 ?_
              refine cy A (k29') ?_
              refine W 2 ?_
              refine aw_cond J (fun c_252 => ?_) (fun c_252 => ?_)
              · skip
                have c_252' := c_252
                try simp only [qq] at c_252'
                first | exact absurd c_252 (by decide) | (exfalso; simp at c_252; done) | (exfalso; simp at c_252; omega) | (exfalso; simp_all; done) | (exfalso; simp_all; omega)
              · skip
                have c_252' := c_252
                try simp only [qq] at c_252'
                refine W 7 ?_
                refine aw_loopk (ι := { k : Nat // k ≤ p.length }) [7, 19, 26, 28] (fun g => [(30, B (metK (decide ((f1 : Int) = f2)) x.s.wide c d p g.1)), (31, I g.1)]) (fun H g => H) (fun g => p.length - g.1) (⟨0, Nat.zero_le _⟩) ⟨(by exact less_bo (by simp [metK])), J, J, J, J, J, trivial⟩ rfl ?_
                rintro ⟨k, hk⟩
                dsimp only [keepS, St.put, sget, slotsOf, nn1, nn2, nn3, nn4, nn5, nn6, Nat.reduceBEq, Nat.reduceAdd, nn7, nn8]
                refine W 4 ?_
                refine iff (fun c_261 c_261' => ?_) (fun c_261 c_261' => ?_)
                · skip
                  have hkL : k < p.length := by omega
                  refine W 0 ?_
                  refine aw_draw 18 mo (by kernel_rfl) ?_
                  refine WD 2 ?_
                  refine dr_split 265 J (fun g22_1 => ?_) (fun g22_1 => ?_)
                  · skip
                    have g22_1' := g22_1
                    try simp only [qq] at g22_1'
                    have eM : true = (metK (decide ((f1 : Int) = f2)) x.s.wide c d p (k + 1)) := by rw [metK_succ hkL, g22_1]; rfl
                    refine WD 16 ?_
                    refine W 4 ?_
                    exact ⟨⟨k + 1, by omega⟩, by simp only; omega, Sub.slots ⟨(by exact less_bo eM), J, J, J, J, J, trivial⟩⟩
                  · skip
                    have g22_1' := g22_1
                    try simp only [qq] at g22_1'
                    have eM : opp (chAt x.s.wide c p[k]) (chAt x.s.wide d p[k]) = (metK (decide ((f1 : Int) = f2)) x.s.wide c d p (k + 1)) := by rw [metK_succ hkL, g22_1]; rfl
                    refine WD 6 ?_
                    refine dcy A (rcell_int hst cc (hpi _ (List.getElem_mem hkL))) ?_
                    refine WD 6 ?_
                    refine dcy A (rcell_int hst cd (hpi _ (List.getElem_mem hkL))) ?_
                    refine dcy A (ropposed_pure _ _) ?_
                    refine WD 1 ?_
                    refine W 4 ?_
                    exact ⟨⟨k + 1, by omega⟩, by simp only; omega, Sub.slots ⟨(by exact less_bo eM), J, J, J, J, J, trivial⟩⟩
                · skip
                  obtain rfl : k = p.length := by omega
                  refine W 2 ?_
                  refine sq_split 283 J (fun g23_1 => ?_) (fun g23_1 => ?_)
                  · skip
                    have g23_1' := g23_1
                    try simp only [qq] at g23_1'
                    refine cy A (known_pure) ?_
                    refine W 2 ?_
                    exact retQ_pure (v := .raw _) rfl rfl J
                  · skip
                    have g23_1' := g23_1
                    try simp only [qq] at g23_1'
                    first | exact absurd g23_1 (by decide) | (exfalso; simp at g23_1; done) | (exfalso; simp at g23_1; omega) | (exfalso; simp_all; done) | (exfalso; simp_all; omega)
theorem proof_yes_f {x : Sn} {cells other p : List Int} {f1 f2 : Nat} {p1 p2 : Pc} {a b : Int} (hc10 : cells.length ≤ 10) (ho10 : other.length ≤ 10)
    (k34 : APure Tryz.prog 34 [figs x.l] (B true)) (k24 : APure Tryz.prog 24 [stA x.s] (B true)) (k68 : APure Tryz.prog 68 [stA x.s, ints cells] (B true)) (k36 : APure Tryz.prog 36 [stA x.s, figs x.l, rcA x.r, B true] (I 0)) (k68' : APure Tryz.prog 68 [stA x.s, ints other] (B true)) (k53 : APure Tryz.prog 53 [ints cells, ints other] (B true))
    (k49 : APure Tryz.prog 49 [figs x.l, rcA x.r, .agg [I (f1 : Int), I p1.near, I p1.x, I p1.y]] (B true)) (k49' : APure Tryz.prog 49 [figs x.l, rcA x.r, .agg [I (f2 : Int), I p2.near, I p2.x, I p2.y]] (B true))
    (k66 : APure Tryz.prog 66 [stA x.s, figs x.l, rcA x.r, ints cells] (.tup [B true, I 0])) (k66' : APure Tryz.prog 66 [stA x.s, figs x.l, rcA x.r, ints other] (.tup [B false, I 0])) (k67 : APure Tryz.prog 67 [stA x.s, figs x.l, rcA x.r, ints cells] (.tup [ints p, I 0])) (k44 : APure Tryz.prog 44 [stA x.s, figs x.l, rcA x.r] (.tup [I a, I b, I 5])) {c d : List (List UInt8)} (hst : stOK x.s = true) (hp8 : p.length ≤ 8) (hpi : ∀ n ∈ p, 0 ≤ n ∧ n < x.s.wide * x.s.high) (hf1 : f1 < x.l.length) (hf2 : f2 < x.l.length) (cc : Clo x.s c) (cd : Clo x.s d)
    (k68p : APure Tryz.prog 68 [stA x.s, ints p] (B true)) (k53p : APure Tryz.prog 53 [ints cells, ints p] (B true)) (k66p : APure Tryz.prog 66 [stA x.s, figs x.l, rcA x.r, ints p] (.tup [B true, I 0]))
    (k28 : APure Tryz.prog 28 [stA x.s, fgA x.l[f1], pcA p1] (.tup [strs c, I 0])) (k28' : APure Tryz.prog 28 [stA x.s, fgA x.l[f2], pcA p2] (.tup [strs d, I 0])) (k29 : APure Tryz.prog 29 [stA x.s, strs c] (B true)) (k29' : APure Tryz.prog 29 [stA x.s, strs d] (B true))
    (hmet : metK (decide ((f1 : Int) = f2)) x.s.wide c d p p.length = true) : APure Tryz.prog 16 [stA x.s, figs x.l, rcA x.r, ints cells, ints other, .agg [I (f1 : Int), I p1.near, I p1.x, I p1.y], .agg [I (f2 : Int), I p2.near, I p2.x, I p2.y]] (B true) := by
  refine apure_of (rs := [.tmp 14]) Tryz.func16 rfl rfl (Nat.le_of_ble_eq_true rfl) (by simp [AV.pureL, AV.pureB, AV.pureE, pureE_map]) (by first | rfl | (simp [AV.pureL, AV.pureB, AV.pureE, pureE_map])) fun e0 he0 => ?_
  refine W 5 ?_
  refine aw_draw 53 mo (by kernel_rfl) ?_
  refine WD 1 ?_
  refine dcl A (k34) ?_
  refine WD 7 ?_
  refine dr_split 40 J (fun g1_8 => ?_) (fun g1_8 => ?_)
  · skip
    have g1_8' := g1_8
    try simp only [qq] at g1_8'
    first | exact absurd g1_8 (by decide) | (exfalso; simp at g1_8; done) | (exfalso; simp at g1_8; omega) | (exfalso; simp_all; done) | (exfalso; simp_all; omega)
  · skip
    have g1_8' := g1_8
    try simp only [qq] at g1_8'
    refine WD 5 ?_
    refine dr_split 45 J (fun g1_13 => ?_) (fun g1_13 => ?_)
    · skip
      have g1_13' := g1_13
      try simp only [qq] at g1_13'
      first | exact absurd g1_13 (by decide) | (exfalso; simp at g1_13; done) | (exfalso; simp at g1_13; omega) | (exfalso; simp_all; done) | (exfalso; simp_all; omega)
    · skip
      have g1_13' := g1_13
      try simp only [qq] at g1_13'
      refine WD 4 ?_
      refine dcy A (k24) ?_
      refine WD 3 ?_
      refine dcy A (k68) ?_
      refine WD 1 ?_
      refine dcy A (k36) ?_
      refine WD 5 ?_
      refine dcy A (k68') ?_
      refine WD 5 ?_
      refine dcy A (k53) ?_
      refine WD 6 ?_
      refine dcy A (k49) ?_
      refine WD 6 ?_
      refine dcy A (k49') ?_
      refine WD 2 ?_
      refine W 0 ?_
      refine aw_cond J (fun c_84 => ?_) (fun c_84 => ?_)
      · skip
        have c_84' := c_84
        try simp only [qq] at c_84'
        first | exact absurd c_84 (by decide) | (exfalso; simp at c_84; done) | (exfalso; simp at c_84; omega) | (exfalso; simp_all; done) | (exfalso; simp_all; omega)
      · skip
        have c_84' := c_84
        try simp only [qq] at c_84'
        refine W 4 ?_
        refine cl A (k66) ?_
        refine W 9 ?_
        refine cl A (k66') ?_
        refine W 9 ?_
        refine cl A (k67) ?_
        refine W 8 ?_
        refine cl A (k44) ?_
        refine W 52 ?_
        refine ifn (fun c_161 c_161' => ?_) (fun c_161 c_161' => ?_)
        · skip
          first | exact absurd c_161 (by decide) | (exfalso; simp at c_161; done) | (exfalso; simp at c_161; omega) | (exfalso; simp_all; done) | (exfalso; simp_all; omega)
        · skip
          refine W 2 ?_
          refine cl A (k68p) ?_
          refine W 4 ?_
          refine cy A (k53p) ?_
          refine W 29 ?_
          refine cl A (k66p) ?_
          refine W 5 ?_
          refine aw_draw 14 mo (by kernel_rfl) ?_
          refine WD 4 ?_
          refine dr_ev rfl (ev_index_map (k := f1) sl45.h J J rfl hf1) ?_
          refine WD 3 ?_
          refine dcl A (k28) ?_
          refine WD 5 ?_
          refine W 0 ?_
          refine aw_draw 14 mo (by kernel_rfl) ?_
          refine WD 4 ?_
          refine dr_ev rfl (ev_index_map (k := f2) sl45.h J J rfl hf2) ?_
          refine WD 3 ?_
          refine dcl A (k28') ?_
          refine WD 5 ?_
          refine W 17 ?_
          refine cy A (k29) ?_
          refine W 5 ?_
          refine cy A (k29') ?_
          refine W 2 ?_
          refine aw_cond J (fun c_252 => ?_) (fun c_252 => ?_)
          · skip
            have c_252' := c_252
            try simp only [qq] at c_252'
            first | exact absurd c_252 (by decide) | (exfalso; simp at c_252; done) | (exfalso; simp at c_252; omega) | (exfalso; simp_all; done) | (exfalso; simp_all; omega)
          · skip
            have c_252' := c_252
            try simp only [qq] at c_252'
            refine W 7 ?_
            refine aw_loopk (ι := { k : Nat // k ≤ p.length }) [7, 19, 26, 28] (fun g => [(30, B (metK (decide ((f1 : Int) = f2)) x.s.wide c d p g.1)), (31, I g.1)]) (fun H g => H) (fun g => p.length - g.1) (⟨0, Nat.zero_le _⟩) ⟨(by exact less_bo (by simp [metK])), J, J, J, J, J, trivial⟩ rfl ?_
            rintro ⟨k, hk⟩
            dsimp only [keepS, St.put, sget, slotsOf, nn1, nn2, nn3, nn4, nn5, nn6, Nat.reduceBEq, Nat.reduceAdd, nn7, nn8]
            refine W 4 ?_
            refine iff (fun c_261 c_261' => ?_) (fun c_261 c_261' => ?_)
            · skip
              have hkL : k < p.length := by omega
              refine W 0 ?_
              refine aw_draw 18 mo (by kernel_rfl) ?_
              refine WD 2 ?_
              refine dr_split 265 J (fun g22_1 => ?_) (fun g22_1 => ?_)
              · skip
                have g22_1' := g22_1
                try simp only [qq] at g22_1'
                have eM : true = (metK (decide ((f1 : Int) = f2)) x.s.wide c d p (k + 1)) := by rw [metK_succ hkL, g22_1]; rfl
                refine WD 16 ?_
                refine W 4 ?_
                exact ⟨⟨k + 1, by omega⟩, by simp only; omega, Sub.slots ⟨(by exact less_bo eM), J, J, J, J, J, trivial⟩⟩
              · skip
                have g22_1' := g22_1
                try simp only [qq] at g22_1'
                have eM : opp (chAt x.s.wide c p[k]) (chAt x.s.wide d p[k]) = (metK (decide ((f1 : Int) = f2)) x.s.wide c d p (k + 1)) := by rw [metK_succ hkL, g22_1]; rfl
                refine WD 6 ?_
                refine dcy A (rcell_int hst cc (hpi _ (List.getElem_mem hkL))) ?_
                refine WD 6 ?_
                refine dcy A (rcell_int hst cd (hpi _ (List.getElem_mem hkL))) ?_
                refine dcy A (ropposed_pure _ _) ?_
                refine WD 1 ?_
                refine W 4 ?_
                exact ⟨⟨k + 1, by omega⟩, by simp only; omega, Sub.slots ⟨(by exact less_bo eM), J, J, J, J, J, trivial⟩⟩
            · skip
              obtain rfl : k = p.length := by omega
              refine W 2 ?_
              refine sq_split 283 J (fun g23_1 => ?_) (fun g23_1 => ?_)
              · skip
                have g23_1' := g23_1
                try simp only [qq] at g23_1'
                refine cy A (known_pure) ?_
                refine W 2 ?_
                exact retQ_pure (v := .raw _) rfl rfl J
              · skip
                have g23_1' := g23_1
                try simp only [qq] at g23_1'
                first | exact absurd g23_1 (by decide) | (exfalso; simp at g23_1; done) | (exfalso; simp at g23_1; omega) | (exfalso; simp_all; done) | (exfalso; simp_all; omega)
end Go.Proofs.YtmbknoaneglilaaGreatDoor
namespace Go.Proofs.YtmbknoaneglilaaGreatDoor
open Go Go.Ab Ni Ol
theorem ce_sub {s : Sg} {l p : List Int} (h : ceOK s l = true) (hp : List.Sublist p l) : ceOK s p = true := by
  have hr := (ce_rising h).sublist hp
  obtain ⟨hin, hl⟩ := ce_in h
  have := hp.length_le
  rw [ce_end fun i hi => ?_]
  · rw [decide_eq_true_eq]; omega
  · rw [cg_eq hi]
    have h1 := hin _ (hp.subset (List.getElem_mem hi))
    simp only [Bool.and_eq_true, Bool.or_eq_true, decide_eq_true_eq, inn]
    refine ⟨by omega, ?_⟩
    by_cases h0 : i = 0
    · exact .inl h0
    · exact .inr ((List.pairwise_iff_getElem.1 hr) (i - 1) i (by omega) hi (by omega))
theorem met_full {x : Sn} {p : List Int} {f1 f2 : Nat} {t u : Th} (hen : enough x p = true) (h1 : f1 < x.l.length) (h2 : f2 < x.l.length) (ht : t ∈ rdN x f1) (hu : u ∈ rdN x f2) : metK (decide ((f1 : Int) = f2)) x.s.wide t.sh u.sh p p.length = true := by
  unfold metK
  rw [List.take_length]
  rw [enough_iff, byF_len] at hen
  rcases Nat.lt_trichotomy f1 f2 with h | h | h
  · have := hen f2 h2 f1 h u (by rw [byF_get h2]; exact hu) t (by rw [byF_get h1]; exact ht)
    unfold tells at this
    rw [Bool.or_eq_true]; right
    rw [List.any_eq_true] at this ⊢
    obtain ⟨n, hn, e⟩ := this
    exact ⟨n, hn, by rw [opp_symm]; exact e⟩
  · subst h; simp
  · have := hen f1 h1 f2 h t (by rw [byF_get h1]; exact ht) u (by rw [byF_get h2]; exact hu)
    unfold tells at this
    rw [this]; simp
/-- **OutlineProof.** -/
theorem law16 (x : Sn) (cells other : List Int) (f1 f2 : Int) (p1 p2 : Pc) : APure Tryz.prog 16 [stA x.s, figs x.l, rcA x.r, ints cells, ints other, .agg [I f1, I p1.near, I p1.x, I p1.y], .agg [I f2, I p2.near, I p2.x, I p2.y]] (B true) := by
  cases hg : (fewB x.l && (decide (cells.length ≤ 10) && (decide (other.length ≤ 10) && (decide (askE x (stOK x.s && ceOK x.s cells) = 0) && (ceOK x.s other && ((other.all fun n => decide (n ∈ cells)) && (readB x.l.length x.r f1 p1 && readB x.l.length x.r f2 p2))))))) with
  | false => exact proof_gate x cells other f1 f2 p1 p2 hg
  | true =>
    simp only [Bool.and_eq_true, decide_eq_true_eq] at hg
    obtain ⟨hfew, hc10, ho10, hask, hceo, hsub, hr1, hr2⟩ := hg
    obtain ⟨hx, his⟩ := askE_0.1 hask
    obtain ⟨hst, hce⟩ := gate_bool his
    obtain ⟨hb1, hn1, hx1, hy1⟩ := readB_iff.1 hr1
    obtain ⟨hb2, hn2, hx2, hy2⟩ := readB_iff.1 hr2
    obtain ⟨n1, rfl⟩ : ∃ n : Nat, f1 = n := ⟨f1.toNat, by omega⟩
    obtain ⟨n2, rfl⟩ : ∃ n : Nat, f2 = n := ⟨f2.toNat, by omega⟩
    have hl1 : n1 < x.l.length := by omega
    have hl2 : n2 < x.l.length := by omega
    have hsz := fewB_sz hfew
    have hll : x.l.length ≤ 1000000 := by omega
    have hrs := sub_rising (ce_rising hceo) (ce_rising hce) (fun n hn => by have := List.all_eq_true.1 hsub n hn; simpa using this)
    have k34 : APure Tryz.prog 34 [figs x.l] (B true) := by have := few_pure x.l; rwa [hfew] at this
    have k24 : APure Tryz.prog 24 [stA x.s] (B true) := by have := rstage_pure x.s; rwa [hst] at this
    have k68 : APure Tryz.prog 68 [stA x.s, ints cells] (B true) := by have := rcells_pure x.s cells hst (by omega); rwa [hce] at this
    have k68' : APure Tryz.prog 68 [stA x.s, ints other] (B true) := by have := rcells_pure x.s other hst (by omega); rwa [hceo] at this
    have k36 : APure Tryz.prog 36 [stA x.s, figs x.l, rcA x.r, B true] (I 0) := by have := asked_pure x true; rwa [askE_0.2 ⟨hx, rfl⟩] at this
    have k53 : APure Tryz.prog 53 [ints cells, ints other] (B true) := by have := within_pure cells other (by omega) (by omega); rwa [hsub] at this
    have k49 : APure Tryz.prog 49 [figs x.l, rcA x.r, .agg [I n1, I p1.near, I p1.x, I p1.y]] (B true) := by have := reading_pure x.l x.r n1 p1; rwa [hr1] at this
    have k49' : APure Tryz.prog 49 [figs x.l, rcA x.r, .agg [I n2, I p2.near, I p2.x, I p2.y]] (B true) := by have := reading_pure x.l x.r n2 p2; rwa [hr2] at this
    have k66 := enough_pure x cells hll (by omega)
    have k66' := enough_pure x other hll (by omega)
    have k67 := plan_pure x cells hll (by omega)
    have hcel : celOK x cells = true := cel_3 hx hce
    have hcelo : celOK x other = true := cel_3 hx hceo
    rw [hcel, show er true = 0 from rfl, Bool.true_and] at k66
    rw [hcelo, show er true = 0 from rfl, Bool.true_and] at k66'
    unfold planE at k67
    rw [if_pos hcel] at k67
    rw [planOf_iff (ce_rising hce)] at k66
    obtain ⟨g1, g2, g, k44, hg⟩ := mis_err hx hll
    cases hp : planOf x cells with
    | none =>
      rw [hp] at k66 k67
      have k67 : APure Tryz.prog 67 [stA x.s, figs x.l, rcA x.r, ints cells] (.tup [ints [], I 5]) := k67
      rw [planOf_none hp other hrs] at k66'
      rcases hg with ⟨rfl, _⟩ | ⟨rfl, _⟩
      · exact proof_no0 hc10 ho10 k34 k24 k68 k36 k68' k53 k49 k49' k66 k66' k67 k44
      · exact proof_no5 hc10 ho10 k34 k24 k68 k36 k68' k53 k49 k49' k66 k66' k67 k44
    | some p =>
      rw [hp] at k66 k67
      have k67 : APure Tryz.prog 67 [stA x.s, figs x.l, rcA x.r, ints cells] (.tup [ints p, I 0]) := k67
      obtain ⟨hps, hpe, hpm⟩ := planOf_some (ce_rising hce) hp
      have hcep := ce_sub hce hps
      obtain ⟨hpi, hp8⟩ := ce_in hcep
      have hg5 : g = 5 := by
        rcases hg with ⟨_, h⟩ | ⟨h, _⟩
        · exfalso
          cases hm : misOf x with
          | none => exact h hm
          | some q =>
            obtain ⟨a, b⟩ := q
            obtain ⟨i, hi, e, _⟩ := findSome_inv (show (List.range (byF x).length).findSome? (pairI (byF x)) = some (a, b) from hm)
            unfold pairI at e
            cases hf : (List.range (byF x).length).find? (fun k => decide (i < k) && mists ((byF x).getD i []) ((byF x).getD k [])) with
            | none => rw [hf] at e; cases e
            | some k =>
              have h1 := List.find?_some hf
              have h2 := List.mem_range.1 (List.mem_of_find?_eq_some hf)
              simp only [Bool.and_eq_true, decide_eq_true_eq] at h1
              obtain ⟨t, ht, u, hu, hag⟩ := mists_iff.1 h1.2
              have hte := (enough_iff.1 hpe) k h2 i h1.1 u hu t ht
              unfold tells at hte
              obtain ⟨n, hn, ho⟩ := List.any_eq_true.1 hte
              have hk2 : k < x.l.length := by rw [byF_len] at h2; exact h2
              have hi2 : i < x.l.length := by omega
              rw [byF_get hk2] at hu
              rw [byF_get hi2] at ht
              have clo : ∀ {j : Nat} {v : Th}, v ∈ rdN x j → Clo x.s v.sh := fun {j v} hv => by
                unfold rdN rdX at hv
                obtain ⟨a1, _, hv⟩ := List.mem_flatMap.1 hv
                obtain ⟨a2, _, rfl⟩ := List.mem_map.1 hv
                exact shadow_clo (Ca.mk x.s (x.l.getD j []) ⟨a1, a2, x.r.y⟩)
              obtain ⟨m, rfl⟩ : ∃ m : Nat, n = m := ⟨n.toNat, by have := hpi n hn; omega⟩
              obtain ⟨q1, q2, q3⟩ := chAt_get hst (clo ht) (hpi _ hn).2
              obtain ⟨r1, r2, r3⟩ := chAt_get hst (clo hu) (hpi _ hn).2
              rw [q3, r3, opp_symm] at ho
              rw [agree_no q1 r1 q2 r2 ho] at hag; cases hag
        · exact h
      subst hg5
      have k68p : APure Tryz.prog 68 [stA x.s, ints p] (B true) := by have := rcells_pure x.s p hst (by omega); rwa [hcep] at this
      have hsubp : (p.all fun n => decide (n ∈ cells)) = true := List.all_eq_true.2 fun n hn => by simpa using hps.subset hn
      have k53p : APure Tryz.prog 53 [ints cells, ints p] (B true) := by have := within_pure cells p (by omega) (by omega); rwa [hsubp] at this
      have k66p := enough_pure x p hll (by omega)
      rw [cel_3 hx hcep, show er true = 0 from rfl, Bool.true_and, hpe] at k66p
      have ec : ∀ (f : Nat) (hf : f < x.l.length) (p : Pc), readB x.l.length x.r f p = true → caOK ⟨x.s, x.l[f], p⟩ = true := fun f hf p hp => by
        have hrc := rcOK_facts (sn_facts hx).2.2.1
        obtain ⟨_, h2, h3, h4⟩ := readB_iff.1 hp
        unfold caOK
        simp only [Bool.and_eq_true]
        exact ⟨⟨hst, (sn_facts hx).2.2.2 f hf⟩, pcOK_iff.2 ⟨by omega, by omega, by omega⟩⟩
      have e1 := ec n1 hl1 p1 hr1
      have e2 := ec n2 hl2 p2 hr2
      have k28 := shadowE_pure ⟨x.s, x.l[n1], p1⟩
      have k28' := shadowE_pure ⟨x.s, x.l[n2], p2⟩
      rw [if_pos e1, e1] at k28
      rw [if_pos e2, e2] at k28'
      have c1 := shadow_clo ⟨x.s, x.l[n1], p1⟩
      have c2 := shadow_clo ⟨x.s, x.l[n2], p2⟩
      have k29 : APure Tryz.prog 29 [stA x.s, strs (Ca.mk x.s x.l[n1] p1).shadow] (B true) := by have := whole_pure x.s (Ca.mk x.s x.l[n1] p1).shadow (clo_shp hst c1); rwa [shadow_whole (c := ⟨x.s, x.l[n1], p1⟩) hst] at this
      have k29' : APure Tryz.prog 29 [stA x.s, strs (Ca.mk x.s x.l[n2] p2).shadow] (B true) := by have := whole_pure x.s (Ca.mk x.s x.l[n2] p2).shadow (clo_shp hst c2); rwa [shadow_whole (c := ⟨x.s, x.l[n2], p2⟩) hst] at this
      have hmet := met_full hpe hl1 hl2 (read_mem hl1 hr1) (read_mem hl2 hr2)
      cases he : enough x other with
      | false =>
        rw [he] at k66'
        exact proof_yes_f hc10 ho10 k34 k24 k68 k36 k68' k53 k49 k49' k66 k66' k67 k44 hst hp8 hpi hl1 hl2 c1 c2 k68p k53p k66p k28 k28' k29 k29' hmet
      | true =>
        rw [he] at k66'
        have hq := hpm other hrs he
        exact proof_yes_t hc10 ho10 k34 k24 k68 k36 k68' k53 k49 k49' k66 k66' k67 k44 hst hp8 hpi hl1 hl2 c1 c2 k68p k53p k66p k28 k28' k29 k29' hmet (by omega) (fun e => by
          rcases hq with h | ⟨_, h⟩
          · omega
          · exact h)
end Go.Proofs.YtmbknoaneglilaaGreatDoor
