/-
  A part of the proof: conditions: none beyond each theorem's own.
-/
import Derived.Test.YtjpokekbjmdgmaaGreatDoorLogicA
import Derived.Test.YtjpokekbjmdgmaaGreatDoorLogicD
import Derived.Laws.Small
import Derived.Deep.Slices
import Derived.OpenShut
import Derived.Carry
import Derived.Test.YtjpokekbjmdgmaaGreatDoorLogicC
import Derived.IntWalk
import Derived.Test.YtjpokekbjmdgmaaGreatDoorSpecA
import Derived.Test.YtjpokekbjmdgmaaGreatDoorProg
import Derived.KernelRfl
import Derived.Lib.LaidTab
import Derived.Lib.ItoaNum
import Derived.Test.YtjpokekbjmdgmaaGreatDoorWalkC
import Derived.Test.YtjpokekbjmdgmaaGreatDoorWalkE
import Derived.Test.YtjpokekbjmdgmaaGreatDoorLogicB
import Derived.Test.YtjpokekbjmdgmaaGreatDoorShelf
import Derived.Test.YtjpokekbjmdgmaaGreatDoorWalkA
import Derived.Test.YtjpokekbjmdgmaaGreatDoorWalkB
import Derived.Test.YtjpokekbjmdgmaaGreatDoorWalkD
import Derived.Test.YtjpokekbjmdgmaaGreatDoorRow
set_option linter.all false
set_option maxRecDepth 100000
set_option maxHeartbeats 8000000
namespace Go.Ab
variable [Tabs]
theorem FW_room (r : Option Nat) (n : Nat) : (FW r).room n := fun _ h => by simp [FW] at h
variable {c : Ctx} {Q : AExit → St → Prop} {s : St}
end Go.Ab
namespace Go.Ab
variable [Tabs]
section
variable {P : Program} {r : Option Nat} {H : List AObj} {ρ : Operand → AV}
variable {d : Option Tmp} {t : TypeId} {p : String} {af : Array Edge} {g : Option (Nat × Bool)} {x y : Operand}
theorem ev_bool2 {op : BinOp} {a b : Bool} {xt yt : TypeId} {v : AV} (hx : Less (ρ x) (.raw (.bool a))) (hy : Less (ρ y) (.raw (.bool b)))
    (hr : ∀ w e, ∃ u, (binOp op xt (.bool a) (.bool b)).run P w = .ok u w ∧ Rep e v u) : Ev P r ⟨d, .binOp op xt x y yt, t, p, af, g⟩ H ρ v :=
  Ev.pure (by intro c h; cases h) fun e ρc _ _ hs => by
    have e1 := rep_raw hx (hs x (by simp [Op.operands]))
    have e2 := rep_raw hy (hs y (by simp [Op.operands]))
    obtain ⟨u, h1, h2⟩ := hr e.w e
    refine ⟨u, ?_, h2⟩
    have hg : (eqGuard op xt x y (.bool a) (.bool b)).run P e.w = .ok () e.w := by
      unfold eqGuard; split <;> simp
    simp [execOp, e1, e2, hg, h1]
theorem ev_neqB {a b : Bool} {xt yt : TypeId} (ht : P.underlying xt = some .bool) (hx : Less (ρ x) (.raw (.bool a))) (hy : Less (ρ y) (.raw (.bool b))) :
    Ev P r ⟨d, .binOp .neq xt x y yt, t, p, af, g⟩ H ρ (.raw (.bool (!(a == b)))) :=
  ev_bool2 hx hy fun w e => ⟨_, run_neq_bool w xt a b ht, by rw [Rep]⟩
end
end Go.Ab
namespace Go.Ab
open Go.ChangeShapes Go.WideShapes
variable [Tabs]
theorem env0_ok {w : World} (h : Tabs.is w) (hb : ∀ b, Tabs.blk b → b < w.heap.size) : EnvOK (env0 w) :=
  ⟨fun b hb => by have hb' : w.heap.size ≤ b := hb
                  have : w.heap[b]? = none := by simpa using hb'
                  simp [env0, this], fun i o h => by simp [env0] at h, fun i j b hi => by simp [env0] at hi, fun i b hi => by simp [env0] at hi, h, fun b hk => ⟨hb b hk, fun i hi => by simp [env0] at hi⟩⟩
section
variable {H : Type} {enc : TypeId × Value → H} {P : Program} {w : World} {base : Nat} {spare : Nat → Bool} {held : Bool}
theorem trodAll_stays (hl : laidOutB P = true) {W W' : World} (hheap : ∀ b, b < W.heap.size → W'.heap[b]? = W.heap[b]?) {sp' : Nat → Bool} :
    ∀ {ts : List TypeId} {vs : List Value} {ds : List (DataW H)} {ps : List MemPlace}, (∀ t ∈ ts, P.readableRec t = true ∧ t < P.types.size) → DataW.TrodAll enc P W base (fun _ => true) true ts vs ds ps → (∀ p ∈ ps, p.block < W.heap.size) → (∀ p ∈ ps, sp' p.block = true) →
      DataW.TrodAll enc P W' base sp' true ts vs ds ps
  | [], _, _, _, _, h, _, _ => by
    obtain ⟨rfl, rfl, rfl⟩ := trodAll_nil h
    exact trodAll_mk0
  | t :: ts, _, _, _, ht, h, hlt, hs => by
    obtain ⟨v, vs1, d, ds1, a, b, rfl, rfl, rfl, h1, h2⟩ := trodAll_cons h
    refine trodAll_cons_mk (WideElems.Trod_stays hl (ht t (by simp)).1 (ht t (by simp)).2 h1 (fun p hp => ?_) (fun p hp => hs p (by simp [hp]))) (trodAll_stays hl hheap (fun u hu => ht u (List.mem_cons_of_mem _ hu)) h2 (fun p hp => hlt p (by simp [hp])) (fun p hp => hs p (by simp [hp])))
    have hb := hheap p.block (hlt p (by simp [hp]))
    cases p with
    | cell b o => exact cell?_of_heap hb
    | map b => exact hb
/-- **What a law's row asks of a call that returns true and leaves what it met.** -/
theorem post_true {f : Func} {s : ChangeSpec} {W W' : World} {args : Array Value} {ds gs : List (DataW H)} {before : List MemPlace} {tb : TypeId} (hl : laidOutB P = true) (hread : ∀ t ∈ f.params.toList, P.readableRec t = true ∧ t < P.types.size)
    (hres : f.resultTypes = #[tb]) (htb : P.underlying tb = some .bool) (hvars : s.vars = []) (hspec : (s.fn H ds).results = [.lit (.bool true)] ∧ (s.fn H ds).args = ds ∧ (s.fn H ds).vars = [])
    (hW : DataW.Whole enc P f.params.toList s.vars false W args.toList ds gs before) (hheap : ∀ b, b < W.heap.size → W'.heap[b]? = W.heap[b]?) (hst : Still W W') :
    s.post enc P f false true false false W args (.bool true) W' := by
  have hlt := hW.lt
  have hW0 := hW
  obtain ⟨p, q, h1, h2, rfl, _, _⟩ := hW
  rw [hvars] at h2
  obtain ⟨rfl, rfl⟩ := trodVars_none h2
  simp only [List.append_nil] at hlt
  obtain ⟨e1, e2, e3⟩ := hspec
  refine ⟨ds, [], p ++ [], [], p, [], hW0, ?_, ?_, ?_, ?_, fun h => by cases h⟩
  · rw [List.append_nil, e1, hres]
    exact trodAll_cons_mk (RowKit.shut_bool htb _) trodAll_mk0
  · rw [List.append_nil, e2]
    exact trodAll_stays hl hheap hread h1 hlt (fun p hp => by simpa using hlt p hp)
  · rw [List.append_nil, e3, hvars]; rfl
  · refine ⟨hst.1, hst.2, fun i hi => ?_⟩
    rw [hheap i hi]
    split <;> simp_all
theorem APure.law {f : FuncId} {args : List AV} {W : World} {vs : Array Value} (hc : APure P f args (.raw (.bool true))) (ht : Tabs.is W) (hb : ∀ b, Tabs.blk b → b < W.heap.size) (hr : RepL (env0 W) args vs.toList) :
    Calls P f vs W fun x W' => x = .returned (.bool true) ∧ (∀ b, b < W.heap.size → W'.heap[b]? = W.heap[b]?) ∧ Still W W' := by
  refine ((hc (env0 W) vs (env0_ok ht hb) hr).calls (fun k => FW_room none k)).mono ?_
  rintro x w' ⟨u, e', rfl, rfl, hx, hu⟩
  rw [Rep] at hu; subst hu
  exact ⟨rfl, hx.heap, hx.still⟩
end
end Go.Ab
namespace Go.Ab
variable [Tabs]
section seq
variable {c : Ctx} {ops : Array Oper} {Q : AExit → St → Prop} {rest : List Oper} {s : St} {i : Nat}
variable {d : Option Tmp} {op : Op} {t : TypeId} {p : String} {af : Array Edge}
end seq
section cond
variable {c : Ctx} {Q : AExit → St → Prop} {s : St} {x : Operand} {y z : Code}
end cond
section split
variable {c : Ctx} {ops : Array Oper} {Q : AExit → St → Prop} {s : St} {i : Nat} {l : List Oper}
end split
section draw
variable {c : Ctx} {H0 : List AObj} {ops : Array Oper} {Q : AExit → St → Prop} {m i : Nat} {s : St} {rest : List Oper}
variable {d : Option Tmp} {op : Op} {t : TypeId} {p : String} {af : Array Edge}
theorem dn0 {j u : Nat} (hj : gslot ops j = some u) (ht : Nat.blt u c.nt = true) (hb : Less (sget s.sl u) (.raw (.bool true))) (hd : dOK c.nt d = true) (k : DR c H0 ops Q m (i + 1) rest (s.put d (.raw (.tuple #[])))) :
    DR c H0 ops Q m i (⟨d, op, t, p, af, some (j, false)⟩ :: rest) s := dr_no hj ht hb rfl hd k
theorem du {j u : Nat} {want : Bool} (hj : gslot ops j = some u) (ht : Nat.blt u c.nt = true) (hb : Less (sget s.sl u) (.raw (.tuple #[]))) (hd : dOK c.nt d = true) (k : DR c H0 ops Q m (i + 1) rest (s.put d (.raw (.tuple #[])))) :
    DR c H0 ops Q m i (⟨d, op, t, p, af, some (j, want)⟩ :: rest) s := dr_no hj ht hb rfl hd k
end draw
section ex
variable {c : Ctx} {Q : AExit → St → Prop} {K : St → Prop} {s : St} {id j : Nat}
end ex
section app
variable {c : Ctx} {ops : Array Oper} {Q : AExit → St → Prop} {s : St} {i : Nat} {o : Oper} {l m : List Oper} {H0 : List AObj} {k : Nat}
end app
theorem W (n : Nat) {p q : Prop} (k : q) (h : Cnt n → (Unit → q) → p := by
  intro hc hk
  repeat (
    replace hc := Cnt.pred hc
    repeat (with_reducible (first | refine xn ?_ | refine sa ?_ | refine sa0 ?_ | refine aw_seq ?_ | refine aw_region ?_ | refine sq_nil ?_ | refine aw_skip ?_ | refine aw_block ?_ | refine bn ?_ | refine aw_exit ?_ | refine xe ?_ | refine be ?_ | refine bo ?_ | refine gn ?_ | refine ge ?_ | refine xr ?_ | refine br ?_ | refine gr ?_ | refine aw_label ?_ | refine aw_scope ?_))
    first
    | ((with_reducible apply sq_ev); exact rfl; exact EV)
    | ((with_reducible apply sn1); exact rfl; exact rfl; exact GD J; exact rfl)
    | ((with_reducible apply sn0); exact rfl; exact rfl; exact GD J; exact rfl)
    | ((with_reducible apply sq_yes); exact rfl; exact rfl; exact GD J; exact rfl; exact EV)
    | ((with_reducible apply su); exact rfl; exact rfl; exact J; exact rfl)
    | ((with_reducible apply sq_box); exact rfl; exact J; exact rfl)
    | ((with_reducible apply sq_alloc); exact rfl; exact ZeO.h)
    | ((with_reducible apply sq_store); exact rfl; exact J; exact J; exact rfl; exact rfl; exact TyF.h; exact rfl; exact rfl)
    | ((with_reducible refine aw_true ?_ ?_); exact GD J)
    | ((with_reducible refine aw_false ?_ ?_); exact GD J))
  repeat (with_reducible (first | refine xn ?_ | refine sa ?_ | refine sa0 ?_ | refine aw_seq ?_ | refine aw_region ?_ | refine sq_nil ?_ | refine aw_skip ?_ | refine aw_block ?_ | refine bn ?_ | refine aw_exit ?_ | refine xe ?_ | refine be ?_ | refine bo ?_ | refine gn ?_ | refine ge ?_ | refine xr ?_ | refine br ?_ | refine gr ?_ | refine aw_label ?_ | refine aw_scope ?_ | refine aw_ret ?_))
  exact hk ()) : p := h ⟨⟩ fun _ => k
end Go.Ab
namespace Hd
open Ni (inn)
section best
variable {α : Type} (c : α → List Int)
end best
theorem lex_trans : ∀ {a b c : List Int}, lex a b = true → lex b c = true → lex a c = true
  | [], [], _, h, _ => by simp [lex] at h
  | [], _ :: _, [], _, h => by simp [lex] at h
  | [], _ :: _, _ :: _, _, _ => rfl
  | _ :: _, [], _, h, _ => by simp [lex] at h
  | _ :: _, _ :: _, [], _, h => by simp [lex] at h
  | x :: a, y :: b, z :: c, h1, h2 => by
    simp only [lex] at h1 h2 ⊢
    by_cases e1 : x = y
    · subst e1
      rw [if_pos rfl] at h1
      by_cases e2 : x = z
      · subst e2; rw [if_pos rfl] at h2 ⊢; exact lex_trans h1 h2
      · rw [if_neg e2] at h2 ⊢; exact h2
    · rw [if_neg e1, decide_eq_true_eq] at h1
      by_cases e2 : y = z
      · subst e2; rw [if_neg e1, decide_eq_true_eq]; exact h1
      · rw [if_neg e2, decide_eq_true_eq] at h2
        rw [if_neg (by omega), decide_eq_true_eq]; omega
theorem soon_irr (a : List Int) : soon a a = false := by unfold soon; simp [lex_irr]
theorem soon_trans {a b c : List Int} (h1 : soon a b = true) (h2 : soon b c = true) : soon a c = true := by
  unfold soon at *
  simp only [Bool.or_eq_true, Bool.and_eq_true, decide_eq_true_eq] at *
  rcases h1 with h1 | ⟨e1, h1⟩ <;> rcases h2 with h2 | ⟨e2, h2⟩
  · exact .inl (by omega)
  · exact .inl (by omega)
  · exact .inl (by omega)
  · exact .inr ⟨by omega, lex_trans h1 h2⟩
theorem best_gen {α : Type} (c : α → List Int) : ∀ (L pre : List α) (i : Nat) (hi : i < pre.length), (∀ j, (hj : j < pre.length) → soon (c pre[j]) (c pre[i]) = false) → (∀ j, (hj : j < i) → c (pre[j]'(by omega)) ≠ c pre[i]) →
    ∃ i' : Nat, ∃ h : i' < (pre ++ L).length, L.foldl (bst c) pre[i] = (pre ++ L)[i'] ∧ (∀ j, (hj : j < (pre ++ L).length) → soon (c (pre ++ L)[j]) (c (pre ++ L)[i']) = false) ∧ ∀ j, (hj : j < i') → c ((pre ++ L)[j]'(by omega)) ≠ c (pre ++ L)[i']
  | [], pre, i, hi, h1, h2 => by
    simp only [List.append_nil, List.foldl_nil]
    exact ⟨i, hi, rfl, h1, h2⟩
  | x :: L, pre, i, hi, h1, h2 => by
    have e : pre ++ x :: L = (pre ++ [x]) ++ L := by simp
    have hlen : (pre ++ [x]).length = pre.length + 1 := by simp
    have old : ∀ j, (hj : j < pre.length) → (pre ++ [x])[j]'(by omega) = pre[j] := fun j hj => List.getElem_append_left hj
    have new : (pre ++ [x])[pre.length]'(by omega) = x := by rw [List.getElem_append_right (Nat.le_refl _)]; simp
    rw [List.foldl_cons]
    by_cases hs : soon (c x) (c pre[i]) = true
    · have eb : bst c pre[i] x = (pre ++ [x])[pre.length]'(by omega) := by rw [new]; unfold bst; rw [if_pos hs]
      rw [eb]
      simp only [e]
      refine best_gen c L (pre ++ [x]) pre.length (by omega) (fun j hj => ?_) (fun j hj => ?_)
      · rw [new]
        rcases Nat.lt_or_ge j pre.length with k | k
        · rw [old j k]
          cases hb : soon (c pre[j]) (c x) with
          | false => rfl
          | true => have := h1 j k; rw [soon_trans hb hs] at this; cases this
        · have : j = pre.length := by omega
          subst this; rw [new]; exact soon_irr _
      · rw [new, old j hj]
        intro heq
        have := h1 j hj
        rw [heq, hs] at this; cases this
    · have eb : bst c pre[i] x = (pre ++ [x])[i]'(by omega) := by rw [old i hi]; unfold bst; rw [if_neg hs]
      rw [eb]
      simp only [e]
      refine best_gen c L (pre ++ [x]) i (by omega) (fun j hj => ?_) (fun j hj => ?_)
      · rw [old i hi]
        rcases Nat.lt_or_ge j pre.length with k | k
        · rw [old j k]; exact h1 j k
        · have : j = pre.length := by omega
          subst this; rw [new]; simpa using hs
      · rw [old i hi, old j (by omega)]; exact h2 j hj
theorem best_spec {α : Type} (c : α → List Int) (L : List α) (o : α) : ∃ i : Nat, ∃ h : i < (o :: L).length, L.foldl (bst c) o = (o :: L)[i] ∧ (∀ j, (hj : j < (o :: L).length) → soon (c (o :: L)[j]) (c (o :: L)[i]) = false) ∧ ∀ j, (hj : j < i) → c ((o :: L)[j]'(by omega)) ≠ c (o :: L)[i] :=
  best_gen c L [o] 0 (by simp) (fun j hj => by have h0 : j = 0 := by simpa using hj
                                               subst h0; exact soon_irr _) (fun j hj => by omega)
end Hd
namespace Hd
open Ni (inn)
theorem bestL_facts (c : Rt → List Int) : ∀ (L : List Rt), L ≠ [] → ∃ i : Nat, ∃ hi : i < L.length, bestL c L = L[i] ∧ (∀ j, (hj : j < L.length) → soon (c L[j]) (c L[i]) = false) ∧ ∀ j, (hj : j < i) → c (L[j]'(by omega)) ≠ c L[i]
  | [], h => absurd rfl h
  | x :: L, _ => by
    obtain ⟨i, hi, e, h1, h2⟩ := best_spec c L x
    exact ⟨i, hi, e, h1, h2⟩
theorem best_facts {r : Rg} (B : RgB r) (h : Nat) (f : List Int) : rtOK r (bestOfR r h f) = true ∧ (∀ y, rtOK r y = true → soon (chA r h f y) (chA r h f (bestOfR r h f)) = false) ∧ ∃ i : Nat, ∃ hi : i < (alls r).length, bestOfR r h f = (alls r)[i] ∧ ∀ j, (hj : j < i) → chA r h f ((alls r)[j]'(by omega)) ≠ chA r h f (bestOfR r h f) := by
  obtain ⟨i, hi, e, h1, h2⟩ := bestL_facts (chA r h f) (alls r) (alls_ne B)
  unfold bestOfR
  refine ⟨by rw [e]; exact mem_alls.1 (List.getElem_mem hi), fun y hy => ?_, i, hi, e, fun j hj => by rw [e]; exact h2 j hj⟩
  obtain ⟨j, hj, rfl⟩ := List.getElem_of_mem (mem_alls.2 hy)
  rw [e]; exact h1 j hj
theorem best_few {r : Rg} (B : RgB r) (h : Nat) (f : List Int) : ((chA r h f (bestOfR r h f)).length : Int) = fews r h f := by
  obtain ⟨h1, h2, _⟩ := best_facts B h f
  obtain ⟨y, hy, e⟩ := fews_is B h f
  have l1 := fews_le B (h := h) (f := f) h1
  have := h2 y hy
  unfold soon at this
  simp only [Bool.or_eq_false_iff, decide_eq_false_iff_not] at this
  omega
theorem alls_order {r : Rg} {i j : Nat} (hij : i < j) (hj : j < (alls r).length) : ((alls r)[i]'(by omega)).a < (alls r)[j].a ∨ (((alls r)[i]'(by omega)).a = (alls r)[j].a ∧ ((alls r)[i]'(by omega)).b < (alls r)[j].b) := by
  have hp : (alls r).Pairwise (fun x y => x.a < y.a ∨ (x.a = y.a ∧ x.b < y.b)) := by
    unfold alls
    have hr : ∀ a b, (rng a b).Pairwise (· < ·) := fun a b => by
      unfold rng
      rw [List.pairwise_map]
      exact List.pairwise_lt_range.imp fun h => by omega
    rw [List.pairwise_flatMap]
    refine ⟨fun a _ => ?_, (hr r.al r.ah).imp fun {a a'} hlt x hx y hy => ?_⟩
    · rw [List.pairwise_map]
      exact (hr r.bl r.bh).imp fun {b b'} hlt => .inr ⟨rfl, hlt⟩
    · obtain ⟨b, _, rfl⟩ := List.mem_map.1 hx
      obtain ⟨b', _, rfl⟩ := List.mem_map.1 hy
      exact .inl hlt
  exact List.pairwise_iff_getElem.1 hp i j (by omega) hj hij
end Hd
namespace Go.Proofs.YtjpokekbjmdgmaaGreatDoor
open Go Go.Ab Ni Hd
theorem rin_pure (n lo hi : Int) : APure Tryz.prog 74 [I n, I lo, I hi] (B (inn n lo hi)) := by
  refine ap Tryz.func74 (fun e0 he0 => ?_)
  refine wz 5 ?_
  refine sz 10 (fun g1 g1' => ?_) (fun g1 g1' => ?_)
  ·refine wz 5 ?_
   exact rz rfl (Less.eq (by simp [inn, *]))
  refine wz 5 ?_
  exact rz rfl (Less.eq (by simp [inn, *]))
end Go.Proofs.YtjpokekbjmdgmaaGreatDoor
namespace Go.Proofs.YtjpokekbjmdgmaaGreatDoor
open Go Go.Ab Ni Hd
def okM (r : Rg) (l : List Int) : Bool := decide (∀ i, (hi : i < l.length) → msIn r l[i] = true ∧ (0 < i → l[i - 1] < l[i]))
theorem okM_no {r : Rg} {l : List Int} {i : Nat} (hi : i < l.length) (h : ¬ (msIn r l[i] = true ∧ (0 < i → l[i - 1] < l[i]))) : okM r l = false := by
  unfold okM; rw [decide_eq_false_iff_not]; exact fun q => h (q i hi)
theorem okM_yes {r : Rg} {l : List Int} (h : ∀ i, (hi : i < l.length) → msIn r l[i] = true ∧ (0 < i → l[i - 1] < l[i])) : okM r l = true := by unfold okM; exact decide_eq_true h
end Go.Proofs.YtjpokekbjmdgmaaGreatDoor
namespace Go.Proofs.YtjpokekbjmdgmaaGreatDoor
open Go Go.Ab Ni Hd
def shB (r : Rg) : Bool := decide ((r.kinds.length ≤ 8 ∧ r.hides.length ≤ 8) ∧ ∀ i, (hi : i < r.hides.length) → i < 9 → r.hides[i].length ≤ 10)
theorem shB_fin {r : Rg} (h3 : ∀ i, (hi : i < r.hides.length) → i < 9 → r.hides[i].length ≤ 10) : shB r = (decide (r.kinds.length ≤ 8) && decide (r.hides.length ≤ 8)) := by
  rw [Bool.eq_iff_iff]; unfold shB; simp only [decide_eq_true_eq, Bool.and_eq_true]
  exact ⟨fun h => h.1, fun h => ⟨h, h3⟩⟩
theorem shB_row {r : Rg} {i : Nat} (hi : i < r.hides.length) (h9 : i < 9) (h : ¬ r.hides[i].length ≤ 10) : shB r = false := decide_eq_false fun q => h (q.2 i hi h9)
theorem shB_len {r : Rg} (h : shB r = true) : r.kinds.length ≤ 1000000 ∧ r.hides.length ≤ 1000000 ∧ (∀ h ∈ r.hides, h.length ≤ 1000000) := by
  have q := of_decide_eq_true h
  refine ⟨by omega, by omega, fun x hx => ?_⟩
  obtain ⟨i, hi, rfl⟩ := List.getElem_of_mem hx
  have := q.2 i hi (by omega); omega
theorem rg_kind {r : Rg} {i : Nat} (hi : i < r.kinds.length) (h : kdOK r.kinds[i] = false) : rgOK r = false := by
  have e : r.kinds.all kdOK = false := by rw [List.all_eq_false]; exact ⟨_, List.getElem_mem hi, by rw [h]; simp⟩
  unfold rgOK; rw [e]; simp
theorem rg_hide {r : Rg} {i : Nat} (hi : i < r.hides.length) (h : hdOK r.kinds.length r.hides[i] = false) : rgOK r = false := by
  have e : r.hides.all (hdOK r.kinds.length) = false := by rw [List.all_eq_false]; exact ⟨_, List.getElem_mem hi, by rw [h]; simp⟩
  unfold rgOK; rw [e]; simp
theorem hd_len {w : Nat} {h : List Int} (e : h.length ≠ w) : hdOK w h = false := by unfold hdOK; rw [decide_eq_false e]; rfl
theorem hd_num {w : Nat} {h : List Int} {j : Nat} (hj : j < h.length) (e : inn h[j] 1 500 = false) : hdOK w h = false := by
  have q : (h.all fun n => inn n 1 500) = false := by rw [List.all_eq_false]; exact ⟨_, List.getElem_mem hj, by rw [e]; simp⟩
  unfold hdOK; rw [q]; simp
theorem hd_yes {w : Nat} {h : List Int} (e : h.length = w) (k : ∀ j, (hj : j < h.length) → inn h[j] 1 500 = true) : hdOK w h = true := by
  unfold hdOK; rw [decide_eq_true e, List.all_eq_true.2 fun x hx => by obtain ⟨j, hj, rfl⟩ := List.getElem_of_mem hx; exact k j hj]; rfl
theorem all_of {α : Type} {q : α → Bool} {l : List α} (h : ∀ j, (hj : j < l.length) → q l[j] = true) : l.all q = true := List.all_eq_true.2 fun x hx => by obtain ⟨j, hj, rfl⟩ := List.getElem_of_mem hx; exact h j hj
theorem fd_bad {r : Rg} {f : List Int} {i : Nat} (hi : i < f.length) (h : inn f[i] (-1) 1000 = false) : fdOK r f = false := by
  have e : (f.all fun n => inn n (-1) 1000) = false := by rw [List.all_eq_false]; exact ⟨_, List.getElem_mem hi, by rw [h]; simp⟩
  unfold fdOK; rw [e]; simp
theorem short_pure (r : Rg) : APure Tryz.prog 20 [rgA r] (B (shB r)) := by
  refine ap Tryz.func20 (fun e0 he0 => ?_)
  refine wz 3 ?_
  refine aw_loopk (ι := { k : Nat // k ≤ r.hides.length ∧ k ≤ 9 ∧ ∀ i, (hi : i < r.hides.length) → i < k → r.hides[i].length ≤ 10 }) [1] (fun i => [(3, I i.1)]) (fun H i => H) (fun i => r.hides.length - i.1) (⟨0, Nat.zero_le _, by omega, by omega⟩) ⟨jz, jz, trivial⟩ rfl ?_
  rintro ⟨k, hk, hk9, hok⟩
  refine nz ?_
  refine wz 6 ?_
  refine sz 9 (fun g2_5 g2_5' => ?_) (fun g2_5 g2_5' => ?_)
  ·have hkl : k < r.hides.length := by omega
   refine wz 3 ?_
   refine iz (fun c_12 c_12' => ?_) (fun c_12 c_12' => ?_)
   ·have hk9b : k < 9 := by have := of_decide_eq_true c_12; omega
    refine wz 7 ?_
    refine iz (fun c_21 c_21' => ?_) (fun c_21 c_21' => ?_)
    ·have hbad := shB_row hkl hk9b (by omega)
     refine wz 1 ?_
     exact rz rfl (Less.eq (by rw [hbad]))
    refine wz 3 ?_
    exact ⟨⟨k + 1, by omega, by omega, fun i hi h => (by by_cases e : i = k; (subst e; omega); exact hok i hi (by omega))⟩, by simp only; omega, Sub.slots ⟨jz, jz, trivial⟩⟩
   refine wz 5 ?_
   refine sz 26 (fun g6_4 g6_4' => ?_) (fun g6_4 g6_4' => ?_)
   ·refine wz 6 ?_
    exact rz rfl (Less.eq (congrArg B (by have h9 := of_decide_eq_false c_12; rw [shB_fin (fun i hi h8 => hok i hi (by omega)), Bool.eq_iff_iff]; simp; omega)))
   refine wz 6 ?_
   exact rz rfl (Less.eq (congrArg B (by have h9 := of_decide_eq_false c_12; rw [shB_fin (fun i hi h8 => hok i hi (by omega)), Bool.eq_iff_iff]; simp; omega)))
  obtain rfl : k = r.hides.length := by omega
  refine wz 9 ?_
  refine sz 26 (fun g6_4 g6_4' => ?_) (fun g6_4 g6_4' => ?_)
  ·refine wz 6 ?_
   exact rz rfl (Less.eq (congrArg B (by rw [shB_fin (fun i hi _ => hok i hi hi), Bool.eq_iff_iff]; simp; omega)))
  refine wz 6 ?_
  exact rz rfl (Less.eq (congrArg B (by rw [shB_fin (fun i hi _ => hok i hi hi), Bool.eq_iff_iff]; simp; omega)))
theorem rspan_pure (a b : Int) (ha : -1000000 ≤ a ∧ a ≤ 1000000 ∨ True) : APure Tryz.prog 75 [.agg [I a, I b]] (B (spOK a b)) := by
  refine ap Tryz.func75 (fun e0 he0 => ?_)
  refine vz 2 ?_
  refine sq_nil ?_
  refine aw_seq ?_
  have hin : ∀ x lo hi : Int, inn x lo hi = true ↔ lo ≤ x ∧ x ≤ hi := fun x lo hi => by unfold inn; simp
  refine wz 2 ?_
  refine kz az (rin_pure _ _ _) ?_
  refine wz 1 ?_
  refine sz 6 (fun g1_3 g1_3' => ?_) (fun g1_3 g1_3' => ?_)
  ·have h1 := (hin _ _ _).1 g1_3
   refine wz 4 ?_
   refine ky az (rin_pure _ _ _) ?_
   refine wz 2 ?_
   refine sz 13 (fun g1_10 g1_10' => ?_) (fun g1_10 g1_10' => ?_)
   ·have h2 := (hin _ _ _).1 g1_10
    refine wz 8 ?_
    exact rz rfl (Less.eq (by unfold spOK; simp [*]))
   refine wz 8 ?_
   exact rz rfl (Less.eq (by unfold spOK; simp [*]))
  refine wz 15 ?_
  exact rz rfl (Less.eq (by unfold spOK; simp [*]))
theorem register_pure (r : Rg) (hk : r.kinds.length ≤ 1000000) (hh : r.hides.length ≤ 1000000) (hw : ∀ h ∈ r.hides, h.length ≤ 1000000) : APure Tryz.prog 21 [rgA r] (B (rgOK r)) := by
  refine ap Tryz.func21 (fun e0 he0 => ?_)
  refine wz 5 ?_
  refine kz az (rin_pure _ _ _) ?_
  refine wz 2 ?_
  refine sz 11 (fun g1_5 g1_5' => ?_) (fun g1_5 g1_5' => ?_)
  ·refine wz 8 ?_
   exact rz rfl (Less.eq (by unfold rgOK; simp_all))
  refine wz 3 ?_
  refine ky az (rin_pure _ _ _) ?_
  refine wz 2 ?_
  refine iz (fun c_17 c_17' => ?_) (fun c_17 c_17' => ?_)
  ·refine wz 1 ?_
   exact rz rfl (Less.eq (by unfold rgOK; simp_all))
  refine wz 1 ?_
  refine aw_loopk (ι := { k : Nat // k ≤ r.kinds.length ∧ ∀ i, (hi : i < r.kinds.length) → i < k → kdOK r.kinds[i] = true }) [1] (fun i => [(3, I i.1)]) (fun H i => H) (fun i => r.kinds.length - i.1) (⟨0, Nat.zero_le _, by omega⟩) ⟨jz, jz, trivial⟩ rfl ?_
  rintro ⟨k, hkk, hok⟩
  refine nz ?_
  refine wz 5 ?_
  refine iz (fun c_22 c_22' => ?_) (fun c_22 c_22' => ?_)
  ·have hkl : k < r.kinds.length := by omega
   refine wz 7 ?_
   refine sz 31 (fun g6_6 g6_6' => ?_) (fun g6_6 g6_6' => ?_)
   ·refine wz 7 ?_
    refine iz (fun c_38 c_38' => ?_) (fun c_38 c_38' => ?_)
    ·have hbad := rg_kind hkl (by unfold kdOK; have h5 := of_decide_eq_true c_38; exact decide_eq_false (by omega))
     refine wz 1 ?_
     exact rz rfl (Less.eq (by rw [hbad]))
    have hkd : kdOK r.kinds[k] = true := by unfold kdOK; have h5 := of_decide_eq_false c_38; exact decide_eq_true (by omega)
    refine wz 3 ?_
    exact ⟨⟨k + 1, by omega, fun i hi h => (by by_cases e : i = k; (subst e; exact hkd); exact hok i hi (by omega))⟩, by simp only; omega, Sub.slots ⟨jz, jz, trivial⟩⟩
   have hkd : kdOK r.kinds[k] = true := by unfold kdOK; exact decide_eq_true (by omega)
   refine wz 11 ?_
   exact ⟨⟨k + 1, by omega, fun i hi h => (by by_cases e : i = k; (subst e; exact hkd); exact hok i hi (by omega))⟩, by simp only; omega, Sub.slots ⟨jz, jz, trivial⟩⟩
  obtain rfl : k = r.kinds.length := by omega
  have hall1 : r.kinds.all kdOK = true := all_of fun j hj => hok j hj hj
  refine wz 1 ?_
  refine aw_loopk (ι := { k : Nat // k ≤ r.hides.length ∧ ∀ i, (hi : i < r.hides.length) → i < k → hdOK r.kinds.length r.hides[i] = true }) [1] (fun i => [(4, I i.1)]) (fun H i => H) (fun i => r.hides.length - i.1) (⟨0, Nat.zero_le _, by omega⟩) ⟨jz, jz, trivial⟩ rfl ?_
  rintro ⟨k, hkh, hok2⟩
  refine nz ?_
  refine wz 5 ?_
  refine iz (fun c_43 c_43' => ?_) (fun c_43 c_43' => ?_)
  ·have hhl : k < r.hides.length := by omega
   have hwl := hw _ (List.getElem_mem hhl)
   refine wz 0 ?_
   refine aw_draw 10 mo (by kernel_rfl) ?_
   refine dz 10 ?_
   refine wz 0 ?_
   refine iz (fun c_55 c_55' => ?_) (fun c_55 c_55' => ?_)
   ·have hbad := rg_hide hhl (hd_len (by omega))
    refine wz 1 ?_
    exact rz rfl (Less.eq (by rw [hbad]))
   have hle : r.hides[k].length = r.kinds.length := by omega
   refine wz 1 ?_
   refine aw_loopk (ι := { j : Nat // j ≤ r.hides[k].length ∧ ∀ i, (hi : i < r.hides[k].length) → i < j → inn r.hides[k][i] 1 500 = true }) [1, 4] (fun u => [(5, I u.1)]) (fun H u => H) (fun u => r.hides[k].length - u.1) (⟨0, Nat.zero_le _, by omega⟩) ⟨jz, jz, jz, trivial⟩ rfl ?_
   rintro ⟨j, hj, hok3⟩
   refine nz ?_
   refine wz 8 ?_
   refine iz (fun c_63 c_63' => ?_) (fun c_63 c_63' => ?_)
   ·have hjl : j < r.hides[k].length := by omega
    refine wz 8 ?_
    refine kz az (rin_pure _ _ _) ?_
    refine wz 1 ?_
    refine iz (fun c_75 c_75' => ?_) (fun c_75 c_75' => ?_)
    ·have hbad := rg_hide hhl (hd_num hjl (by simpa using c_75))
     refine wz 1 ?_
     exact rz rfl (Less.eq (by rw [hbad]))
    have hin : inn r.hides[k][j] 1 500 = true := by simpa using c_75
    refine wz 3 ?_
    exact ⟨⟨j + 1, by omega, fun i hi h => (by by_cases e : i = j; (subst e; exact hin); exact hok3 i hi (by omega))⟩, by simp only; omega, Sub.slots ⟨jz, jz, jz, trivial⟩⟩
   obtain rfl : j = r.hides[k].length := by omega
   refine wz 3 ?_
   exact ⟨⟨k + 1, by omega, fun i hi h => (by by_cases e : i = k; (subst e; exact hd_yes hle fun j hj => hok3 j hj hj); exact hok2 i hi (by omega))⟩, by simp only; omega, Sub.slots ⟨jz, jz, trivial⟩⟩
  obtain rfl : k = r.hides.length := by omega
  have hall2 : r.hides.all (hdOK r.kinds.length) = true := all_of fun j hj => hok2 j hj hj
  refine wz 2 ?_
  refine kz az (rspan_pure _ _ (.inr trivial)) ?_
  refine wz 1 ?_
  refine sz 79 (fun g18_3 g18_3' => ?_) (fun g18_3 g18_3' => ?_)
  ·refine wz 2 ?_
   refine ky az (rspan_pure _ _ (.inr trivial)) ?_
   refine wz 2 ?_
   refine sz 84 (fun g18_8 g18_8' => ?_) (fun g18_8 g18_8' => ?_)
   ·refine wz 2 ?_
    refine ky az (rin_pure _ _ _) ?_
    refine wz 2 ?_
    refine sz 89 (fun g18_13 g18_13' => ?_) (fun g18_13 g18_13' => ?_)
    ·refine wz 2 ?_
     refine ky az (rin_pure _ _ _) ?_
     refine wz 2 ?_
     exact rz rfl (Less.eq (by unfold rgOK; rw [hall1, hall2]; simp_all))
    refine wz 5 ?_
    exact rz rfl (Less.eq (by unfold rgOK; rw [hall1, hall2]; simp_all))
   refine wz 10 ?_
   exact rz rfl (Less.eq (by unfold rgOK; rw [hall1, hall2]; simp_all))
  refine wz 15 ?_
  exact rz rfl (Less.eq (by unfold rgOK; rw [hall1, hall2]; simp_all))
end Go.Proofs.YtjpokekbjmdgmaaGreatDoor
namespace Go.Proofs.YtjpokekbjmdgmaaGreatDoor
open Go Go.Ab Ni Hd
theorem short_t {r : Rg} (h : shB r = true) : APure Tryz.prog 20 [rgA r] (B true) := by have q := short_pure r; rw [h] at q; exact q
theorem short_f {r : Rg} (h : shB r = false) : APure Tryz.prog 20 [rgA r] (B false) := by have q := short_pure r; rw [h] at q; exact q
end Go.Proofs.YtjpokekbjmdgmaaGreatDoor
namespace Go.Proofs.YtjpokekbjmdgmaaGreatDoor
open Go Go.Ab Ni Hd
theorem rhide_pure (r : Rg) (n : Int) (hh : r.hides.length ≤ 1000000) : APure Tryz.prog 22 [rgA r, I n] (B (hdIn r n)) := by
  refine ap Tryz.func22 (fun e0 he0 => ?_)
  refine wz 7 ?_
  refine kz az (rin_pure _ _ _) ?_
  refine wz 1 ?_
  exact rz rfl (Less.eq rfl)
theorem rmeas_pure (r : Rg) (n : Int) (hk : r.kinds.length ≤ 1000000) : APure Tryz.prog 48 [rgA r, I n] (B (msIn r n)) := by
  refine ap Tryz.func48 (fun e0 he0 => ?_)
  refine wz 7 ?_
  refine kz az (rin_pure _ _ _) ?_
  refine wz 1 ?_
  exact rz rfl (Less.eq rfl)
theorem rrated_pure (r : Rg) (x : Rt) : APure Tryz.prog 23 [rgA r, rtA x] (B (rtOK r x)) := by
  refine ap Tryz.func23 (fun e0 he0 => ?_)
  refine wz 11 ?_
  refine kz az (rin_pure _ _ _) ?_
  refine wz 1 ?_
  refine sz 14 (fun g1_9 g1_9' => ?_) (fun g1_9 g1_9' => ?_)
  ·refine wz 8 ?_
   refine ky az (rin_pure _ _ _) ?_
   refine wz 2 ?_
   exact rz rfl (Less.eq (by unfold rtOK; simp [*]))
  refine wz 11 ?_
  exact rz rfl (Less.eq (by unfold rtOK; simp [*]))
theorem rfind_pure (r : Rg) (f : List Int) (hl : f.length ≤ 1000000) : APure Tryz.prog 24 [rgA r, ints f] (B (fdOK r f)) := by
  refine ap Tryz.func24 (fun e0 he0 => ?_)
  refine wz 3 ?_
  refine aw_loopk (ι := { k : Nat // k ≤ f.length ∧ ∀ i, (hi : i < f.length) → i < k → inn f[i] (-1) 1000 = true }) [1, 2] (fun i => [(5, I i.1)]) (fun H i => H) (fun i => f.length - i.1) (⟨0, Nat.zero_le _, by omega⟩) ⟨jz, jz, jz, trivial⟩ rfl ?_
  rintro ⟨k, hk, hok⟩
  refine nz ?_
  refine wz 4 ?_
  refine iz (fun c_9 c_9' => ?_) (fun c_9 c_9' => ?_)
  ·have hkl : k < f.length := by omega
   refine wz 4 ?_
   refine kz az (rin_pure _ _ _) ?_
   refine wz 1 ?_
   refine iz (fun c_17 c_17' => ?_) (fun c_17 c_17' => ?_)
   ·refine wz 1 ?_
    exact rz rfl (Less.eq (by rw [fd_bad hkl (by simpa using c_17)]))
   refine wz 3 ?_
   exact ⟨⟨k + 1, by omega, fun i hi h => (by by_cases e : i = k; (subst e; simpa using c_17); exact hok i hi (by omega))⟩, by simp only; omega, Sub.slots ⟨jz, jz, jz, trivial⟩⟩
  obtain rfl : k = f.length := by omega
  have hall : (f.all fun n => inn n (-1) 1000) = true := all_of fun j hj => hok j hj hj
  refine wz 7 ?_
  exact rz rfl (Less.eq (congrArg B (by unfold fdOK; rw [hall, Bool.and_true, Bool.eq_iff_iff]; simp; omega)))
theorem rmeasures_pure (r : Rg) (l : List Int) (hk : r.kinds.length ≤ 1000000) (hl : l.length ≤ 1000000) : APure Tryz.prog 28 [rgA r, ints l] (B (okM r l)) := by
  refine ap Tryz.func28 (fun e0 he0 => ?_)
  refine wz 3 ?_
  refine aw_loopk (ι := { k : Nat // k ≤ l.length ∧ ∀ i, (hi : i < l.length) → i < k → msIn r l[i] = true ∧ (0 < i → l[i - 1] < l[i]) }) [1, 2] (fun i => [(5, I i.1)]) (fun H i => H) (fun i => l.length - i.1) (⟨0, Nat.zero_le _, by omega⟩) ⟨jz, jz, jz, trivial⟩ rfl ?_
  rintro ⟨k, hk1, hok⟩
  refine nz ?_
  refine wz 4 ?_
  refine iz (fun c_9 c_9' => ?_) (fun c_9 c_9' => ?_)
  ·have hkl : k < l.length := by omega
   refine wz 0 ?_
   refine aw_draw 23 mo (by kernel_rfl) ?_
   refine dz 5 ?_
   refine dkz az (rmeas_pure r _ hk) ?_
   refine dz 2 ?_
   refine dsz 19 (fun g4_7 g4_7' => ?_) (fun g4_7 g4_7' => ?_)
   ·have hms : msIn r l[k] = false := by simpa using g4_7
    have hno : okM r l = false := okM_no hkl (fun q => by rw [hms] at q; exact Bool.noConfusion q.1)
    refine dz 15 ?_
    refine wz 2 ?_
    exact rz rfl (Less.eq (by rw [hno]))
   have hms : msIn r l[k] = true := by simpa using g4_7
   refine dz 3 ?_
   refine dsz 22 (fun g4_10 g4_10' => ?_) (fun g4_10 g4_10' => ?_)
   ·refine dz 7 ?_
    refine dr_yes rfl rfl (less_b g4_10) rfl (ev_index_map (k := k - 1) sl28.h jz jz (by omega) (by omega)) ?_
    refine dz 4 ?_
    refine wz 0 ?_
    refine iz (fun c_34 c_34' => ?_) (fun c_34 c_34' => ?_)
    ·have hno : okM r l = false := okM_no hkl (fun q => by have h5 := q.2 (by omega); have h6 := of_decide_eq_true c_34; omega)
     refine wz 1 ?_
     exact rz rfl (Less.eq (by rw [hno]))
    have hst : msIn r l[k] = true ∧ (0 < k → l[k - 1] < l[k]) := ⟨hms, fun q => by have := of_decide_eq_false c_34; omega⟩
    refine wz 3 ?_
    exact ⟨⟨k + 1, by omega, fun i hi q => by rcases Nat.lt_or_ge i k with q2 | q2; exact hok i hi q2; (obtain rfl : i = k := by omega); exact hst⟩, by simp only; omega, Sub.slots ⟨jz, jz, jz, trivial⟩⟩
   have hst : msIn r l[k] = true ∧ (0 < k → l[k - 1] < l[k]) := ⟨hms, fun q => by omega⟩
   refine dz 12 ?_
   refine wz 4 ?_
   exact ⟨⟨k + 1, by omega, fun i hi q => by rcases Nat.lt_or_ge i k with q2 | q2; exact hok i hi q2; (obtain rfl : i = k := by omega); exact hst⟩, by simp only; omega, Sub.slots ⟨jz, jz, jz, trivial⟩⟩
  obtain rfl : k = l.length := by omega
  have hall := okM_yes fun i hi => hok i hi hi
  refine wz 1 ?_
  exact rz rfl (Less.eq (by rw [hall]))
end Go.Proofs.YtjpokekbjmdgmaaGreatDoor
namespace Go.Proofs.YtjpokekbjmdgmaaGreatDoor
open Go Go.Ab Ni Hd
instance un4 : UnD Tryz.prog 4 .bool := ⟨by kernel_rfl⟩
end Go.Proofs.YtjpokekbjmdgmaaGreatDoor
namespace Go.Proofs.YtjpokekbjmdgmaaGreatDoor
open Go Go.Ab Ni Hd
theorem soon_len {a b : List Int} (h : a.length ≠ b.length) : soon a b = decide (a.length < b.length) := by unfold soon; rw [decide_eq_false h]; simp
theorem soon_at {a b : List Int} (h : a.length = b.length) {k : Nat} (ha : k < a.length) (hb : k < b.length) (he : ∀ i, (hi : i < k) → a[i]'(by omega) = b[i]'(by omega)) (hne : a[k] ≠ b[k]) : soon a b = decide (a[k] < b[k]) := by
  unfold soon; rw [lex_diff ha hb he hne, decide_eq_false (by omega), decide_eq_true h]; simp
theorem soon_self (a : List Int) : soon a a = false := by unfold soon; rw [lex_irr]; simp
end Go.Proofs.YtjpokekbjmdgmaaGreatDoor
namespace Go.Proofs.YtjpokekbjmdgmaaGreatDoor
open Go Go.Ab Ni Hd
def frm (now : List Int) : Nat := if h : 0 < now.length then (now[now.length - 1]).toNat + 1 else 0
end Go.Proofs.YtjpokekbjmdgmaaGreatDoor
namespace Go.Proofs.YtjpokekbjmdgmaaGreatDoor
open Go Go.Ab Ni Hd
theorem rfindL_pure (r : Rg) (f : List Int) (hl : (f.length : Int) ≤ 9223372036854775807) : APure Tryz.prog 24 [rgA r, ints f] (B (fdOK r f)) := by
  refine ap Tryz.func24 (fun e0 he0 => ?_)
  refine wz 3 ?_
  refine aw_loopk (ι := { k : Nat // k ≤ f.length ∧ ∀ i, (hi : i < f.length) → i < k → inn f[i] (-1) 1000 = true }) [1, 2] (fun i => [(5, I i.1)]) (fun H i => H) (fun i => f.length - i.1) (⟨0, Nat.zero_le _, by omega⟩) ⟨jz, jz, jz, trivial⟩ rfl ?_
  rintro ⟨k, hk, hok⟩
  refine nz ?_
  refine wz 4 ?_
  refine iz (fun c_9 c_9' => ?_) (fun c_9 c_9' => ?_)
  ·have hkl : k < f.length := by omega
   refine wz 4 ?_
   refine kz az (rin_pure _ _ _) ?_
   refine wz 1 ?_
   refine iz (fun c_17 c_17' => ?_) (fun c_17 c_17' => ?_)
   ·refine wz 1 ?_
    exact rz rfl (Less.eq (by rw [fd_bad hkl (by simpa using c_17)]))
   refine wz 3 ?_
   exact ⟨⟨k + 1, by omega, fun i hi h => (by by_cases e : i = k; (subst e; simpa using c_17); exact hok i hi (by omega))⟩, by simp only; omega, Sub.slots ⟨jz, jz, jz, trivial⟩⟩
  obtain rfl : k = f.length := by omega
  have hall : (f.all fun n => inn n (-1) 1000) = true := all_of fun j hj => hok j hj hj
  refine wz 7 ?_
  exact rz rfl (Less.eq (congrArg B (by unfold fdOK; rw [hall, Bool.and_true, Bool.eq_iff_iff]; simp; omega)))
theorem rated_b {r : Rg} {x : Rt} {b : Bool} (h : rtOK r x = b) : APure Tryz.prog 23 [rgA r, rtA x] (B b) := by have q := rrated_pure r x; rw [h] at q; exact q
theorem slim_of {r : Rg} {f : List Int} (hr : rgOK r = true) (hd : fdOK r f = true) : f.length ≤ 1000000 := by have h1 := (rgOK_B hr).nk; have h2 := (fdOK_iff.1 hd).1; omega
theorem okM_of {r : Rg} {l : List Int} (h1 : l.Pairwise (· < ·)) (h2 : ∀ x ∈ l, ∃ m : Nat, x = m ∧ m < r.kinds.length) : okM r l = true :=
  okM_yes fun i hi => ⟨by obtain ⟨m, e, hm⟩ := h2 _ (List.getElem_mem hi); rw [msIn_iff, e]; omega, fun q => List.pairwise_iff_getElem.1 h1 (i - 1) i (by omega) hi (by omega)⟩
theorem chA_okM (r : Rg) (h : Nat) (f : List Int) (x : Rt) : okM r (chA r h f x) = true :=
  okM_of (nums_rising _ _) fun n hn => by obtain ⟨m, hm, _, e⟩ := mem_nums.1 hn; exact ⟨m, e, hm⟩
theorem measL_b {r : Rg} {l : List Int} (hs : shB r = true) (hl : l.length ≤ 1000000) {b : Bool} (h : okM r l = b) : APure Tryz.prog 28 [rgA r, ints l] (B b) := by have q := rmeasures_pure r l (shB_len hs).1 hl; rw [h] at q; exact q
end Go.Proofs.YtjpokekbjmdgmaaGreatDoor
namespace Go.Proofs.YtjpokekbjmdgmaaGreatDoor
open Go Go.Ab Ni Hd
instance en38 : EnT Tryz.prog 38 := ⟨Ent.of Tryz.func38 (by kernel_rfl) rfl⟩
theorem raskedL_pure (r : Rg) (n : Int) (f : List Int) (hk : r.kinds.length ≤ 1000000) (hh : r.hides.length ≤ 1000000) (hw : ∀ h ∈ r.hides, h.length ≤ 1000000) (hl : (f.length : Int) ≤ 9223372036854775807) : APure Tryz.prog 33 [rgA r, I n, ints f] (B (okF r n f)) := by
  refine ap Tryz.func33 (fun e0 he0 => ?_)
  refine wz 3 ?_
  refine kz az (register_pure r hk hh hw) ?_
  refine wz 1 ?_
  refine sz 9 (fun g1_2 g1_2' => ?_) (fun g1_2 g1_2' => ?_)
  ·refine wz 2 ?_
   refine ky az (rhide_pure r n hh) ?_
   refine wz 2 ?_
   refine sz 14 (fun g1_7 g1_7' => ?_) (fun g1_7 g1_7' => ?_)
   ·refine wz 2 ?_
    refine ky az (rfindL_pure r f hl) ?_
    refine wz 2 ?_
    exact rz rfl (Less.eq (by unfold okF; simp [*]))
   refine wz 5 ?_
   exact rz rfl (Less.eq (by unfold okF; simp [*]))
  refine wz 10 ?_
  exact rz rfl (Less.eq (by unfold okF; simp [*]))
theorem rsooner_pure (a b : List Int) (ha : a.length ≤ 1000000) (hb : b.length ≤ 1000000) : APure Tryz.prog 38 [ints a, ints b] (B (soon a b)) := by
  refine ap Tryz.func38 (fun e0 he0 => ?_)
  refine wz 6 ?_
  refine iz (fun c_10 c_10' => ?_) (fun c_10 c_10' => ?_)
  ·have hne : a.length ≠ b.length := by intro e; exact c_10' (by rw [e])
   refine wz 6 ?_
   exact rz rfl (Less.eq (congrArg B (by rw [soon_len hne, Bool.eq_iff_iff]; simp)))
  have hlen : a.length = b.length := by omega
  refine wz 1 ?_
  refine aw_loopk (ι := { k : Nat // k ≤ a.length ∧ ∀ i, (h1 : i < a.length) → (h2 : i < b.length) → i < k → a[i] = b[i] }) [0, 1] (fun g => [(5, I g.1)]) (fun H g => H) (fun g => a.length - g.1) (⟨0, Nat.zero_le _, by omega⟩) ⟨jz, jz, jz, trivial⟩ rfl ?_
  rintro ⟨k, hk, hok⟩
  refine nz ?_
  refine wz 4 ?_
  refine iz (fun c_19 c_19' => ?_) (fun c_19 c_19' => ?_)
  ·have hkL : k < a.length := by omega
   refine wz 0 ?_
   refine aw_draw 9 mo (by kernel_rfl) ?_
   refine dz 9 ?_
   refine wz 0 ?_
   refine iz (fun c_30 c_30' => ?_) (fun c_30 c_30' => ?_)
   ·have hd := soon_at hlen hkL (by omega) (fun i hi => hok i (by omega) (by omega) hi) (by simpa using c_30)
    refine wz 0 ?_
    refine aw_draw 10 mo (by kernel_rfl) ?_
    refine dz 10 ?_
    refine wz 0 ?_
    exact rz rfl (Less.eq (by rw [hd]))
   refine wz 3 ?_
   exact ⟨⟨k + 1, by omega, fun i h1 h2 h => (by by_cases e : i = k; (subst e; simpa using c_30); exact hok i h1 h2 (by omega))⟩, by simp only; omega, Sub.slots ⟨jz, jz, jz, trivial⟩⟩
  have heq : a = b := same_ext hlen fun i h1 h2 => hok i h1 h2 (by omega)
  refine wz 1 ?_
  exact rz rfl (Less.eq (by subst heq; rw [soon_self]))
theorem asked_any {r : Rg} {n : Int} {f : List Int} (hs : shB r = true) (hl : (f.length : Int) ≤ 9223372036854775807) {b : Bool} (h : okF r n f = b) : APure Tryz.prog 33 [rgA r, I n, ints f] (B b) := by have q := raskedL_pure r n f (shB_len hs).1 (shB_len hs).2.1 (shB_len hs).2.2 hl; rw [h] at q; exact q
theorem okF_slim {r : Rg} {n : Int} {f : List Int} (h : okF r n f = true) : f.length ≤ 1000000 := slim_of (okF_facts h).2.2.2.1 (okF_facts h).2.2.2.2
theorem soon_b {a b : List Int} (ha : a.length ≤ 1000000) (hb : b.length ≤ 1000000) {c : Bool} (h : soon a b = c) : APure Tryz.prog 38 [ints a, ints b] (B c) := by have q := rsooner_pure a b ha hb; rw [h] at q; exact q
theorem fews_nn {r : Rg} (gB : RgB r) (h : Nat) (f : List Int) : 0 ≤ fews r h f := by
  have h0 := few_bd gB h f (k := 0) (by rw [sl0, sh0]; exact gB.a.2.1.1)
  have h1 := few_bd gB h f (k := 1) (by rw [sl1, sh1]; exact gB.b.2.1.1)
  unfold fews; omega
theorem best_first {r : Rg} (gB : RgB r) (h : Nat) (f : List Int) {y : Rt} (hy : rtOK r y = true) (he : chA r h f y = namedOf r h f) : (bestOfR r h f).a < y.a ∨ ((bestOfR r h f).a = y.a ∧ (bestOfR r h f).b ≤ y.b) := by
  obtain ⟨_, _, i, hi, e, hno⟩ := best_facts gB h f
  obtain ⟨j, hj, e2⟩ := List.getElem_of_mem (mem_alls.2 hy)
  rcases Nat.lt_trichotomy i j with q | q | q
  · have := alls_order q hj
    rw [e, ← e2]; omega
  · subst q; rw [e, ← e2]; omega
  · exact absurd (by rw [e2]; exact he) (hno j q)
theorem law5_0 {r : Rg} {n : Int} {f : List Int} {y : Rt}  (hs : shB r = false) (hl : (f.length : Int) ≤ 9223372036854775807) : APure Tryz.prog 5 [rgA r, I n, ints f, rtA y] (B true) := by
  refine ap Tryz.func5 (fun e0 he0 => ?_)
  refine wz 4 ?_
  refine kz az (short_f hs) ?_
  refine wz 15 ?_
  refine kz az (known_pure) ?_
  refine wz 1 ?_
  exact rz rfl jz
theorem law5_1 {r : Rg} {n : Int} {f : List Int} {y : Rt} (hs : shB r = true) (ho : okF r n f = false) (hl : (f.length : Int) ≤ 9223372036854775807) : APure Tryz.prog 5 [rgA r, I n, ints f, rtA y] (B true) := by
  refine ap Tryz.func5 (fun e0 he0 => ?_)
  refine wz 4 ?_
  refine kz az (short_t hs) ?_
  refine wz 5 ?_
  refine ky az (asked_any hs hl ho) ?_
  refine wz 9 ?_
  refine kz az (known_pure) ?_
  refine wz 1 ?_
  exact rz rfl jz
theorem law5_2 {r : Rg} {n : Int} {f : List Int} {y : Rt} (hs : shB r = true) (ho : okF r n f = true) (hy : rtOK r y = false) (hl : (f.length : Int) ≤ 9223372036854775807) : APure Tryz.prog 5 [rgA r, I n, ints f, rtA y] (B true) := by
  refine ap Tryz.func5 (fun e0 he0 => ?_)
  refine wz 4 ?_
  refine kz az (short_t hs) ?_
  refine wz 5 ?_
  refine ky az (asked_any hs hl ho) ?_
  refine wz 5 ?_
  refine ky az (rated_b hy) ?_
  refine wz 3 ?_
  refine kz az (known_pure) ?_
  refine wz 1 ?_
  exact rz rfl jz
theorem law5_n {r : Rg} {h : Nat} {f : List Int} {y : Rt} (hs : shB r = true) (ho : okF r h f = true) (hhl : h < r.hides.length) (hy : rtOK r y = true) (hm : may r h f = false) (hl : (f.length : Int) ≤ 9223372036854775807) : APure Tryz.prog 5 [rgA r, I h, ints f, rtA y] (B true) := by
  refine ap Tryz.func5 (fun e0 he0 => ?_)
  refine aw_seq ?_
  have gB := (okF_facts ho).1
  have hnn := fews_nn gB h f
  have hfl := fews_le gB (h := h) (f := f) hy
  have hcl := chA_le gB h f y
  have hmm : ¬ fews r h f ≤ r.mends := of_decide_eq_false hm
  refine wz 4 ?_
  refine kz az (short_t hs) ?_
  refine wz 5 ?_
  refine ky az (asked_any hs hl ho) ?_
  refine wz 5 ?_
  refine ky az (rated_b hy) ?_
  refine wz 6 ?_
  refine kz az (fewest_ok (shB_len hs).1 (shB_len hs).2.1 (shB_len hs).2.2 (okF_slim ho) ho) ?_
  refine wz 8 ?_
  refine kz az (named_no (shB_len hs).1 (shB_len hs).2.1 (shB_len hs).2.2 (okF_slim ho) ho hm) ?_
  refine wz 12 ?_
  refine kz az (changes_ok (shB_len hs).1 (shB_len hs).2.1 (shB_len hs).2.2 (okF_slim ho) (show okC r h f y = true by unfold okC; rw [ho, hy]; rfl)) ?_
  refine wz 22 ?_
  refine ky az (measL_b hs (by omega) (chA_okM r h f y)) ?_
  refine wz 7 ?_
  refine sz 82 (fun g6_24 g6_24' => ?_) (fun g6_24 g6_24' => ?_)
  ·exfalso
   omega
  refine wz 6 ?_
  refine sz 88 (fun g6_30 g6_30' => ?_) (fun g6_30 g6_30' => ?_)
  ·exfalso
   omega
  refine wz 8 ?_
  refine iz (fun c_96 c_96' => ?_) (fun c_96 c_96' => ?_)
  ·exfalso
   simp at c_96'
   omega
  refine wz 3 ?_
  refine kz az (known_pure) ?_
  refine wz 1 ?_
  exact rz rfl jz
theorem law5_y {r : Rg} {h : Nat} {f : List Int} {y : Rt} (hs : shB r = true) (ho : okF r h f = true) (hhl : h < r.hides.length) (hy : rtOK r y = true) (hm : may r h f = true) (hl : (f.length : Int) ≤ 9223372036854775807) : APure Tryz.prog 5 [rgA r, I h, ints f, rtA y] (B true) := by
  refine ap Tryz.func5 (fun e0 he0 => ?_)
  refine aw_seq ?_
  have gB := (okF_facts ho).1
  have hnn := fews_nn gB h f
  have hfl := fews_le gB (h := h) (f := f) hy
  have hcl := chA_le gB h f y
  have hmm : fews r h f ≤ r.mends := of_decide_eq_true hm
  have hbf := best_facts gB h f
  have hbw := best_few gB h f
  have hbl : (namedOf r h f).length = (chA r h f (bestOfR r h f)).length := rfl
  have hb1 := chA_le gB h f (bestOfR r h f)
  refine wz 4 ?_
  refine kz az (short_t hs) ?_
  refine wz 5 ?_
  refine ky az (asked_any hs hl ho) ?_
  refine wz 5 ?_
  refine ky az (rated_b hy) ?_
  refine wz 6 ?_
  refine kz az (fewest_ok (shB_len hs).1 (shB_len hs).2.1 (shB_len hs).2.2 (okF_slim ho) ho) ?_
  refine wz 8 ?_
  refine kz az (named_ok (shB_len hs).1 (shB_len hs).2.1 (shB_len hs).2.2 (okF_slim ho) ho hm) ?_
  refine wz 12 ?_
  refine kz az (changes_ok (shB_len hs).1 (shB_len hs).2.1 (shB_len hs).2.2 (okF_slim ho) (show okC r h f y = true by unfold okC; rw [ho, hy]; rfl)) ?_
  refine wz 22 ?_
  refine ky az (measL_b hs (by omega) (chA_okM r h f y)) ?_
  refine wz 7 ?_
  refine sz 82 (fun g6_24 g6_24' => ?_) (fun g6_24 g6_24' => ?_)
  ·exfalso
   omega
  refine wz 6 ?_
  refine sz 88 (fun g6_30 g6_30' => ?_) (fun g6_30 g6_30' => ?_)
  ·exfalso
   omega
  refine wz 8 ?_
  refine iz (fun c_96 c_96' => ?_) (fun c_96 c_96' => ?_)
  ·exfalso
   simp at c_96'
   omega
  refine wz 5 ?_
  refine kz az (rated_b hbf.1) ?_
  refine wz 7 ?_
  refine iz (fun c_109 c_109' => ?_) (fun c_109 c_109' => ?_)
  ·exfalso
   omega
  refine wz 4 ?_
  refine kz az (changes_ok (shB_len hs).1 (shB_len hs).2.1 (shB_len hs).2.2 (okF_slim ho) (show okC r h f (bestOfR r h f) = true by unfold okC; rw [ho, hbf.1]; rfl)) ?_
  refine wz 10 ?_
  refine ky az (same_t (l := chA r h f (bestOfR r h f)) (m := namedOf r h f) (by omega) (by omega) rfl) ?_
  refine wz 5 ?_
  refine ky az (soon_b (by omega) (by omega) (hbf.2.1 y hy)) ?_
  refine wz 4 ?_
  refine kz az (same_pure _ _ (by omega) (by omega)) ?_
  refine wz 2 ?_
  refine sz 135 (fun g15_4 g15_4' => ?_) (fun g15_4 g15_4' => ?_)
  ·refine wz 21 ?_
   refine ky az (known_pure) ?_
   refine wz 2 ?_
   exact rz rfl jz
  have hso := best_first gB h f hy (by simpa using g15_4)
  refine wz 7 ?_
  refine sz 142 (fun g15_11 g15_11' => ?_) (fun g15_11 g15_11' => ?_)
  ·refine wz 14 ?_
   refine ky az (known_pure) ?_
   refine wz 2 ?_
   exact rz rfl jz
  refine wz 6 ?_
  refine sz 148 (fun g15_17 g15_17' => ?_) (fun g15_17 g15_17' => ?_)
  ·refine wz 8 ?_
   refine sz 156 (fun g15_25 g15_25' => ?_) (fun g15_25 g15_25' => ?_)
   ·refine ky az (known_pure) ?_
    refine wz 2 ?_
    exact rz rfl jz
   exfalso
   simp at *
   omega
  exfalso
  omega
/-- **HideLeast.** -/
theorem law5 (r : Rg) (n : Int) (_ : -9223372036854775808 ≤ n) (_ : n ≤ 9223372036854775807) (f : List Int) (hl : (f.length : Int) ≤ 9223372036854775807) (y : Rt) : APure Tryz.prog 5 [rgA r, I n, ints f, rtA y] (B true) := by
  cases hs : shB r with
  | false => exact law5_0 hs hl
  | true =>
    cases ho : okF r n f with
    | false => exact law5_1 hs ho hl
    | true =>
      cases hy : rtOK r y with
      | false => exact law5_2 hs ho hy hl
      | true =>
        obtain ⟨_, ⟨h, rfl, hhl⟩, _⟩ := okF_facts ho
        cases hm : may r h f with
        | false => exact law5_n hs ho hhl hy hm hl
        | true => exact law5_y hs ho hhl hy hm hl
end Go.Proofs.YtjpokekbjmdgmaaGreatDoor
