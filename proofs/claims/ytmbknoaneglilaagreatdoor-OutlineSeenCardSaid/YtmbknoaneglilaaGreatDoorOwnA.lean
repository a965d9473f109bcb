/-
  A part of the proof: conditions: none beyond each theorem's own.
-/
import Derived.Test.YtmbknoaneglilaaGreatDoorLogicA
import Derived.Test.YtmbknoaneglilaaGreatDoorLogicC
import Derived.Laws.StructEq
import Derived.Test.YtmbknoaneglilaaGreatDoorLogicD
import Derived.Deep.Slices
import Derived.OpenShut
import Derived.Carry
import Derived.IntWalk
import Derived.Test.YtmbknoaneglilaaGreatDoorSpecA
import Derived.KernelRfl
import Derived.Lib.LaidTab
import Derived.Lib.ItoaNum
import Derived.Test.YtmbknoaneglilaaGreatDoorProg
import Derived.Test.YtmbknoaneglilaaGreatDoorWalkB
import Derived.Test.YtmbknoaneglilaaGreatDoorWalkF
import Derived.ChangeKeysEq
import Derived.Test.YtmbknoaneglilaaGreatDoorLogicB
import Derived.Test.YtmbknoaneglilaaGreatDoorLogicE
import Derived.Test.YtmbknoaneglilaaGreatDoorShelf
import Derived.Test.YtmbknoaneglilaaGreatDoorWalkA
import Derived.Test.YtmbknoaneglilaaGreatDoorWalkC
import Derived.Test.YtmbknoaneglilaaGreatDoorWalkD
import Derived.Test.YtmbknoaneglilaaGreatDoorWalkE
import Derived.Test.YtmbknoaneglilaaGreatDoorRow
set_option linter.all false
set_option maxRecDepth 100000
set_option maxHeartbeats 8000000
namespace Go.Ab
variable [Tabs]
theorem FW_room (r : Option Nat) (n : Nat) : (FW r).room n := fun _ h => by simp [FW] at h
variable {c : Ctx} {Q : AExit → St → Prop} {s : St}
end Go.Ab
namespace Go.Ab
variable [Tabs]
section ops
variable {P : Program} {r : Option Nat} {H : List AObj} {ρ : Operand → AV}
variable {d : Option Tmp} {t : TypeId} {p : String} {af : Array Edge} {g : Option (Nat × Bool)}
variable {x y z : Operand}
theorem ev_eql_agg {xt yt : TypeId} {xs ys : Array Value} {b : Bool} (hg : P.eqGuardType P.depth xt = false) (he : ∀ w, (Op.equalIn 10000 xt (.agg xs) (.agg ys)).run P w = .ok b w)
    (hx : Less (ρ x) (.raw (.agg xs))) (hy : Less (ρ y) (.raw (.agg ys))) : Ev P r ⟨d, .binOp .eql xt x y yt, t, p, af, g⟩ H ρ (.raw (.bool b)) :=
  Ev.pure (by intro c h; cases h) fun e ρc _ _ hs => by
    have e1 := rep_raw hx (hs x (by simp [Op.operands]))
    have e2 := rep_raw hy (hs y (by simp [Op.operands]))
    exact ⟨.bool b, by simp [execOp, e1, e2, run_eqGuard_agg _ _ _ _ _ _ _ hg, run_eql_struct, he], by rw [Rep]⟩
end ops
end Go.Ab
namespace Go.Ab
open Go.ChangeShapes Go.WideShapes
variable [Tabs]
theorem env0_ok {w : World} (h : Tabs.is w) (hb : ∀ b, Tabs.blk b → b < w.heap.size) : EnvOK (env0 w) :=
  ⟨fun b hb => by have hb' : w.heap.size ≤ b := hb
                  have : w.heap[b]? = none := by simpa using hb'
                  simp [env0, this], fun i o h => by simp [env0] at h, fun i j b hi => by simp [env0] at hi, fun i b hi => by simp [env0] at hi, h, fun b hk => ⟨hb b hk, fun i hi => by simp [env0] at hi⟩⟩
section
variable {H : Type} {enc : TypeId × Value → H} {P : Program} {w : World} {base : Nat} {spare : Nat → Bool} {held : Bool}
theorem trodAll_stays (hl : laidOutB P = true) {W W' : World} (hheap : ∀ b, b < W.heap.size → W'.heap[b]? = W.heap[b]?) {sp' : Nat → Bool} :
    ∀ {ts : List TypeId} {vs : List Value} {ds : List (DataW H)} {ps : List MemPlace}, (∀ t ∈ ts, P.readableRec t = true ∧ t < P.types.size) → DataW.TrodAll enc P W base (fun _ => true) true ts vs ds ps → (∀ p ∈ ps, p.block < W.heap.size) → (∀ p ∈ ps, sp' p.block = true) →
      DataW.TrodAll enc P W' base sp' true ts vs ds ps
  | [], _, _, _, _, h, _, _ => by
    obtain ⟨rfl, rfl, rfl⟩ := trodAll_nil h
    exact trodAll_mk0
  | t :: ts, _, _, _, ht, h, hlt, hs => by
    obtain ⟨v, vs1, d, ds1, a, b, rfl, rfl, rfl, h1, h2⟩ := trodAll_cons h
    refine trodAll_cons_mk (WideElems.Trod_stays hl (ht t (by simp)).1 (ht t (by simp)).2 h1 (fun p hp => ?_) (fun p hp => hs p (by simp [hp]))) (trodAll_stays hl hheap (fun u hu => ht u (List.mem_cons_of_mem _ hu)) h2 (fun p hp => hlt p (by simp [hp])) (fun p hp => hs p (by simp [hp])))
    have hb := hheap p.block (hlt p (by simp [hp]))
    cases p with
    | cell b o => exact cell?_of_heap hb
    | map b => exact hb
/-- **What a law's row asks of a call that returns true and leaves what it met.** -/
theorem post_true {f : Func} {s : ChangeSpec} {W W' : World} {args : Array Value} {ds gs : List (DataW H)} {before : List MemPlace} {tb : TypeId} (hl : laidOutB P = true) (hread : ∀ t ∈ f.params.toList, P.readableRec t = true ∧ t < P.types.size)
    (hres : f.resultTypes = #[tb]) (htb : P.underlying tb = some .bool) (hvars : s.vars = []) (hspec : (s.fn H ds).results = [.lit (.bool true)] ∧ (s.fn H ds).args = ds ∧ (s.fn H ds).vars = [])
    (hW : DataW.Whole enc P f.params.toList s.vars false W args.toList ds gs before) (hheap : ∀ b, b < W.heap.size → W'.heap[b]? = W.heap[b]?) (hst : Still W W') :
    s.post enc P f false true false false W args (.bool true) W' := by
  have hlt := hW.lt
  have hW0 := hW
  obtain ⟨p, q, h1, h2, rfl, _, _⟩ := hW
  rw [hvars] at h2
  obtain ⟨rfl, rfl⟩ := trodVars_none h2
  simp only [List.append_nil] at hlt
  obtain ⟨e1, e2, e3⟩ := hspec
  refine ⟨ds, [], p ++ [], [], p, [], hW0, ?_, ?_, ?_, ?_, fun h => by cases h⟩
  · rw [List.append_nil, e1, hres]
    exact trodAll_cons_mk (RowKit.shut_bool htb _) trodAll_mk0
  · rw [List.append_nil, e2]
    exact trodAll_stays hl hheap hread h1 hlt (fun p hp => by simpa using hlt p hp)
  · rw [List.append_nil, e3, hvars]; rfl
  · refine ⟨hst.1, hst.2, fun i hi => ?_⟩
    rw [hheap i hi]
    split <;> simp_all
theorem APure.law {f : FuncId} {args : List AV} {W : World} {vs : Array Value} (hc : APure P f args (.raw (.bool true))) (ht : Tabs.is W) (hb : ∀ b, Tabs.blk b → b < W.heap.size) (hr : RepL (env0 W) args vs.toList) :
    Calls P f vs W fun x W' => x = .returned (.bool true) ∧ (∀ b, b < W.heap.size → W'.heap[b]? = W.heap[b]?) ∧ Still W W' := by
  refine ((hc (env0 W) vs (env0_ok ht hb) hr).calls (fun k => FW_room none k)).mono ?_
  rintro x w' ⟨u, e', rfl, rfl, hx, hu⟩
  rw [Rep] at hu; subst hu
  exact ⟨rfl, hx.heap, hx.still⟩
end
end Go.Ab
namespace Go.Ab
variable [Tabs]
section seq
variable {c : Ctx} {ops : Array Oper} {Q : AExit → St → Prop} {rest : List Oper} {s : St} {i : Nat}
variable {d : Option Tmp} {op : Op} {t : TypeId} {p : String} {af : Array Edge}
end seq
section cond
variable {c : Ctx} {Q : AExit → St → Prop} {s : St} {x : Operand} {y z : Code}
end cond
section split
variable {c : Ctx} {ops : Array Oper} {Q : AExit → St → Prop} {s : St} {i : Nat} {l : List Oper}
theorem spn (u : Nat) {α : Type} {m n : α} {_ : Decidable (m ≠ n)} (h1 : decide (m ≠ n) = true → ¬ m = n → SeqWP c ops Q i l s) (h2 : decide (m ≠ n) = false → m = n → SeqWP c ops Q i l s) (hb : Less (sget s.sl u) (.raw (.bool (decide (m ≠ n)))) := by exact J) : SeqWP c ops Q i l s :=
  sq_split u hb (fun h => h1 h (of_decide_eq_true h)) (fun h => h2 h (Classical.byContradiction (of_decide_eq_false h)))
end split
section draw
variable {c : Ctx} {H0 : List AObj} {ops : Array Oper} {Q : AExit → St → Prop} {m i : Nat} {s : St} {rest : List Oper}
variable {d : Option Tmp} {op : Op} {t : TypeId} {p : String} {af : Array Edge}
end draw
section ex
variable {c : Ctx} {Q : AExit → St → Prop} {K : St → Prop} {s : St} {id j : Nat}
end ex
section app
variable {c : Ctx} {ops : Array Oper} {Q : AExit → St → Prop} {s : St} {i : Nat} {o : Oper} {l m : List Oper} {H0 : List AObj} {k : Nat}
end app
end Go.Ab
namespace Ol
open Ni (inn)
theorem addF_nodup {l : List Int} {n : Int} (h : l.Nodup) : (addF l n).Nodup := by
  unfold addF; split
  · exact h
  · rename_i hn; rw [List.nodup_append]; refine ⟨h, by simp, fun a ha b hb e => ?_⟩
    simp only [List.mem_singleton] at hb; subst hb; subst e; exact hn ha
theorem foldF_nodup : ∀ (l : List Th) (a : List Int), a.Nodup → (l.foldl (fun a t => addF a t.rd.fig) a).Nodup
  | [], _, h => h
  | t :: l, a, h => foldF_nodup l _ (addF_nodup h)
theorem seenF_nodup (l : List Th) : (seenF l).Nodup := foldF_nodup l [] List.nodup_nil
end Ol
namespace Ol
open Ni (inn)
theorem lt_ceil {R F i : Int} (hF : 0 < F) : i ≤ -(-R / F) - 1 ↔ i * F < R := by
  have h1 : i ≤ -(-R / F) - 1 ↔ -R / F < -i := by omega
  rw [h1, Int.ediv_lt_iff_lt_mul hF, Int.neg_mul]
  omega
theorem floor_le {L F i : Int} (hF : 0 < F) : L / F ≤ i ↔ L < (i + 1) * F := by
  rw [← Int.lt_add_one_iff, Int.ediv_lt_iff_lt_mul hF]
theorem mem_mts {c : Ca} (hF : 0 < c.s.far) {e : Int × Int} {i : Int} : i ∈ rng (c.mts e).1 (c.mts e).2 ↔ e.1 < (i + 1) * c.s.far ∧ i * c.s.far < e.2 := by
  rw [mem_rng]
  unfold Ca.mts
  simp only
  rw [floor_le hF, lt_ceil hF]
structure Good (c : Ca) : Prop where
  far : 0 < c.s.far
  near : c.p.near < c.s.far
  pos : 0 ≤ c.p.near
  fl : 0 ≤ c.s.flame
theorem Good.blur {c : Ca} (h : Good c) : 0 ≤ c.blur := Int.mul_nonneg h.fl h.pos
structure Gr (c d : Ca) : Prop where
  w : d.s.wide = c.s.wide
  h : d.s.high = c.s.high
  f : d.s.far = c.s.far
  x : d.s.x = c.s.x
  y : d.s.y = c.s.y
  fg : d.f = c.f
  p : d.p = c.p
  fl : c.s.flame ≤ d.s.flame
theorem Gr.blur {c d : Ca} (g : Gr c d) (h : 0 ≤ c.p.near) : c.blur ≤ d.blur := by
  unfold Ca.blur; rw [g.p]; exact Int.mul_le_mul_of_nonneg_right g.fl h
theorem Gr.frm {c d : Ca} (g : Gr c d) (k a e : Int) : d.frm k a e = c.frm k a e := by unfold Ca.frm; rw [g.f, g.p]
theorem Gr.acr {c d : Ca} (g : Gr c d) (h : Good c) (k i : Int) (hi : i ∈ rng (c.mts (c.acr k)).1 (c.mts (c.acr k)).2) : i ∈ rng (d.mts (d.acr k)).1 (d.mts (d.acr k)).2 := by
  have hb := g.blur h.pos
  have h1 := (mem_mts h.far).1 hi
  have hf : 0 < d.s.far := by rw [g.f]; exact h.far
  refine (mem_mts hf).2 ?_
  unfold Ca.acr at h1 ⊢
  rw [g.frm, g.frm, g.x, g.p, g.f]
  simp only at h1 ⊢
  omega
theorem Gr.dwn {c d : Ca} (g : Gr c d) (h : Good c) (k i : Int) (hi : i ∈ rng (c.mts (c.dwn k)).1 (c.mts (c.dwn k)).2) : i ∈ rng (d.mts (d.dwn k)).1 (d.mts (d.dwn k)).2 := by
  have hb := g.blur h.pos
  have h1 := (mem_mts h.far).1 hi
  have hf : 0 < d.s.far := by rw [g.f]; exact h.far
  refine (mem_mts hf).2 ?_
  unfold Ca.dwn at h1 ⊢
  rw [g.frm, g.frm, g.y, g.p, g.f]
  simp only at h1 ⊢
  omega
theorem Gr.fits {c d : Ca} (g : Gr c d) (h : Good c) (e : d.fits = true) : c.fits = true := by
  have hb := g.blur h.pos
  unfold Ca.fits Ca.fitsD at e ⊢
  rw [g.f, g.p, g.x, g.y, g.w, g.h, g.fg] at e
  simp only [Bool.and_eq_true, Bool.not_eq_true', Bool.or_eq_false_iff, decide_eq_false_iff_not] at e ⊢
  omega
end Ol
namespace Ol
open Ni (inn)
def chF (f : Fg) (i j : Int) : UInt8 := if 0 ≤ j ∧ j < f.length ∧ 0 ≤ i ∧ i < ((f.getD j.toNat []).length : Int) then (f.getD j.toNat []).getD i.toNat 0 else 46
end Ol
namespace Ol
open Ni (inn)
theorem agree_iff {a b : List (List UInt8)} (hl : a.length ≤ b.length) (hr : ∀ m, (h1 : m < a.length) → (h2 : m < b.length) → a[m].length ≤ b[m].length) :
    agree a b = true ↔ ∀ m k, (h1 : m < a.length) → (h2 : m < b.length) → (h3 : k < a[m].length) → (h4 : k < b[m].length) → opp a[m][k] b[m][k] = false := by
  constructor
  · intro h m k h1 h2 h3 h4
    cases ho : opp a[m][k] b[m][k] with
    | false => rfl
    | true => rw [agree_no h1 h2 h3 h4 ho] at h; cases h
  · intro h
    exact agree_yes fun m k h1 h2 h3 h4 => h m k h1 h2 h3 h4
theorem opp_63 (a : UInt8) : opp a 63 = false := by unfold opp; simp
theorem nodup_le {l m : List Int} (hl : l.Nodup) (h : ∀ n ∈ l, n ∈ m) : l.length ≤ m.length := by
  induction l generalizing m with
  | nil => simp
  | cons x l ih =>
    have hx := List.nodup_cons.1 hl
    have := ih (m := m.erase x) hx.2 fun n hn => (List.mem_erase_of_ne (fun e => hx.1 (by rw [e] at hn; exact hn))).2 (h n (by simp [hn]))
    rw [List.length_erase_of_mem (h x (by simp))] at this
    have := List.length_pos_of_mem (h x (by simp))
    rw [List.length_cons]; omega
end Ol
namespace Ol
open Ni (inn)
namespace Ca
def eL (c : Ca) (k : Int) : Int := k * (c.s.far - c.p.near) - c.s.flame * c.p.near
def eR (c : Ca) (k : Int) : Int := (k + 1) * (c.s.far - c.p.near) + c.s.flame * c.p.near
end Ca
end Ol
namespace Ol
open Ni (inn)
theorem seenF_mem' {l : List Th} {n : Int} : n ∈ seenF l ↔ ∃ t ∈ l, (t.rd.fig : Int) = n := by
  have gen : ∀ (l : List Th) (a : List Int), n ∈ l.foldl (fun a t => addF a t.rd.fig) a ↔ n ∈ a ∨ ∃ t ∈ l, (t.rd.fig : Int) = n := fun l => by
    induction l with
    | nil => intro a; simp
    | cons t l ih =>
      intro a
      rw [List.foldl_cons, ih]
      have e : n ∈ addF a t.rd.fig ↔ n ∈ a ∨ (t.rd.fig : Int) = n := by
        unfold addF; split
        · rename_i hm; exact ⟨.inl, fun h => h.elim id fun e => e ▸ hm⟩
        · rw [List.mem_append, List.mem_singleton, eq_comm]
      rw [e]; simp only [List.mem_cons, exists_eq_or_imp, or_assoc]
  rw [seenF, gen]; simp
theorem wordOf_ne {S : List Int} {i : Nat} : wordOf S i ≠ 1 ↔ (i : Int) ∈ S := by
  unfold wordOf
  by_cases h : (i : Int) ∈ S
  · rw [if_pos h]; refine ⟨fun _ => h, fun _ => ?_⟩
    split <;> decide
  · rw [if_neg h]; exact ⟨fun e => absurd rfl e, fun e => absurd e h⟩
theorem words_len {S : List Int} {n : Nat} (hn : S.Nodup) (h : ∀ k ∈ S, 0 ≤ k ∧ k < n) : (((List.range n).map (wordOf S)).filter fun w => decide (w ≠ 1)).length = S.length := by
  have e : (((List.range n).map (wordOf S)).filter fun w => decide (w ≠ 1)).length = (((List.range n).filter fun (i : Nat) => decide ((i : Int) ∈ S)).map fun (i : Nat) => (i : Int)).length := by
    rw [List.filter_map, List.length_map, List.length_map]
    congr 2
    funext i
    simp only [Function.comp]
    rw [decide_eq_decide]
    exact wordOf_ne
  rw [e]
  apply Nat.le_antisymm
  · refine nodup_le ?_ fun k hk => ?_
    · refine List.pairwise_map.2 (List.Pairwise.imp (fun {a b} (h : a ≠ b) => ?_) (List.Pairwise.filter _ List.nodup_range))
      exact fun e => h (by omega)
    · obtain ⟨i, hi, rfl⟩ := List.mem_map.1 hk
      simpa using (List.mem_filter.1 hi).2
  · refine nodup_le hn fun k hk => ?_
    have := h k hk
    exact List.mem_map.2 ⟨k.toNat, List.mem_filter.2 ⟨List.mem_range.2 (by omega), by rw [decide_eq_true_eq, show ((k.toNat : Nat) : Int) = k by omega]; exact hk⟩, by omega⟩
theorem seen_range {x : Sn} {sight : List (List UInt8)} : ∀ k ∈ seenF (agrees x sight), 0 ≤ k ∧ k < (x.l.length : Int) := fun k hk => by
  obtain ⟨t, ht, e⟩ := seenF_mem'.1 hk
  obtain ⟨i, n, q, hi, _, _, rfl⟩ := rdgs_mem (List.mem_filter.1 ht).1
  have e2 : (thrown x i n q).rd.fig = i := rfl
  rw [e2] at e
  omega
end Ol
namespace Ol
open Ni (inn)
theorem mem_rdgs {x : Sn} {t : Th} : t ∈ rdgs x ↔ t.rd.fig < x.l.length ∧ t ∈ rdN x t.rd.fig := by
  unfold rdgs
  rw [List.mem_flatMap]
  constructor
  · rintro ⟨i, hi, h⟩
    have := rdN_fig h
    subst this
    exact ⟨List.mem_range.1 hi, h⟩
  · rintro ⟨h1, h2⟩; exact ⟨_, List.mem_range.2 h1, h2⟩
def goodP (t u : Th) : Prop := t.rd.fig < u.rd.fig ∧ agree t.sh u.sh = true
def mA : Option (Nat × Nat) → Int | none => -1 | some m => m.1
def mB : Option (Nat × Nat) → Int | none => -1 | some m => m.2
def leM (M : Option (Nat × Nat)) (a b : Int) : Prop := 0 ≤ mA M ∧ (mA M < a ∨ (mA M = a ∧ mB M ≤ b))
structure MInv (R : List Th) (M : Option (Nat × Nat)) (i k : Nat) : Prop where
  real : ∀ m, M = some m → ∃ t ∈ R, ∃ u ∈ R, goodP t u ∧ t.rd.fig = m.1 ∧ u.rd.fig = m.2
  least : ∀ p q, (hp : p < R.length) → (hq : q < R.length) → (p < i ∨ (p = i ∧ q < k)) → goodP R[p] R[q] → leM M R[p].rd.fig R[q].rd.fig
theorem MInv.row {R : List Th} {M : Option (Nat × Nat)} {i : Nat} (h : MInv R M i R.length) : MInv R M (i + 1) 0 :=
  ⟨h.real, fun p q hp hq hc hg => h.least p q hp hq (by omega) hg⟩
end Ol
namespace Ol
open Ni (inn)
def isSeen (seen : List Int) (n : Nat) : Bool := decide (n < seen.length) && decide (0 < seen.getD n 0)
def cellOf (w : Nat) (c : List (List UInt8)) (seen : List Int) (m k : Nat) : UInt8 := if isSeen seen (m * w + k) = true then (c.getD m []).getD k 0 else 63
def rowOf (w : Nat) (c : List (List UInt8)) (seen : List Int) (m k : Nat) : List UInt8 := (List.range k).map (cellOf w c seen m)
def seenBy (w : Nat) (c : List (List UInt8)) (seen : List Int) (h : Nat) : List (List UInt8) := (List.range h).map fun m => rowOf w c seen m w
theorem rowOf_succ (w : Nat) (c : List (List UInt8)) (seen : List Int) (m k : Nat) : rowOf w c seen m (k + 1) = rowOf w c seen m k ++ [cellOf w c seen m k] := by unfold rowOf; rw [List.range_succ, List.map_append]; rfl
theorem seenBy_succ (w : Nat) (c : List (List UInt8)) (seen : List Int) (m : Nat) : seenBy w c seen (m + 1) = seenBy w c seen m ++ [rowOf w c seen m w] := by unfold seenBy; rw [List.range_succ, List.map_append]; rfl
theorem cell_yes {w : Nat} {c : List (List UInt8)} {seen : List Int} {m k : Nat} (h1 : m * w + k < seen.length) (h2 : 0 < seen[m * w + k]) (hm : m < c.length) (hk : k < c[m].length) : cellOf w c seen m k = c[m][k] := by
  have : isSeen seen (m * w + k) = true := by unfold isSeen; rw [getD_get h1, decide_eq_true h1, decide_eq_true h2]; rfl
  unfold cellOf; rw [if_pos this, getD_get hm, getD_get hk]
theorem cell_no1 {w : Nat} {c : List (List UInt8)} {seen : List Int} {m k : Nat} (h1 : ¬ m * w + k < seen.length) : cellOf w c seen m k = 63 := by
  have : ¬ isSeen seen (m * w + k) = true := by unfold isSeen; rw [decide_eq_false h1]; simp
  unfold cellOf; rw [if_neg this]
theorem cell_no2 {w : Nat} {c : List (List UInt8)} {seen : List Int} {m k : Nat} (h1 : m * w + k < seen.length) (h2 : ¬ 0 < seen[m * w + k]) : cellOf w c seen m k = 63 := by
  have : ¬ isSeen seen (m * w + k) = true := by unfold isSeen; rw [getD_get h1, decide_eq_false h2]; simp
  unfold cellOf; rw [if_neg this]
theorem opp_self (a : UInt8) : opp a a = false := by
  unfold opp
  by_cases h : a = 35
  · subst h; rfl
  · simp [h]
theorem seenBy_len (w : Nat) (c : List (List UInt8)) (seen : List Int) (h : Nat) : (seenBy w c seen h).length = h := by unfold seenBy; simp
theorem seenBy_get {w : Nat} {c : List (List UInt8)} {seen : List Int} {h m : Nat} (hm : m < (seenBy w c seen h).length) : (seenBy w c seen h)[m] = rowOf w c seen m w := (List.getElem_map (f := fun m => rowOf w c seen m w) (l := List.range h) (h := hm)).trans (by rw [List.getElem_range])
theorem rowOf_len (w : Nat) (c : List (List UInt8)) (seen : List Int) (m k : Nat) : (rowOf w c seen m k).length = k := by unfold rowOf; simp
theorem rowOf_get {w : Nat} {c : List (List UInt8)} {seen : List Int} {m k j : Nat} (hj : j < (rowOf w c seen m k).length) : (rowOf w c seen m k)[j] = cellOf w c seen m j := (List.getElem_map (f := cellOf w c seen m) (l := List.range k) (h := hj)).trans (by rw [List.getElem_range])
theorem seenBy_agree {w h : Nat} {c : List (List UInt8)} {seen : List Int} (hl : c.length = h) (hr : ∀ r ∈ c, r.length = w) : agree c (seenBy w c seen h) = true := by
  rw [agree_iff (by rw [seenBy_len]; omega) (fun m h1 h2 => by rw [seenBy_get h2, rowOf_len, hr _ (List.getElem_mem h1)]; exact Nat.le_refl _)]
  intro m k h1 h2 h3 h4
  have e : (seenBy w c seen h)[m][k] = cellOf w c seen m k := by
    have hg := seenBy_get h2
    simp only [hg, rowOf_get]
  rw [e]
  unfold cellOf
  split
  · rw [getD_get h1, getD_get h3]; exact opp_self _
  · exact opp_63 _
def cntW (V : List Int) (v : Int) (k : Nat) : Int := (((V.take k).filter fun w => decide (w = v)).length : Int)
theorem cntW_succ {V : List Int} {v : Int} {k : Nat} (h : k < V.length) : cntW V v (k + 1) = cntW V v k + (if V[k] = v then 1 else 0) := by
  unfold cntW
  rw [List.take_succ_eq_append_getElem h, List.filter_append]
  by_cases e : V[k] = v
  · rw [if_pos e, List.filter_cons_of_pos (by simpa using e)]; simp
  · rw [if_neg e, List.filter_cons_of_neg (by simpa using e)]; simp
theorem cntW_bd (V : List Int) (v : Int) (k : Nat) : 0 ≤ cntW V v k ∧ cntW V v k ≤ k := by
  unfold cntW
  have h1 := List.length_filter_le (fun w => decide (w = v)) (V.take k)
  have h2 := List.length_take_le k V
  omega
theorem wordOf_cases (S : List Int) (i : Nat) : wordOf S i = 1 ∨ wordOf S i = 2 ∨ wordOf S i = 3 := by
  unfold wordOf; split
  · split <;> simp
  · simp
end Ol
namespace Go.Proofs.YtmbknoaneglilaaGreatDoor
open Go Go.Ab Ni Ol
abbrev rdC (t : Rd) : List AV := [I t.fig, I t.p.near, I t.p.x, I t.p.y]
theorem rin_pure (n lo hi : Int) : APure Tryz.prog 89 [I n, I lo, I hi] (B (inn n lo hi)) := by
 refine apure_of (rs := [.tmp 6]) Tryz.func89 rfl rfl (Nat.le_of_ble_eq_true rfl) (by simp [AV.pureL, AV.pureB, AV.pureE, pureE_map]) (by first | rfl | (simp [AV.pureL, AV.pureB, AV.pureE, pureE_map])) fun e0 he0 => ?_
 refine W 5 ?_
 refine sq_split 10 J (fun g1 => ?_) (fun g1 => ?_)
 ·
  have g1' := g1
  try simp only [qq] at g1'
  refine W 5 ?_
  exact retQ_pure (v := .raw _) rfl rfl (Less.eq (by simp [inn, *]))
 have g1' := g1
 try simp only [qq] at g1'
 refine W 5 ?_
 exact retQ_pure (v := .raw _) rfl rfl (Less.eq (by simp [inn, *]))
theorem rstage_pure (s : Sg) : APure Tryz.prog 24 [stA s] (B (stOK s)) := by
 refine apure_of (rs := [.tmp 2]) Tryz.func24 rfl rfl (Nat.le_of_ble_eq_true rfl) (by simp [AV.pureL, AV.pureB, AV.pureE, pureE_map]) (by first | rfl | (simp [AV.pureL, AV.pureB, AV.pureE, pureE_map])) fun e0 he0 => ?_
 refine W 4 ?_
 refine cl A (rin_pure _ _ _) ?_
 refine W 1 ?_
 refine sq_split 6 J (fun g1 => ?_) (fun g1 => ?_)
 ·
  have g1' := g1
  try simp only [qq] at g1'
  refine W 2 ?_
  refine cy A (rin_pure _ _ _) ?_
  refine W 2 ?_
  refine sq_split 11 J (fun g2 => ?_) (fun g2 => ?_)
  ·
   have g2' := g2
   try simp only [qq] at g2'
   refine W 2 ?_
   refine cy A (rin_pure _ _ _) ?_
   refine W 2 ?_
   refine sq_split 16 J (fun g3 => ?_) (fun g3 => ?_)
   ·
    have g3' := g3
    try simp only [qq] at g3'
    refine W 2 ?_
    refine cy A (rin_pure _ _ _) ?_
    refine W 2 ?_
    refine sq_split 21 J (fun g4 => ?_) (fun g4 => ?_)
    ·
     have g4' := g4
     try simp only [qq] at g4'
     refine W 4 ?_
     refine cy A (rin_pure _ _ _) ?_
     refine W 2 ?_
     refine sq_split 28 J (fun g5 => ?_) (fun g5 => ?_)
     ·
      have g5' := g5
      try simp only [qq] at g5'
      refine W 4 ?_
      refine cy A (rin_pure _ _ _) ?_
      refine W 2 ?_
      exact retQ_pure (v := .raw _) rfl rfl (Less.eq (by simp [stOK, *]))
     have g5' := g5
     try simp only [qq] at g5'
     refine W 7 ?_
     exact retQ_pure (v := .raw _) rfl rfl (Less.eq (by simp [stOK, *]))
    have g4' := g4
    try simp only [qq] at g4'
    refine W 14 ?_
    exact retQ_pure (v := .raw _) rfl rfl (Less.eq (by simp [stOK, *]))
   have g3' := g3
   try simp only [qq] at g3'
   refine W 19 ?_
   exact retQ_pure (v := .raw _) rfl rfl (Less.eq (by simp [stOK, *]))
  have g2' := g2
  try simp only [qq] at g2'
  refine W 24 ?_
  exact retQ_pure (v := .raw _) rfl rfl (Less.eq (by simp [stOK, *]))
 have g1' := g1
 try simp only [qq] at g1'
 refine W 29 ?_
 exact retQ_pure (v := .raw _) rfl rfl (Less.eq (by simp [stOK, *]))
theorem rat_pure (x y : Int) : APure Tryz.prog 31 [I x, I y] (B (awayOK x && awayOK y)) := by
 refine apure_of (rs := [.tmp 4]) Tryz.func31 rfl rfl (Nat.le_of_ble_eq_true rfl) (by simp [AV.pureL, AV.pureB, AV.pureE, pureE_map]) (by first | rfl | (simp [AV.pureL, AV.pureB, AV.pureE, pureE_map])) fun e0 he0 => ?_
 refine W 2 ?_
 refine cl A (rin_pure _ _ _) ?_
 refine W 1 ?_
 refine sq_split 7 J (fun g1 => ?_) (fun g1 => ?_)
 ·
  have g1' := g1
  try simp only [qq] at g1'
  refine W 1 ?_
  refine cy A (rin_pure _ _ _) ?_
  refine W 2 ?_
  exact retQ_pure (v := .raw _) rfl rfl (Less.eq (by simp [awayOK, *]))
 have g1' := g1
 try simp only [qq] at g1'
 refine W 4 ?_
 exact retQ_pure (v := .raw _) rfl rfl (Less.eq (by simp [awayOK, *]))
end Go.Proofs.YtmbknoaneglilaaGreatDoor
namespace Go.Proofs.YtmbknoaneglilaaGreatDoor
open Go Go.Ab Ni Ol
theorem ch_ok {c : UInt8} (h : (c.toNat : Int) = 35 ∨ (c.toNat : Int) = 46) : chOK c = true := by
  unfold chOK; simp only [decide_eq_true_eq]
  exact h.imp (fun h => UInt8.toNat_inj.1 (by show c.toNat = 35; omega)) (fun h => UInt8.toNat_inj.1 (by show c.toNat = 46; omega))
theorem ch_no {c : UInt8} (h : (c.toNat : Int) ≠ 35) (k : (c.toNat : Int) ≠ 46) : chOK c = false := by
  rw [Bool.eq_false_iff]; intro ho; unfold chOK at ho; simp only [decide_eq_true_eq] at ho
  rcases ho with e | e <;> (subst e; first | exact h rfl | exact k rfl)
theorem rfigure_pure (f : Fg) : APure Tryz.prog 25 [fgA f] (B (fgOK f)) := by
  refine apure_of (rs := [.tmp 2]) Tryz.func25 rfl rfl (Nat.le_of_ble_eq_true rfl) (by simp [AV.pureL, AV.pureB, AV.pureE, pureE_map]) (by first | rfl | (simp [AV.pureL, AV.pureB, AV.pureE, pureE_map])) fun e0 he0 => ?_
  refine W 5 ?_
  refine cl A (rin_pure _ _ _) ?_
  refine W 2 ?_
  refine sq_split 11 J (fun g1_5 => ?_) (fun g1_5 => ?_)
  · skip
    have g1_5' := g1_5
    try simp only [qq] at g1_5'
    refine W 10 ?_
    exact retQ_pure (v := .raw _) rfl rfl (Less.eq (by unfold fgOK; simp_all))
  · skip
    have g1_5' := g1_5
    try simp only [qq] at g1_5'
    have h1 : inn f.length 1 6 = true := by simpa using g1_5
    have hlen : 1 ≤ f.length ∧ f.length ≤ 6 := by simp only [inn, Bool.and_eq_true, decide_eq_true_eq] at h1; omega
    have hw0 := w0_eq (f := f) (by omega)
    refine W 2 ?_
    refine sq_yes rfl rfl (less_b g1_5) rfl (ev_index_map (k := 0) sl24.h J J rfl (by omega)) ?_
    refine W 2 ?_
    refine cy A (rin_pure _ _ _) ?_
    refine W 2 ?_
    refine aw_cond J (fun c_19 => ?_) (fun c_19 => ?_)
    · skip
      have c_19' := c_19
      try simp only [qq] at c_19'
      refine W 1 ?_
      exact retQ_pure (v := .raw _) rfl rfl (Less.eq (by unfold fgOK; rw [hw0]; simp_all))
    · skip
      have c_19' := c_19
      try simp only [qq] at c_19'
      have h2 : inn (w0 f) 1 6 = true := by rw [hw0]; simpa using c_19
      refine W 2 ?_
      refine aw_loopk (ι := { k : Nat // k ≤ f.length ∧ ∀ i, (h : i < f.length) → i < k → fgRow (w0 f) f[i] = true }) [1] (fun i => [(3, B ((f.take i.1).any hasH)), (4, I i.1)]) (fun H i => H) (fun i => f.length - i.1) (⟨0, Nat.zero_le _, by omega⟩) ⟨J, J, J, trivial⟩ rfl ?_
      rintro ⟨k, hk, hok⟩
      dsimp only [keepS, St.put, sget, slotsOf, nn1, nn2, nn3, nn4, nn5, nn6, Nat.reduceBEq, Nat.reduceAdd, nn7, nn8]
      refine W 5 ?_
      refine iff (fun c_24 c_24' => ?_) (fun c_24 c_24' => ?_)
      · skip
        refine W 0 ?_
        refine aw_draw 12 mo (by kernel_rfl) ?_
        refine WD 8 ?_
        refine dr_ev rfl (ev_index_map (k := 0) sl24.h J J rfl (by omega)) ?_
        refine WD 3 ?_
        refine W 0 ?_
        refine ifn (fun c_38 c_38' => ?_) (fun c_38 c_38' => ?_)
        · skip
          refine W 1 ?_
          exact retQ_pure (v := .raw _) rfl rfl (Less.eq (by rw [fg_row_bad (k := k) (by omega) (fgRow_len (by rw [hw0]; omega))]))
        · skip
          have hlk : f[k].length ≤ 6 := by simp only [inn, Bool.and_eq_true, decide_eq_true_eq] at h2; omega
          refine W 1 ?_
          refine aw_loopk (ι := { j : Nat // j ≤ f[k].length ∧ ∀ i, (h : i < f[k].length) → i < j → chOK f[k][i] = true }) [1, 4] (fun q => [(3, B ((f.take k).any hasH || (f[k].take q.1).any fun c => decide (c = 35))), (5, I q.1)]) (fun H q => H) (fun q => f[k].length - q.1) (⟨0, Nat.zero_le _, by omega⟩) ⟨(Less.eq (by show B ((f.take k).any hasH) = _; simp)), J, J, J, trivial⟩ rfl ?_
          rintro ⟨j, hj, hoj⟩
          dsimp only [keepS, St.put, sget, slotsOf, nn1, nn2, nn3, nn4, nn5, nn6, Nat.reduceBEq, Nat.reduceAdd, nn7, nn8]
          refine W 8 ?_
          refine iff (fun c_46 c_46' => ?_) (fun c_46 c_46' => ?_)
          · skip
            have hk' : j < f[k].length := by omega
            have eC := any_take (q := fun c => decide (c = 35)) (l := f[k]) (k := j) hk'
            refine W 9 ?_
            refine sq_split 57 J (fun g12_8 => ?_) (fun g12_8 => ?_)
            · skip
              have g12_8' := g12_8
              try simp only [qq] at g12_8'
              refine W 9 ?_
              refine aw_cond J (fun c_66 => ?_) (fun c_66 => ?_)
              · skip
                have c_66' := c_66
                try simp only [qq] at c_66'
                refine W 1 ?_
                exact retQ_pure (v := .raw _) rfl rfl (Less.eq (by rw [fg_row_bad (k := k) (by omega) (fgRow_ch (j := j) hk' (ch_no g12_8' c_66'))]))
              · skip
                have c_66' := c_66
                try simp only [qq] at c_66'
                have hch : chOK f[k][j] = true := ch_ok (.inr (by simpa using c_66))
                refine W 2 ?_
                refine sq_split 68 J (fun g14_1 => ?_) (fun g14_1 => ?_)
                · skip
                  have g14_1' := g14_1
                  try simp only [qq] at g14_1'
                  have eF : B true = B ((f.take k).any hasH || (f[k].take (j + 1)).any fun c => decide (c = 35)) := by rw [eC, ← Bool.or_assoc, g14_1]; rfl
                  refine W 13 ?_
                  exact ⟨⟨j + 1, by omega, fun i h hi => (by by_cases e : i = j; (subst e; exact hch); exact hoj i h (by omega))⟩, by simp only; omega, Sub.slots ⟨(Less.eq eF), J, J, J, trivial⟩⟩
                · skip
                  have g14_1' := g14_1
                  try simp only [qq] at g14_1'
                  have eF : B (decide (((f[k][j]).toNat : Int) = 35)) = B ((f.take k).any hasH || (f[k].take (j + 1)).any fun c => decide (c = 35)) := by rw [eC, ← Bool.or_assoc, g14_1, dec35]; rfl
                  refine W 13 ?_
                  exact ⟨⟨j + 1, by omega, fun i h hi => (by by_cases e : i = j; (subst e; exact hch); exact hoj i h (by omega))⟩, by simp only; omega, Sub.slots ⟨(Less.eq eF), J, J, J, trivial⟩⟩
            · skip
              have g12_8' := g12_8
              try simp only [qq] at g12_8'
              have hch : chOK f[k][j] = true := ch_ok (.inl (by simpa using g12_8))
              refine W 12 ?_
              refine sq_split 68 J (fun g14_1 => ?_) (fun g14_1 => ?_)
              · skip
                have g14_1' := g14_1
                try simp only [qq] at g14_1'
                have eF : B true = B ((f.take k).any hasH || (f[k].take (j + 1)).any fun c => decide (c = 35)) := by rw [eC, ← Bool.or_assoc, g14_1]; rfl
                refine W 13 ?_
                exact ⟨⟨j + 1, by omega, fun i h hi => (by by_cases e : i = j; (subst e; exact hch); exact hoj i h (by omega))⟩, by simp only; omega, Sub.slots ⟨(Less.eq eF), J, J, J, trivial⟩⟩
              · skip
                have g14_1' := g14_1
                try simp only [qq] at g14_1'
                have eF : B (decide (((f[k][j]).toNat : Int) = 35)) = B ((f.take k).any hasH || (f[k].take (j + 1)).any fun c => decide (c = 35)) := by rw [eC, ← Bool.or_assoc, g14_1, dec35]; rfl
                refine W 13 ?_
                exact ⟨⟨j + 1, by omega, fun i h hi => (by by_cases e : i = j; (subst e; exact hch); exact hoj i h (by omega))⟩, by simp only; omega, Sub.slots ⟨(Less.eq eF), J, J, J, trivial⟩⟩
          · skip
            refine V 3 ?_
            refine sq_nil ?_
            have hgood : fgRow (w0 f) f[k] = true := fgRow_ok (by omega) (fun i h => hoj i h (by omega))
            have eA := any_take (q := hasH) (l := f) (k := k) (by omega)
            have eB : hasH f[k] = (f[k].take j).any (fun c => decide (c = 35)) := by unfold hasH; rw [List.take_of_length_le (by omega)]
            exact ⟨⟨k + 1, by omega, fun i h hi => (by by_cases e : i = k; (subst e; exact hgood); exact hok i h (by omega))⟩, by simp only; omega, Sub.slots ⟨(Less.eq (show B ((f.take k).any hasH || (f[k].take j).any fun c => decide (c = 35)) = _ by rw [eA, eB])), J, J, trivial⟩⟩
      · skip
        refine W 2 ?_
        exact retQ_pure (v := .raw _) rfl rfl (Less.eq (by rw [fg_end h1 h2 (fun i h => hok i h (by omega)), show k = f.length by omega, List.take_length]))
end Go.Proofs.YtmbknoaneglilaaGreatDoor
namespace Go.Proofs.YtmbknoaneglilaaGreatDoor
open Go Go.Ab Ni Ol
abbrev rds (l : List Th) : AV := .sl 4 (l.map fun t => rdC t.rd)
theorem inE_rds (n : Nat) (l : List Th) : AV.inE n (l.map fun t => rdC t.rd) = true := inE_map fun x _ => by simp [AV.inL, AV.inB]
theorem pureE_rds (l : List Th) : AV.pureE (l.map fun t => rdC t.rd) = true := pureE_map fun x _ => by simp [AV.pureL, AV.pureB]
theorem reads_pure (x : Sn) (sight : List (List UInt8)) (hl : x.l.length ≤ 1000000) (hs : shp sight) : APure Tryz.prog 78 [stA x.s, figs x.l, rcA x.r, strs sight] (.tup [rds (if askOK x sight = true then agrees x sight else []), I (er (askOK x sight))]) := by
  refine apure_of_marks (rs := [.tmp 8, .tmp 9]) Tryz.func78 rfl rfl (Nat.le_of_ble_eq_true rfl) (by simp [AV.pureL, AV.pureB, AV.pureE, pureE_map]) (by simp [AV.pureL, AV.pureB, AV.pureE, pureE_rds]) fun e0 he0 => ?_
  refine W 12 ?_
  refine cl A (isscene_pure x hl) ?_
  refine W 2 ?_
  refine sq_split 20 J (fun g2_3 => ?_) (fun g2_3 => ?_)
  · skip
    have g2_3' := g2_3
    try simp only [qq] at g2_3'
    refine W 8 ?_
    exact retQM_pure (v := .tup [.raw _, .raw _]) rfl rfl (less_tup ⟨Less.trans (less_nil 4) (Less.eq (by rw [ask_f1 g2_3']; rfl)), Less.eq (by rw [ask_f1 g2_3']; rfl), trivial⟩)
  · skip
    have g2_3' := g2_3
    try simp only [qq] at g2_3'
    refine W 2 ?_
    refine cy A (issight_pure x.s sight hs) ?_
    refine W 2 ?_
    refine aw_cond J (fun c_25 => ?_) (fun c_25 => ?_)
    · skip
      have c_25' := c_25
      try simp only [qq] at c_25'
      refine W 2 ?_
      exact retQM_pure (v := .tup [.raw _, .raw _]) rfl rfl (less_tup ⟨Less.trans (less_nil 4) (Less.eq (by rw [ask_f2 (by simpa using c_25)]; rfl)), Less.eq (by rw [ask_f2 (by simpa using c_25)]; rfl), trivial⟩)
    · skip
      have c_25' := c_25
      try simp only [qq] at c_25'
      have hxo : snOK x = true := by cases h : snOK x <;> simp_all
      have hso : siOK x.s sight = true := by cases h : siOK x.s sight <;> simp_all
      have hst := (sn_facts hxo).2.1
      have hsi := sight_clo hst hso
      refine W 2 ?_
      refine cl A (readings_pure x) ?_
      refine sq_nil (aw_block ?_)
      refine aw_sub (sub_token_box 4 4 rfl) ?_
      refine aw_rangeFuncB [7, 11] (xs := (rdgs x).map thA) (cl := clOf) (fun k => [.cells (stC x.s), .cells (rcC x.r), .cells [strs sight], .cells (snC x), .cells [.own 5 4 ((((rdgs x).take k).filter fun t => agree t.sh sight).map (fun t => rdC t.rd))], .tok ((((rdgs x).take k).filter fun t => agree t.sh sight).map (fun t => rdC t.rd)).length]) ((rdgs x).map thA).length none (Nat.le_refl _) (fun _ => rfl) (fun h => absurd rfl h) rfl rfl J en169.h (readings_iter hxo) rfl (fun _ => rfl) (fun k hk => by show objsIn 6 _ = true; simp [objsIn, AObj.inB, AV.inB, AV.inL, inE_rds, inE_figs, inE_strs]) (fun x hx => th_pure hx) rfl rfl (by decide) rfl rfl z152.h rfl ty152.h (fun x hx => th_cl _ hx) (by decide) (by show slotsIn 6 [(7, AV.ptr 2 0), (11, AV.ptr 4 0)] = true; rfl) ?_ ?_
      · intro l i x e0 hi hx he0
        obtain ⟨hk, rfl⟩ := ths_get hx
        have hfit := clo_fit hst (rdgs_clo hxo (List.getElem_mem hk)) hsi
        have hal := rdgs_mx hxo
        have hfl : (((rdgs x).take i).filter fun t => agree t.sh sight).length ≤ i := Nat.le_trans (List.length_filter_le _ _) (by rw [List.length_take]; omega)
        dsimp only [keepS, St.put, sget, slotsOf, nn1, nn2, nn3, nn4, nn5, nn6, Nat.reduceBEq, Nat.reduceAdd, nn7, nn8]
        refine W 3 ?_
        refine cl A (agree_pure hfit) ?_
        refine W 0 ?_
        refine aw_cond J (fun c_32 => ?_) (fun c_32 => ?_)
        · skip
          have c_32' := c_32
          try simp only [qq] at c_32'
          have eS : (((rdgs x).take (i + 1)).filter fun t => agree t.sh sight).map (fun t => rdC t.rd) = (((rdgs x).take i).filter fun t => agree t.sh sight).map (fun t => rdC t.rd) ++ [rdC (rdgs x)[i].rd] := by rw [fl_yes hk (by exact c_32), List.map_append]; rfl
          refine W 3 ?_
          refine sq_ev rfl (ev_buildSlice (es := [[_, _, _, _]]) sf53.h rfl rfl rfl rfl) ?_
          first | refine sq_append rfl sf53.h Tryz.underlying53 rfl rfl J (Nat.succ_pos _) (by simp; omega) (by simp; omega) ?_ | refine sq_append rfl sf53.h Tryz.underlying53 rfl rfl (less_slx _ _) (Nat.succ_pos _) (by simp; omega) (by simp; omega) ?_
          refine W 1 ?_
          exact ⟨⟨[], congrArg (fun L => [AObj.cells (stC x.s), .cells (rcC x.r), .cells [strs sight], .cells (snC x), .cells [.own 5 4 L], .tok L.length]) eS.symm⟩, rfl, by split <;> rfl⟩
        · skip
          have c_32' := c_32
          try simp only [qq] at c_32'
          have eS : (((rdgs x).take (i + 1)).filter fun t => agree t.sh sight).map (fun t => rdC t.rd) = (((rdgs x).take i).filter fun t => agree t.sh sight).map (fun t => rdC t.rd) := by rw [fl_no hk (by exact c_32)]
          refine W 0 ?_
          exact ⟨⟨[], congrArg (fun L => [AObj.cells (stC x.s), .cells (rcC x.r), .cells [strs sight], .cells (snC x), .cells [.own 5 4 L], .tok L.length]) eS.symm⟩, rfl, by split <;> rfl⟩
      · rintro _ rfl
        have hfull : ((rdgs x).map thA).length = (rdgs x).length := by simp
        rw [hfull, List.take_length]
        refine W 3 ?_
        exact retQM_pure (v := .tup [.own _ _ _, .raw _]) rfl rfl (less_tup ⟨Less.trans (less_own _ _ _) (Less.eq (by rw [if_pos (ask_t hxo hso)] <;> rfl)), Less.eq (by rw [ask_t hxo hso] <;> rfl), trivial⟩)
end Go.Proofs.YtmbknoaneglilaaGreatDoor
namespace Go.Proofs.YtmbknoaneglilaaGreatDoor
open Go Go.Ab Ni Ol
instance en111 : EnT Tryz.prog 111 := ⟨Ent.of Tryz.func111 (by kernel_rfl) rfl⟩
instance en112 : EnT Tryz.prog 112 := ⟨Ent.of Tryz.func112 (by kernel_rfl) rfl⟩
instance en154 : EnT Tryz.prog 154 := ⟨Ent.of Tryz.func154 (by kernel_rfl) rfl⟩
instance en23 : EnT Tryz.prog 23 := ⟨Ent.of Tryz.func23 (by kernel_rfl) rfl⟩
instance en24 : EnT Tryz.prog 24 := ⟨Ent.of Tryz.func24 (by kernel_rfl) rfl⟩
instance en25 : EnT Tryz.prog 25 := ⟨Ent.of Tryz.func25 (by kernel_rfl) rfl⟩
instance en29 : EnT Tryz.prog 29 := ⟨Ent.of Tryz.func29 (by kernel_rfl) rfl⟩
instance en34 : EnT Tryz.prog 34 := ⟨Ent.of Tryz.func34 (by kernel_rfl) rfl⟩
instance en36 : EnT Tryz.prog 36 := ⟨Ent.of Tryz.func36 (by kernel_rfl) rfl⟩
instance en37 : EnT Tryz.prog 37 := ⟨Ent.of Tryz.func37 (by kernel_rfl) rfl⟩
instance en41 : EnT Tryz.prog 41 := ⟨Ent.of Tryz.func41 (by kernel_rfl) rfl⟩
instance en49 : EnT Tryz.prog 49 := ⟨Ent.of Tryz.func49 (by kernel_rfl) rfl⟩
instance en50 : EnT Tryz.prog 50 := ⟨Ent.of Tryz.func50 (by kernel_rfl) rfl⟩
instance en72 : EnT Tryz.prog 72 := ⟨Ent.of Tryz.func72 (by kernel_rfl) rfl⟩
instance en85 : EnT Tryz.prog 85 := ⟨Ent.of Tryz.func85 (by kernel_rfl) rfl⟩
theorem allT_no {α : Type} {q : α → Bool} {l : List α} {n i : Nat} (hi : i < l.length) (hn : i < n) (h : q l[i] = false) : (l.take n).all q = false := by
  rw [List.all_eq_false]
  have hm : i < (l.take n).length := by rw [List.length_take]; omega
  exact ⟨(l.take n)[i], List.getElem_mem hm, by rw [List.getElem_take, h]; simp⟩
theorem allT_yes {α : Type} {q : α → Bool} {l : List α} {n : Nat} (h : ∀ i, (hi : i < l.length) → i < n → q l[i] = true) : (l.take n).all q = true := by
  rw [List.all_eq_true]
  intro x hx
  obtain ⟨i, hi, rfl⟩ := List.getElem_of_mem hx
  rw [List.length_take] at hi
  rw [List.getElem_take]; exact h i (by omega) (by omega)
def shortB (l : List (List UInt8)) : Bool := (l.take 20).all (fun r => decide (r.length ≤ 20)) && decide (l.length ≤ 18)
def fewB (l : List Fg) : Bool := (l.take 9).all shortB && decide (l.length ≤ 8)
theorem shortB_sz {l : List (List UInt8)} (h : shortB l = true) : l.length ≤ 18 ∧ ∀ r ∈ l, r.length ≤ 20 := by
  unfold shortB at h
  simp only [Bool.and_eq_true, decide_eq_true_eq] at h
  rw [List.take_of_length_le (by omega)] at h
  exact ⟨h.2, fun r hr => by have := List.all_eq_true.1 h.1 r hr; simpa using this⟩
theorem fewB_sz {l : List Fg} (h : fewB l = true) : l.length ≤ 8 ∧ ∀ f ∈ l, f.length ≤ 18 ∧ ∀ r ∈ f, r.length ≤ 20 := by
  unfold fewB at h
  simp only [Bool.and_eq_true, decide_eq_true_eq] at h
  rw [List.take_of_length_le (by omega)] at h
  exact ⟨h.2, fun f hf => shortB_sz (List.all_eq_true.1 h.1 f hf)⟩
def spn (lo hi : Int) : Bool := decide (lo ≤ hi) && decide (hi - lo < 6)
theorem rcOK_eq (s : Sg) (r : Rc) : rcOK s r = (inn r.nl 0 (s.far - 1) && (inn r.nh 0 (s.far - 1) && (spn r.nl r.nh && ((awayOK r.xl && awayOK r.y) && ((awayOK r.xh && awayOK r.y) && spn r.xl r.xh))))) := by
  unfold rcOK pcOK spOK spn inn awayOK
  rw [Bool.eq_iff_iff]
  simp only [Bool.and_eq_true, decide_eq_true_eq, inn]
  omega
theorem coOK_ref (l : List Fg) : coOK l = (decide (0 < l.length) && ((l.take 6).all fgOK && decide (l.length ≤ 6))) := by
  rw [coOK_eq, Bool.eq_iff_iff]
  simp only [Bool.and_eq_true, inn, decide_eq_true_eq, Bool.not_eq_true', List.any_eq_false, Bool.not_eq_true, Bool.not_eq_false', List.all_eq_true]
  constructor
  · rintro ⟨h1, h2⟩
    exact ⟨by omega, fun f hf => by have := h2 f (List.mem_of_mem_take hf); simpa using this, by omega⟩
  · rintro ⟨h1, h2, h3⟩
    rw [List.take_of_length_le h3] at h2
    exact ⟨by omega, fun f hf => by have := h2 f hf; simp [this]⟩
def askE (x : Sn) (is : Bool) : Int := if (snOK x && is) = true then 0 else 2
theorem snOK_eq (x : Sn) : snOK x = (stOK x.s && (coOK x.l && rcOK x.s x.r)) := by unfold snOK; rw [Bool.and_assoc]
def readB (n : Nat) (r : Rc) (f : Int) (p : Pc) : Bool := decide (f ≥ 0) && (decide (f < n) && (decide (p.near ≥ r.nl) && (decide (p.near ≤ r.nh) && (decide (p.x ≥ r.xl) && (decide (p.x ≤ r.xh) && decide (p.y = r.y))))))
def wholeB (s : Sg) (c : List (List UInt8)) : Bool := siOK s c && decide (cnt 63 c = 0)
theorem short_pure (l : List (List UInt8)) : APure Tryz.prog 23 [strs l] (B (shortB l)) := by
  refine apure_of (rs := [.tmp 2]) Tryz.func23 rfl rfl (Nat.le_of_ble_eq_true rfl) (by simp [AV.pureL, AV.pureB, AV.pureE, pureE_map]) (by first | rfl | (simp [AV.pureL, AV.pureB, AV.pureE, pureE_map])) fun e0 he0 => ?_
  refine W 2 ?_
  refine aw_loopk (ι := { k : Nat // k ≤ l.length ∧ k ≤ 20 ∧ ∀ i, (h : i < l.length) → i < k → decide (l[i].length ≤ 20) = true }) [0] (fun g => [(3, I g.1)]) (fun H g => H) (fun g => 20 - g.1) (⟨0, Nat.zero_le _, by omega, by omega⟩) ⟨J, J, trivial⟩ rfl ?_
  rintro ⟨k, hk, hok⟩
  dsimp only [keepS, St.put, sget, slotsOf, nn1, nn2, nn3, nn4, nn5, nn6, Nat.reduceBEq, Nat.reduceAdd, nn7, nn8]
  refine W 5 ?_
  refine sq_split 8 J (fun g2_4 => ?_) (fun g2_4 => ?_)
  · skip
    have g2_4' := g2_4
    try simp only [qq] at g2_4'
    have hkL : k < l.length := by omega
    refine W 3 ?_
    refine aw_cond J (fun c_11 => ?_) (fun c_11 => ?_)
    · skip
      have c_11' := c_11
      try simp only [qq] at c_11'
      refine W 6 ?_
      refine iff (fun c_19 c_19' => ?_) (fun c_19 c_19' => ?_)
      · skip
        refine W 1 ?_
        exact retQ_pure (v := .raw _) rfl rfl (Less.eq (by rw [shortB, allT_no (i := k) (n := 20) hkL (by omega) (by simp only [decide_eq_false_iff_not]; omega)]; rfl))
      · skip
        refine V 3 ?_
        refine sq_nil ?_
        have hgood : decide (l[k].length ≤ 20) = true := by simp only [decide_eq_true_eq]; omega
        exact ⟨⟨k + 1, by omega, by omega, fun i h hi => (by by_cases e : i = k; (subst e; exact hgood); exact hok.2 i h (by omega))⟩, by simp only; omega, Sub.slots ⟨J, J, trivial⟩⟩
    · skip
      have c_11' := c_11
      try simp only [qq] at c_11'
      refine W 4 ?_
      exact retQ_pure (v := .raw _) rfl rfl (Less.eq (by rw [shortB, allT_yes (n := 20) (fun i h hi => hok.2 i h (by omega))]; simp; omega))
  · skip
    have g2_4' := g2_4
    try simp only [qq] at g2_4'
    refine W 8 ?_
    exact retQ_pure (v := .raw _) rfl rfl (Less.eq (by rw [shortB, allT_yes (n := 20) (fun i h hi => hok.2 i h (by omega))]; simp; omega))
theorem few_pure (l : List Fg) : APure Tryz.prog 34 [figs l] (B (fewB l)) := by
 refine apure_of (rs := [.tmp 2]) Tryz.func34 rfl rfl (Nat.le_of_ble_eq_true rfl) (by simp [AV.pureL, AV.pureB, AV.pureE, pureE_map]) (by first | rfl | (simp [AV.pureL, AV.pureB, AV.pureE, pureE_map])) fun e0 he0 => ?_
 refine W 2 ?_
 refine aw_loopk (ι := { k : Nat // k ≤ l.length ∧ k ≤ 9 ∧ ∀ i, (h : i < l.length) → i < k → shortB l[i] = true }) [0] (fun g => [(3, I g.1)]) (fun H g => H) (fun g => 9 - g.1) (⟨0, Nat.zero_le _, by omega, by omega⟩) ⟨J, J, trivial⟩ rfl ?_
 rintro ⟨k, hk, hok⟩
 dsimp only [keepS, St.put, sget, slotsOf, nn1, nn2, nn3, nn4, nn5, nn6, Nat.reduceBEq, Nat.reduceAdd, nn7, nn8]
 refine W 5 ?_
 refine sq_split 8 J (fun g2_4 => ?_) (fun g2_4 => ?_)
 ·
  have g2_4' := g2_4
  try simp only [qq] at g2_4'
  have hkL : k < l.length := by omega
  refine W 3 ?_
  refine aw_cond J (fun c_11 => ?_) (fun c_11 => ?_)
  ·
   have c_11' := c_11
   try simp only [qq] at c_11'
   refine W 5 ?_
   refine cl A (short_pure _) ?_
   refine W 1 ?_
   refine aw_cond J (fun c_20 => ?_) (fun c_20 => ?_)
   ·
    have c_20' := c_20
    try simp only [qq] at c_20'
    refine W 1 ?_
    exact retQ_pure (v := .raw _) rfl rfl (Less.eq (by rw [fewB, allT_no (i := k) (n := 9) hkL (by omega) (by simpa using c_20)]; rfl))
   have c_20' := c_20
   try simp only [qq] at c_20'
   refine V 3 ?_
   refine sq_nil ?_
   have hgood : shortB l[k] = true := by simpa using c_20
   exact ⟨⟨k + 1, by omega, by omega, fun i h hi => (by by_cases e : i = k; (subst e; exact hgood); exact hok.2 i h (by omega))⟩, by simp only; omega, Sub.slots ⟨J, J, trivial⟩⟩
  have c_11' := c_11
  try simp only [qq] at c_11'
  refine W 4 ?_
  exact retQ_pure (v := .raw _) rfl rfl (Less.eq (by rw [fewB, allT_yes (n := 9) (fun i h hi => hok.2 i h (by omega))]; simp; omega))
 have g2_4' := g2_4
 try simp only [qq] at g2_4'
 refine W 8 ?_
 exact retQ_pure (v := .raw _) rfl rfl (Less.eq (by rw [fewB, allT_yes (n := 9) (fun i h hi => hok.2 i h (by omega))]; simp; omega))
theorem rfigures_pure (l : List Fg) : APure Tryz.prog 85 [figs l] (B ((l.take 6).all fgOK && decide (l.length ≤ 6))) := by
 refine apure_of (rs := [.tmp 2]) Tryz.func85 rfl rfl (Nat.le_of_ble_eq_true rfl) (by simp [AV.pureL, AV.pureB, AV.pureE, pureE_map]) (by first | rfl | (simp [AV.pureL, AV.pureB, AV.pureE, pureE_map])) fun e0 he0 => ?_
 refine W 2 ?_
 refine aw_loopk (ι := { k : Nat // k ≤ l.length ∧ k ≤ 6 ∧ ∀ i, (h : i < l.length) → i < k → fgOK l[i] = true }) [0] (fun g => [(3, I g.1)]) (fun H g => H) (fun g => 6 - g.1) (⟨0, Nat.zero_le _, by omega, by omega⟩) ⟨J, J, trivial⟩ rfl ?_
 rintro ⟨k, hk, hok⟩
 dsimp only [keepS, St.put, sget, slotsOf, nn1, nn2, nn3, nn4, nn5, nn6, Nat.reduceBEq, Nat.reduceAdd, nn7, nn8]
 refine W 5 ?_
 refine sq_split 8 J (fun g2_4 => ?_) (fun g2_4 => ?_)
 ·
  have g2_4' := g2_4
  try simp only [qq] at g2_4'
  have hkL : k < l.length := by omega
  refine W 3 ?_
  refine aw_cond J (fun c_11 => ?_) (fun c_11 => ?_)
  ·
   have c_11' := c_11
   try simp only [qq] at c_11'
   refine W 4 ?_
   refine cl A (rfigure_pure _) ?_
   refine W 1 ?_
   refine aw_cond J (fun c_19 => ?_) (fun c_19 => ?_)
   ·
    have c_19' := c_19
    try simp only [qq] at c_19'
    refine W 1 ?_
    exact retQ_pure (v := .raw _) rfl rfl (Less.eq (by rw [allT_no (i := k) (n := 6) hkL (by omega) (by simpa using c_19)]; rfl))
   have c_19' := c_19
   try simp only [qq] at c_19'
   refine V 3 ?_
   refine sq_nil ?_
   have hgood : fgOK l[k] = true := by simpa using c_19
   exact ⟨⟨k + 1, by omega, by omega, fun i h hi => (by by_cases e : i = k; (subst e; exact hgood); exact hok.2 i h (by omega))⟩, by simp only; omega, Sub.slots ⟨J, J, trivial⟩⟩
  have c_11' := c_11
  try simp only [qq] at c_11'
  refine W 4 ?_
  exact retQ_pure (v := .raw _) rfl rfl (Less.eq (by rw [allT_yes (n := 6) (fun i h hi => hok.2 i h (by omega))]; simp; omega))
 have g2_4' := g2_4
 try simp only [qq] at g2_4'
 refine W 8 ?_
 exact retQ_pure (v := .raw _) rfl rfl (Less.eq (by rw [allT_yes (n := 6) (fun i h hi => hok.2 i h (by omega))]; simp; omega))
theorem rcompany_pure (l : List Fg) : APure Tryz.prog 111 [figs l] (B (coOK l)) := by
 refine apure_of (rs := [.tmp 2]) Tryz.func111 rfl rfl (Nat.le_of_ble_eq_true rfl) (by simp [AV.pureL, AV.pureB, AV.pureE, pureE_map]) (by first | rfl | (simp [AV.pureL, AV.pureB, AV.pureE, pureE_map])) fun e0 he0 => ?_
 refine W 5 ?_
 refine sq_split 6 J (fun g1_3 => ?_) (fun g1_3 => ?_)
 ·
  have g1_3' := g1_3
  try simp only [qq] at g1_3'
  refine W 1 ?_
  refine cy A (rfigures_pure l) ?_
  refine W 2 ?_
  exact retQ_pure (v := .raw _) rfl rfl (Less.eq (by rw [coOK_ref]; simp [*] <;> (intros; omega)))
 have g1_3' := g1_3
 try simp only [qq] at g1_3'
 refine W 4 ?_
 exact retQ_pure (v := .raw _) rfl rfl (Less.eq (by rw [coOK_ref]; simp [*] <;> (intros; omega)))
theorem rspan_pure (a b : Int) (h1 : -1000 ≤ a ∧ a ≤ 1000) (h2 : -1000 ≤ b ∧ b ≤ 1000) : APure Tryz.prog 154 [.agg [I a, I b]] (B (spn a b)) := by
 refine apure_of (rs := [.tmp 2]) Tryz.func154 rfl rfl (Nat.le_of_ble_eq_true rfl) (by simp [AV.pureL, AV.pureB, AV.pureE, pureE_map]) (by first | rfl | (simp [AV.pureL, AV.pureB, AV.pureE, pureE_map])) fun e0 he0 => ?_
 refine W 8 ?_
 refine sq_split 8 J (fun g1_5 => ?_) (fun g1_5 => ?_)
 ·
  have g1_5' := g1_5
  try simp only [qq] at g1_5'
  refine W 8 ?_
  exact retQ_pure (v := .raw _) rfl rfl (Less.eq (by unfold spn; simp [*]))
 have g1_5' := g1_5
 try simp only [qq] at g1_5'
 refine W 8 ?_
 exact retQ_pure (v := .raw _) rfl rfl (Less.eq (by unfold spn; simp [*]))
theorem rreach_pure (s : Sg) (r : Rc) (h : 2 ≤ s.far ∧ s.far ≤ 40) : APure Tryz.prog 112 [stA s, rcA r] (B (rcOK s r)) := by
 refine apure_of (rs := [.tmp 4]) Tryz.func112 rfl rfl (Nat.le_of_ble_eq_true rfl) (by simp [AV.pureL, AV.pureB, AV.pureE, pureE_map]) (by first | rfl | (simp [AV.pureL, AV.pureB, AV.pureE, pureE_map])) fun e0 he0 => ?_
 refine W 9 ?_
 refine cl A (rin_pure _ _ _) ?_
 refine W 1 ?_
 refine sq_split 12 J (fun g1_7 => ?_) (fun g1_7 => ?_)
 ·
  have g1_7' := g1_7
  try simp only [qq] at g1_7'
  refine W 6 ?_
  refine cy A (rin_pure _ _ _) ?_
  refine W 2 ?_
  refine sq_split 21 J (fun g1_16 => ?_) (fun g1_16 => ?_)
  ·
   have g1_16' := g1_16
   try simp only [qq] at g1_16'
   refine W 2 ?_
   refine cy A (rspan_pure r.nl r.nh (by have := g1_7; unfold inn at this; simp only [Bool.and_eq_true, decide_eq_true_eq] at this; omega) (by have := g1_16; unfold inn at this; simp only [Bool.and_eq_true, decide_eq_true_eq] at this; omega)) ?_
   refine W 2 ?_
   refine sq_split 26 J (fun g1_21 => ?_) (fun g1_21 => ?_)
   ·
    have g1_21' := g1_21
    try simp only [qq] at g1_21'
    refine W 5 ?_
    refine cy A (rat_pure _ _) ?_
    refine W 2 ?_
    refine sq_split 34 J (fun g1_29 => ?_) (fun g1_29 => ?_)
    ·
     have g1_29' := g1_29
     try simp only [qq] at g1_29'
     refine W 5 ?_
     refine cy A (rat_pure _ _) ?_
     refine W 2 ?_
     refine sq_split 42 J (fun g1_37 => ?_) (fun g1_37 => ?_)
     ·
      have g1_37' := g1_37
      try simp only [qq] at g1_37'
      refine W 2 ?_
      refine cy A (rspan_pure r.xl r.xh (by have := g1_29; unfold awayOK inn at this; simp only [Bool.and_eq_true, decide_eq_true_eq] at this; omega) (by have := g1_37; unfold awayOK inn at this; simp only [Bool.and_eq_true, decide_eq_true_eq] at this; omega)) ?_
      refine W 2 ?_
      exact retQ_pure (v := .raw _) rfl rfl (Less.eq (by rw [rcOK_eq]; first | (simp [*]; done) | (cases hq : awayOK r.xh <;> cases hq2 : awayOK r.y <;> simp_all)))
     have g1_37' := g1_37
     try simp only [qq] at g1_37'
     refine W 5 ?_
     exact retQ_pure (v := .raw _) rfl rfl (Less.eq (by rw [rcOK_eq]; first | (simp [*]; done) | (cases hq : awayOK r.xh <;> cases hq2 : awayOK r.y <;> simp_all)))
    have g1_29' := g1_29
    try simp only [qq] at g1_29'
    refine W 13 ?_
    exact retQ_pure (v := .raw _) rfl rfl (Less.eq (by rw [rcOK_eq]; first | (simp [*]; done) | (cases hq : awayOK r.xh <;> cases hq2 : awayOK r.y <;> simp_all)))
   have g1_21' := g1_21
   try simp only [qq] at g1_21'
   refine W 21 ?_
   exact retQ_pure (v := .raw _) rfl rfl (Less.eq (by rw [rcOK_eq]; first | (simp [*]; done) | (cases hq : awayOK r.xh <;> cases hq2 : awayOK r.y <;> simp_all)))
  have g1_16' := g1_16
  try simp only [qq] at g1_16'
  refine W 26 ?_
  exact retQ_pure (v := .raw _) rfl rfl (Less.eq (by rw [rcOK_eq]; first | (simp [*]; done) | (cases hq : awayOK r.xh <;> cases hq2 : awayOK r.y <;> simp_all)))
 have g1_7' := g1_7
 try simp only [qq] at g1_7'
 refine W 35 ?_
 exact retQ_pure (v := .raw _) rfl rfl (Less.eq (by rw [rcOK_eq]; first | (simp [*]; done) | (cases hq : awayOK r.xh <;> cases hq2 : awayOK r.y <;> simp_all)))
theorem asked_pure (x : Sn) (is : Bool) : APure Tryz.prog 36 [stA x.s, figs x.l, rcA x.r, B is] (I (askE x is)) := by
 refine apure_of (rs := [.tmp 8]) Tryz.func36 rfl rfl (Nat.le_of_ble_eq_true rfl) (by simp [AV.pureL, AV.pureB, AV.pureE, pureE_map]) (by first | rfl | (simp [AV.pureL, AV.pureB, AV.pureE, pureE_map])) fun e0 he0 => ?_
 refine W 4 ?_
 refine cl A (rstage_pure x.s) ?_
 refine W 2 ?_
 refine sq_split 12 J (fun g1_3 => ?_) (fun g1_3 => ?_)
 ·
  have g1_3' := g1_3
  try simp only [qq] at g1_3'
  refine W 16 ?_
  exact retQ_pure (v := .raw _) rfl rfl (Less.eq (by unfold askE; rw [snOK_eq]; simp_all))
 have g1_3' := g1_3
 try simp only [qq] at g1_3'
 refine W 1 ?_
 refine cy A (rcompany_pure x.l) ?_
 refine W 3 ?_
 refine sq_split 17 J (fun g1_8 => ?_) (fun g1_8 => ?_)
 ·
  have g1_8' := g1_8
  try simp only [qq] at g1_8'
  refine W 11 ?_
  exact retQ_pure (v := .raw _) rfl rfl (Less.eq (by unfold askE; rw [snOK_eq]; simp_all))
 have g1_8' := g1_8
 try simp only [qq] at g1_8'
 refine W 2 ?_
 refine cy A (rreach_pure x.s x.r (stOK_iff.1 (by simpa using g1_3)).2.2.1) ?_
 refine W 3 ?_
 refine sq_split 23 J (fun g1_14 => ?_) (fun g1_14 => ?_)
 ·
  have g1_14' := g1_14
  try simp only [qq] at g1_14'
  refine W 5 ?_
  exact retQ_pure (v := .raw _) rfl rfl (Less.eq (by unfold askE; rw [snOK_eq]; simp_all))
 have g1_14' := g1_14
 try simp only [qq] at g1_14'
 refine W 3 ?_
 refine aw_cond J (fun c_26 => ?_) (fun c_26 => ?_)
 ·
  have c_26' := c_26
  try simp only [qq] at c_26'
  refine W 1 ?_
  exact retQ_pure (v := .raw _) rfl rfl (Less.eq (by unfold askE; rw [snOK_eq]; simp_all))
 have c_26' := c_26
 try simp only [qq] at c_26'
 refine W 1 ?_
 exact retQ_pure (v := .raw _) rfl rfl (Less.eq (by unfold askE; rw [snOK_eq]; simp_all))
theorem rsight_pure (s : Sg) (l : List (List UInt8)) (hs : shp l) : APure Tryz.prog 37 [stA s, strs l] (B (siOK s l)) := by
 refine apure_of (rs := [.tmp 4]) Tryz.func37 rfl rfl (Nat.le_of_ble_eq_true rfl) (by simp [AV.pureL, AV.pureB, AV.pureE, pureE_map]) (by first | rfl | (simp [AV.pureL, AV.pureB, AV.pureE, pureE_map])) fun e0 he0 => ?_
 refine W 7 ?_
 refine ifn (fun c_12 c_12' => ?_) (fun c_12 c_12' => ?_)
 ·
  refine W 1 ?_
  exact retQ_pure (v := .raw _) rfl rfl (Less.eq (by unfold siOK; rw [decide_eq_false c_12']; rfl))
 have hlen : (l.length : Int) = s.high := by omega
 refine W 1 ?_
 refine aw_loopk (ι := { m : Nat // m ≤ l.length ∧ ∀ i, (h : i < l.length) → i < m → siRow s.wide l[i] = true }) [1, 2] (fun g => [(5, I g.1)]) (fun H g => H) (fun g => l.length - g.1) (⟨0, Nat.zero_le _, by omega⟩) ⟨J, J, J, trivial⟩ rfl ?_
 rintro ⟨m, hm, hok⟩
 dsimp only [keepS, St.put, sget, slotsOf, nn1, nn2, nn3, nn4, nn5, nn6, Nat.reduceBEq, Nat.reduceAdd, nn7, nn8]
 have hs1 := hs.1
 refine W 4 ?_
 refine iff (fun c_16 c_16' => ?_) (fun c_16 c_16' => ?_)
 ·
  have hmL : m < l.length := by omega
  have hrl := hs.2 _ (List.getElem_mem hmL)
  refine W 0 ?_
  refine aw_draw 8 mo (by kernel_rfl) ?_
  refine WD 8 ?_
  refine W 0 ?_
  refine ifn (fun c_26 c_26' => ?_) (fun c_26 c_26' => ?_)
  ·
   refine W 1 ?_
   exact retQ_pure (v := .raw _) rfl rfl (Less.eq (by rw [siOK_bad hmL (by rw [siRow_eq, decide_eq_false (by simpa using c_26')]; rfl)]))
  refine W 1 ?_
  refine aw_loopk (ι := { k : Nat // k ≤ l[m].length ∧ ∀ i, (h : i < l[m].length) → i < k → sBad l[m][i] = false }) [1, 2, 5] (fun g => [(6, I g.1)]) (fun H g => H) (fun g => l[m].length - g.1) (⟨0, Nat.zero_le _, by omega⟩) ⟨J, J, J, J, trivial⟩ rfl ?_
  rintro ⟨k, hk, hok2⟩
  dsimp only [keepS, St.put, sget, slotsOf, nn1, nn2, nn3, nn4, nn5, nn6, Nat.reduceBEq, Nat.reduceAdd, nn7, nn8]
  refine W 7 ?_
  refine iff (fun c_33 c_33' => ?_) (fun c_33 c_33' => ?_)
  ·
   have hkL : k < l[m].length := by omega
   refine W 10 ?_
   refine sq_split 44 J (fun g12_2 => ?_) (fun g12_2 => ?_)
   ·
    have g12_2' := g12_2
    try simp only [qq] at g12_2'
    refine W 4 ?_
    refine sq_split 48 J (fun g12_6 => ?_) (fun g12_6 => ?_)
    ·
     have g12_6' := g12_6
     try simp only [qq] at g12_6'
     refine W 4 ?_
     refine sq_split 52 J (fun g12_10 => ?_) (fun g12_10 => ?_)
     ·
      have g12_10' := g12_10
      try simp only [qq] at g12_10'
      refine W 3 ?_
      refine aw_cond J (fun c_55 => ?_) (fun c_55 => ?_)
      ·
       have c_55' := c_55
       try simp only [qq] at c_55'
       refine W 1 ?_
       exact retQ_pure (v := .raw _) rfl rfl (Less.eq (by rw [siOK_bad hmL (by rw [siRow_eq, List.any_eq_true.2 ⟨_, List.getElem_mem hkL, by rw [sBad_eq]; simp only [dec35n, dec43n, dec46n, dec63n] at *; simp_all⟩]; simp)]))
      have c_55' := c_55
      try simp only [qq] at c_55'
      refine V 3 ?_
      refine sq_nil ?_
      have hgood2 : sBad l[m][k] = false := by rw [sBad_eq]; simp only [dec35n, dec43n, dec46n, dec63n] at *; simp_all
      exact ⟨⟨k + 1, by omega, fun i h hi => (by by_cases e : i = k; (subst e; exact hgood2); exact hok2 i h (by omega))⟩, by simp only; omega, Sub.slots ⟨J, J, J, J, trivial⟩⟩
     have g12_10' := g12_10
     try simp only [qq] at g12_10'
     refine V 7 ?_
     refine sq_nil ?_
     have hgood2 : sBad l[m][k] = false := by rw [sBad_eq]; simp only [dec35n, dec43n, dec46n, dec63n] at *; simp_all
     exact ⟨⟨k + 1, by omega, fun i h hi => (by by_cases e : i = k; (subst e; exact hgood2); exact hok2 i h (by omega))⟩, by simp only; omega, Sub.slots ⟨J, J, J, J, trivial⟩⟩
    have g12_6' := g12_6
    try simp only [qq] at g12_6'
    refine V 11 ?_
    refine sq_nil ?_
    have hgood2 : sBad l[m][k] = false := by rw [sBad_eq]; simp only [dec35n, dec43n, dec46n, dec63n] at *; simp_all
    exact ⟨⟨k + 1, by omega, fun i h hi => (by by_cases e : i = k; (subst e; exact hgood2); exact hok2 i h (by omega))⟩, by simp only; omega, Sub.slots ⟨J, J, J, J, trivial⟩⟩
   have g12_2' := g12_2
   try simp only [qq] at g12_2'
   refine V 15 ?_
   refine sq_nil ?_
   have hgood2 : sBad l[m][k] = false := by rw [sBad_eq]; simp only [dec35n, dec43n, dec46n, dec63n] at *; simp_all
   exact ⟨⟨k + 1, by omega, fun i h hi => (by by_cases e : i = k; (subst e; exact hgood2); exact hok2 i h (by omega))⟩, by simp only; omega, Sub.slots ⟨J, J, J, J, trivial⟩⟩
  refine V 3 ?_
  refine sq_nil ?_
  have hgood : siRow s.wide l[m] = true := by rw [siRow_eq, decide_eq_true (by simpa using c_26'), List.any_eq_false.2 (fun q hq => by obtain ⟨i, hi, rfl⟩ := List.getElem_of_mem hq; simp [hok2 i hi (by omega)])]; rfl
  exact ⟨⟨m + 1, by omega, fun i h hi => (by by_cases e : i = m; (subst e; exact hgood); exact hok i h (by omega))⟩, by simp only; omega, Sub.slots ⟨J, J, J, trivial⟩⟩
 refine W 1 ?_
 exact retQ_pure (v := .raw _) rfl rfl (Less.eq (by rw [siOK_end hlen (fun i hi => hok i hi (by omega))]))
end Go.Proofs.YtmbknoaneglilaaGreatDoor
namespace Go.Proofs.YtmbknoaneglilaaGreatDoor
open Go Go.Ab Ni Ol
instance en99 : EnT Tryz.prog 99 := ⟨Ent.of Tryz.func99 (by kernel_rfl) rfl⟩
def cntR (ch : UInt8) (r : List UInt8) (k : Nat) : Int := ((r.take k).count ch : Int)
theorem cntR_succ {ch : UInt8} {r : List UInt8} {k : Nat} (h : k < r.length) : cntR ch r (k + 1) = cntR ch r k + (if r[k] = ch then 1 else 0) := by
  unfold cntR; rw [List.take_succ_eq_append_getElem h, List.count_append]
  by_cases e : r[k] = ch
  · rw [if_pos e, e]; simp
  · rw [if_neg e]; simp [List.count_singleton, e]
theorem cntR_bd (ch : UInt8) (r : List UInt8) (k : Nat) : 0 ≤ cntR ch r k ∧ cntR ch r k ≤ k := by
  unfold cntR
  have h1 := List.count_le_length (a := ch) (l := r.take k)
  rw [List.length_take] at h1
  omega
theorem cntR_all (ch : UInt8) (r : List UInt8) : cntR ch r r.length = (r.count ch : Int) := by unfold cntR; rw [List.take_length]
def beyE (num den : Int) : Int := if num.tdiv den * den > num then num.tdiv den - 1 else num.tdiv den
theorem rcount_pure (l : List (List UInt8)) (ch : UInt8) (hl : l.length ≤ 1000) (hr : ∀ r ∈ l, r.length ≤ 1000) : APure Tryz.prog 41 [strs l, C ch] (I (cnt ch l)) := by
  refine apure_of (rs := [.tmp 4]) Tryz.func41 rfl rfl (Nat.le_of_ble_eq_true rfl) (by simp [AV.pureL, AV.pureB, AV.pureE, pureE_map]) (by first | rfl | (simp [AV.pureL, AV.pureB, AV.pureE, pureE_map])) fun e0 he0 => ?_
  refine W 3 ?_
  refine aw_loopk (ι := { m : Nat // m ≤ l.length }) [0, 1] (fun g => [(5, I (cnt ch (l.take g.1))), (6, I g.1)]) (fun H g => H) (fun g => l.length - g.1) (⟨0, Nat.zero_le _⟩) ⟨J, J, J, J, trivial⟩ rfl ?_
  rintro ⟨m, hm⟩
  dsimp only [keepS, St.put, sget, slotsOf, nn1, nn2, nn3, nn4, nn5, nn6, Nat.reduceBEq, Nat.reduceAdd, nn7, nn8]
  have hb := cnt_bd ch (l.take m) 1000 (fun r h => hr r (List.mem_of_mem_take h))
  have hb2 : ((l.take m).length : Int) * (1000 : Nat) ≤ 1000000 := by rw [List.length_take]; omega
  refine W 4 ?_
  refine iff (fun c_11 c_11' => ?_) (fun c_11 c_11' => ?_)
  · skip
    have hmL : m < l.length := by omega
    have hrl := hr _ (List.getElem_mem hmL)
    refine W 1 ?_
    refine aw_loopk (ι := { k : Nat // k ≤ l[m].length }) [0, 1, 6] (fun g => [(5, I (cnt ch (l.take m) + cntR ch l[m] g.1)), (7, I g.1)]) (fun H g => H) (fun g => l[m].length - g.1) (⟨0, Nat.zero_le _⟩) ⟨(by exact less_int (by simp [cntR])), J, J, J, J, trivial⟩ rfl ?_
    rintro ⟨k, hk⟩
    dsimp only [keepS, St.put, sget, slotsOf, nn1, nn2, nn3, nn4, nn5, nn6, Nat.reduceBEq, Nat.reduceAdd, nn7, nn8]
    have hbr := cntR_bd ch l[m] k
    refine W 7 ?_
    refine iff (fun c_20 c_20' => ?_) (fun c_20 c_20' => ?_)
    · skip
      have hkL : k < l[m].length := by omega
      refine W 8 ?_
      refine iff (fun c_30 c_30' => ?_) (fun c_30 c_30' => ?_)
      · skip
        have eR : cntR ch l[m] (k + 1) = cntR ch l[m] k + 1 := by rw [cntR_succ hkL, if_pos (UInt8.toNat_inj.1 (by omega))]
        refine W 6 ?_
        exact ⟨⟨k + 1, by omega⟩, by simp only; omega, Sub.slots ⟨(by exact less_int (by rw [eR]; omega)), J, J, J, J, trivial⟩⟩
      · skip
        have eR : cntR ch l[m] (k + 1) = cntR ch l[m] k + 0 := by rw [cntR_succ hkL, if_neg (fun h => c_30' (by rw [h]))]
        refine W 3 ?_
        exact ⟨⟨k + 1, by omega⟩, by simp only; omega, Sub.slots ⟨(by exact less_int (by rw [eR]; omega)), J, J, J, J, trivial⟩⟩
    · skip
      obtain rfl : k = l[m].length := by omega
      have eC : cnt ch (l.take m) + cntR ch l[m] l[m].length = cnt ch (l.take (m + 1)) := by rw [cntR_all, cnt_take hmL]
      refine W 3 ?_
      exact ⟨⟨m + 1, by omega⟩, by simp only; omega, Sub.slots ⟨(by exact less_int eC), J, J, J, trivial⟩⟩
  · skip
    obtain rfl : m = l.length := by omega
    refine W 2 ?_
    exact retQ_pure (v := .raw _) rfl rfl (Less.eq (by rw [List.take_length]))
theorem ropposed_pure (a b : UInt8) : APure Tryz.prog 72 [C a, C b] (B (opp a b)) := by
 refine apure_of (rs := [.tmp 4]) Tryz.func72 rfl rfl (Nat.le_of_ble_eq_true rfl) (by simp [AV.pureL, AV.pureB, AV.pureE, pureE_map]) (by first | rfl | (simp [AV.pureL, AV.pureB, AV.pureE, pureE_map])) fun e0 he0 => ?_
 refine W 4 ?_
 refine sq_split 7 J (fun g1_2 => ?_) (fun g1_2 => ?_)
 ·
  have g1_2' := g1_2
  try simp only [qq] at g1_2'
  refine W 4 ?_
  refine sq_split 11 J (fun g1_6 => ?_) (fun g1_6 => ?_)
  ·
   have g1_6' := g1_6
   try simp only [qq] at g1_6'
   refine W 8 ?_
   exact retQ_pure (v := .raw _) rfl rfl (Less.eq (by unfold opp; simp only [dec35, dec46] at *; simp [*]))
  have g1_6' := g1_6
  try simp only [qq] at g1_6'
  refine W 3 ?_
  refine sq_split 14 J (fun g1_9 => ?_) (fun g1_9 => ?_)
  ·
   have g1_9' := g1_9
   try simp only [qq] at g1_9'
   refine W 5 ?_
   exact retQ_pure (v := .raw _) rfl rfl (Less.eq (by unfold opp; simp only [dec35, dec46] at *; simp [*]))
  have g1_9' := g1_9
  try simp only [qq] at g1_9'
  refine W 5 ?_
  exact retQ_pure (v := .raw _) rfl rfl (Less.eq (by unfold opp; simp only [dec35, dec46] at *; simp [*]))
 have g1_2' := g1_2
 try simp only [qq] at g1_2'
 refine W 7 ?_
 refine sq_split 14 J (fun g1_9 => ?_) (fun g1_9 => ?_)
 ·
  have g1_9' := g1_9
  try simp only [qq] at g1_9'
  refine W 5 ?_
  exact retQ_pure (v := .raw _) rfl rfl (Less.eq (by unfold opp; simp only [dec35, dec46] at *; simp [*]))
 have g1_9' := g1_9
 try simp only [qq] at g1_9'
 refine W 5 ?_
 exact retQ_pure (v := .raw _) rfl rfl (Less.eq (by unfold opp; simp only [dec35, dec46] at *; simp [*]))
theorem ragree_pure {a b : List (List UInt8)} (hf : Fit a b) : APure Tryz.prog 50 [strs a, strs b] (B (agree a b)) := by
 refine apure_of (rs := [.tmp 4]) Tryz.func50 rfl rfl (Nat.le_of_ble_eq_true rfl) (by simp [AV.pureL, AV.pureB, AV.pureE, pureE_map]) (by first | rfl | (simp [AV.pureL, AV.pureB, AV.pureE, pureE_map])) fun e0 he0 => ?_
 refine W 2 ?_
 refine aw_loopk (ι := { m : Nat // m ≤ a.length ∧ ∀ i, i < m → agRow a b i }) [0, 1] (fun g => [(5, I g.1)]) (fun H g => H) (fun g => a.length - g.1) (⟨0, Nat.zero_le _, by omega⟩) ⟨J, J, J, trivial⟩ rfl ?_
 rintro ⟨m, hm, hok⟩
 dsimp only [keepS, St.put, sget, slotsOf, nn1, nn2, nn3, nn4, nn5, nn6, Nat.reduceBEq, Nat.reduceAdd, nn7, nn8]
 have h1 := hf.len
 have h2 := hf.many
 refine W 4 ?_
 refine iff (fun c_10 c_10' => ?_) (fun c_10 c_10' => ?_)
 ·
  have hma : m < a.length := by omega
  have h3 := hf.row m hma (by omega)
  have h4 := hf.wide m (by omega)
  refine W 1 ?_
  refine aw_loopk (ι := { k : Nat // k ≤ a[m].length ∧ ∀ i, i < k → (p3 : i < a[m].length) → (p4 : i < b[m].length) → opp a[m][i] b[m][i] = false }) [0, 1, 5] (fun g => [(6, I g.1)]) (fun H g => H) (fun g => a[m].length - g.1) (⟨0, Nat.zero_le _, by omega⟩) ⟨J, J, J, J, trivial⟩ rfl ?_
  rintro ⟨k, hk, hin⟩
  dsimp only [keepS, St.put, sget, slotsOf, nn1, nn2, nn3, nn4, nn5, nn6, Nat.reduceBEq, Nat.reduceAdd, nn7, nn8]
  refine W 7 ?_
  refine iff (fun c_19 c_19' => ?_) (fun c_19 c_19' => ?_)
  ·
   have hkL : k < a[m].length := by omega
   refine W 0 ?_
   refine aw_draw 13 mo (by kernel_rfl) ?_
   refine WD 12 ?_
   refine dcl A (ropposed_pure _ _) ?_
   refine dr_end ?_
   refine W 0 ?_
   refine aw_cond J (fun c_34 => ?_) (fun c_34 => ?_)
   ·
    have c_34' := c_34
    try simp only [qq] at c_34'
    refine W 1 ?_
    exact retQ_pure (v := .raw _) rfl rfl (Less.eq (by rw [agree_no (m := m) (k := k) hma (by omega) (by omega) (by omega) (by simpa using c_34)]))
   have c_34' := c_34
   try simp only [qq] at c_34'
   refine W 3 ?_
   exact ⟨⟨k + 1, by omega, fun i hi p3 p4 => (by by_cases e : i = k; (subst e; simpa using c_34); exact hin i (by omega) p3 p4)⟩, by simp only; omega, Sub.slots ⟨J, J, J, J, trivial⟩⟩
  refine V 3 ?_
  refine sq_nil ?_
  have hrow : agRow a b m := fun i p1 p2 p3 p4 => hin i (by omega) p3 p4
  exact ⟨⟨m + 1, by omega, fun i hi => (by by_cases e : i = m; (subst e; exact hrow); exact hok i (by omega))⟩, by simp only; omega, Sub.slots ⟨J, J, J, trivial⟩⟩
 refine W 1 ?_
 exact retQ_pure (v := .raw _) rfl rfl (Less.eq (by rw [agree_yes fun i => (by by_cases e : i < a.length; exact hok i (by omega); exact fun k p1 => absurd p1 e)]))
theorem whole_pure (s : Sg) (c : List (List UInt8)) (hc : shp c) : APure Tryz.prog 29 [stA s, strs c] (B (wholeB s c)) := by
 refine apure_of (rs := [.tmp 4]) Tryz.func29 rfl rfl (Nat.le_of_ble_eq_true rfl) (by simp [AV.pureL, AV.pureB, AV.pureE, pureE_map]) (by first | rfl | (simp [AV.pureL, AV.pureB, AV.pureE, pureE_map])) fun e0 he0 => ?_
 refine W 4 ?_
 refine cl A (rsight_pure s c hc) ?_
 refine W 1 ?_
 refine sq_split 8 J (fun g1_3 => ?_) (fun g1_3 => ?_)
 ·
  have g1_3' := g1_3
  try simp only [qq] at g1_3'
  refine W 1 ?_
  refine cy A (rcount_pure c 63 hc.1 hc.2) ?_
  refine W 3 ?_
  exact retQ_pure (v := .raw _) rfl rfl (Less.eq (by unfold wholeB; simp [*]))
 have g1_3' := g1_3
 try simp only [qq] at g1_3'
 refine W 5 ?_
 exact retQ_pure (v := .raw _) rfl rfl (Less.eq (by unfold wholeB; simp [*]))
theorem reading_pure (l : List Fg) (r : Rc) (f : Int) (p : Pc) : APure Tryz.prog 49 [figs l, rcA r, .agg [I f, I p.near, I p.x, I p.y]] (B (readB l.length r f p)) := by
 refine apure_of (rs := [.tmp 6]) Tryz.func49 rfl rfl (Nat.le_of_ble_eq_true rfl) (by simp [AV.pureL, AV.pureB, AV.pureE, pureE_map]) (by first | rfl | (simp [AV.pureL, AV.pureB, AV.pureE, pureE_map])) fun e0 he0 => ?_
 refine W 11 ?_
 refine sq_split 13 J (fun g2_3 => ?_) (fun g2_3 => ?_)
 ·
  have g2_3' := g2_3
  try simp only [qq] at g2_3'
  refine W 7 ?_
  refine sq_split 20 J (fun g2_10 => ?_) (fun g2_10 => ?_)
  ·
   have g2_10' := g2_10
   try simp only [qq] at g2_10'
   refine W 8 ?_
   refine sq_split 28 J (fun g2_18 => ?_) (fun g2_18 => ?_)
   ·
    have g2_18' := g2_18
    try simp only [qq] at g2_18'
    refine W 8 ?_
    refine sq_split 36 J (fun g2_26 => ?_) (fun g2_26 => ?_)
    ·
     have g2_26' := g2_26
     try simp only [qq] at g2_26'
     refine W 8 ?_
     refine sq_split 44 J (fun g2_34 => ?_) (fun g2_34 => ?_)
     ·
      have g2_34' := g2_34
      try simp only [qq] at g2_34'
      refine W 8 ?_
      refine sq_split 52 J (fun g2_42 => ?_) (fun g2_42 => ?_)
      ·
       have g2_42' := g2_42
       try simp only [qq] at g2_42'
       refine W 7 ?_
       exact retQ_pure (v := .raw _) rfl rfl (Less.eq (by unfold readB; simp [*]))
      have g2_42' := g2_42
      try simp only [qq] at g2_42'
      refine W 7 ?_
      exact retQ_pure (v := .raw _) rfl rfl (Less.eq (by unfold readB; simp [*]))
     have g2_34' := g2_34
     try simp only [qq] at g2_34'
     refine W 15 ?_
     exact retQ_pure (v := .raw _) rfl rfl (Less.eq (by unfold readB; simp [*]))
    have g2_26' := g2_26
    try simp only [qq] at g2_26'
    refine W 23 ?_
    exact retQ_pure (v := .raw _) rfl rfl (Less.eq (by unfold readB; simp [*]))
   have g2_18' := g2_18
   try simp only [qq] at g2_18'
   refine W 31 ?_
   exact retQ_pure (v := .raw _) rfl rfl (Less.eq (by unfold readB; simp [*]))
  have g2_10' := g2_10
  try simp only [qq] at g2_10'
  refine W 39 ?_
  exact retQ_pure (v := .raw _) rfl rfl (Less.eq (by unfold readB; simp [*]))
 have g2_3' := g2_3
 try simp only [qq] at g2_3'
 refine W 46 ?_
 exact retQ_pure (v := .raw _) rfl rfl (Less.eq (by unfold readB; simp [*]))
end Go.Proofs.YtmbknoaneglilaaGreatDoor
namespace Go.Proofs.YtmbknoaneglilaaGreatDoor
open Go Go.Ab Ni Ol
instance en27 : EnT Tryz.prog 27 := ⟨Ent.of Tryz.func27 (by kernel_rfl) rfl⟩
end Go.Proofs.YtmbknoaneglilaaGreatDoor
namespace Go.Proofs.YtmbknoaneglilaaGreatDoor
open Go Go.Ab Ni Ol
theorem cell_ch (c : Ca) (k m : Int) : c.cell k m = 35 ∨ c.cell k m = 43 ∨ c.cell k m = 46 := by
  unfold Ca.cell Ca.cellAt
  split
  · exact .inl rfl
  · split
    · exact .inr (.inl rfl)
    · exact .inr (.inr rfl)
theorem shadow_row {c : Ca} {r : List UInt8} (h : r ∈ c.shadow) : r.length = c.s.wide.toNat ∧ ∀ b ∈ r, b = 35 ∨ b = 43 ∨ b = 46 := by
  unfold Ca.shadow at h
  obtain ⟨m, _, rfl⟩ := List.mem_map.1 h
  refine ⟨by simp [Ca.srow], fun b hb => ?_⟩
  unfold Ca.srow at hb
  obtain ⟨k, _, rfl⟩ := List.mem_map.1 hb
  exact cell_ch c _ _
theorem shadow_clo (c : Ca) : Clo c.s c.shadow := ⟨by simp [Ca.shadow], fun r hr => (shadow_row hr).1⟩
theorem clo_shp {s : Sg} {l : List (List UInt8)} (hs : stOK s = true) (h : Clo s l) : shp l := by
  have hb := stOK_iff.1 hs
  exact ⟨by rw [h.len]; omega, fun r hr => by rw [h.row r hr]; omega⟩
theorem shadow_whole {c : Ca} (hs : stOK c.s = true) : wholeB c.s c.shadow = true := by
  have hb := stOK_iff.1 hs
  unfold wholeB
  rw [Bool.and_eq_true]
  constructor
  · unfold siOK
    simp only [Bool.and_eq_true, decide_eq_true_eq, List.all_eq_true, siRow]
    refine ⟨by rw [(shadow_clo c).len]; omega, fun r hr => ?_⟩
    obtain ⟨h1, h2⟩ := shadow_row hr
    refine ⟨by omega, ?_⟩
    rw [Bool.not_eq_true', List.any_eq_false]
    intro b hb'
    rcases h2 b hb' with rfl | rfl | rfl <;> decide
  · rw [decide_eq_true_eq]
    unfold Ol.cnt
    have : ∀ L : List (List UInt8), (∀ r ∈ L, ∀ b ∈ r, b = 35 ∨ b = 43 ∨ b = 46) → (L.map fun r => ((r.count 63 : Nat) : Int)).sum = 0 := fun L => by
      induction L with
      | nil => intro _; rfl
      | cons r L ih =>
        intro h
        have h1 : r.count 63 = 0 := List.count_eq_zero.2 fun hm => by rcases h r (by simp) 63 hm with h | h | h <;> cases h
        rw [List.map_cons, List.sum_cons, h1, ih fun q hq => h q (by simp [hq])]; rfl
    exact this _ fun r hr => (shadow_row hr).2
theorem readB_iff {n : Nat} {r : Rc} {f : Int} {p : Pc} : readB n r f p = true ↔ (0 ≤ f ∧ f < n) ∧ (r.nl ≤ p.near ∧ p.near ≤ r.nh) ∧ (r.xl ≤ p.x ∧ p.x ≤ r.xh) ∧ p.y = r.y := by
  unfold readB; simp only [Bool.and_eq_true, decide_eq_true_eq]; omega
theorem read_mem {x : Sn} {f : Nat} {p : Pc} (hf : f < x.l.length) (h : readB x.l.length x.r f p = true) : (⟨⟨f, p⟩, (Ca.mk x.s x.l[f] p).shadow⟩ : Th) ∈ rdN x f := by
  obtain ⟨_, h2, h3, h4⟩ := readB_iff.1 h
  unfold rdN rdX
  refine List.mem_flatMap.2 ⟨p.near, mem_rng.2 h2, List.mem_map.2 ⟨p.x, mem_rng.2 h3, ?_⟩⟩
  unfold thrown
  rw [getD_get hf, ← h4]
theorem askE_0 {x : Sn} {is : Bool} : askE x is = 0 ↔ snOK x = true ∧ is = true := by
  unfold askE
  by_cases h : (snOK x && is) = true
  · rw [if_pos h]; simp only [Bool.and_eq_true] at h; simp [h]
  · rw [if_neg h]; simp only [Bool.and_eq_true] at h
    exact ⟨(fun e => by cases e), fun e => absurd e h⟩
abbrev one (x : Sn) : Sn := ⟨x.s, x.l.take 1, x.r⟩
end Go.Proofs.YtmbknoaneglilaaGreatDoor
namespace Go.Proofs.YtmbknoaneglilaaGreatDoor
open Go Go.Ab Ni Ol
instance en83 : EnT Tryz.prog 83 := ⟨Ent.of Tryz.func83 (by kernel_rfl) rfl⟩
instance sl53 : SlE Tryz.prog 53 73 4 := ⟨by kernel_rfl⟩
theorem tdiv_bd {a b N : Int} (ha : -N ≤ a ∧ a ≤ N) (hb : 0 < b) : (-N ≤ a.tdiv b ∧ a.tdiv b ≤ N) ∧ (-N ≤ a.tdiv b * b ∧ a.tdiv b * b ≤ N) := by
  have key : ∀ a : Int, 0 ≤ a → 0 ≤ a.tdiv b ∧ a.tdiv b ≤ a ∧ 0 ≤ a.tdiv b * b ∧ a.tdiv b * b ≤ a := fun a h => by
    rw [Int.tdiv_eq_ediv_of_nonneg h]
    have h1 := Int.ediv_nonneg h (show 0 ≤ b by omega)
    have h2 := Int.ediv_mul_le a (show b ≠ 0 by omega)
    have h3 := Int.mul_nonneg h1 (show 0 ≤ b by omega)
    exact ⟨h1, Int.ediv_le_self _ h, h3, h2⟩
  rcases Int.le_total 0 a with h | h
  · have := key a h; omega
  · have := key (-a) (by omega)
    rw [Int.neg_tdiv, Int.neg_mul] at this; omega
theorem beyE_eq {a b : Int} (hb : 0 < b) : beyE a b = a / b := by
  unfold beyE
  rcases Int.le_total 0 a with h | h
  · rw [Int.tdiv_eq_ediv_of_nonneg h, if_neg (by have := Int.ediv_mul_le a (show b ≠ 0 by omega); omega)]
  · have h1 : a.tdiv b = -((-a) / b) := by rw [← Int.tdiv_eq_ediv_of_nonneg (show 0 ≤ -a by omega), Int.neg_tdiv, Int.neg_neg]
    have e1 := Int.ediv_mul_le (-a) (show b ≠ 0 by omega)
    have e2 := Int.lt_ediv_add_one_mul_self (-a) hb
    rw [Int.add_mul] at e2
    rw [h1, Int.neg_mul]
    by_cases hd : (-a) / b * b = -a
    · rw [if_neg (by omega)]
      have : a / b = -((-a) / b) := by
        have : a = -((-a) / b) * b := by rw [Int.neg_mul]; omega
        conv => lhs; rw [this]
        rw [Int.mul_ediv_cancel _ (by omega)]
      omega
    · rw [if_pos (by omega)]
      apply Int.le_antisymm
      · apply (Int.le_ediv_iff_mul_le hb).2
        rw [Int.sub_mul, Int.neg_mul]; omega
      · apply Int.lt_add_one_iff.1
        apply (Int.ediv_lt_iff_lt_mul hb).2
        rw [show -((-a) / b) - 1 + 1 = -((-a) / b) by omega, Int.neg_mul]; omega
theorem fieldsOf_st {P : Program} {t : TypeId} {fs : Array Field} (h : P.underlying t = some (.struct fs)) : P.fieldsOf t = fs := by unfold Program.fieldsOf; rw [h]
theorem pcEq (n : Nat) (a b : Pc) (w : World) : (Op.equalIn (n + 2) 28 (.agg #[.int .i64 a.near, .int .i64 a.x, .int .i64 a.y]) (.agg #[.int .i64 b.near, .int .i64 b.x, .int .i64 b.y])).run Tryz.prog w = .ok (decide (a = b)) w := by
  have h3 : Tryz.prog.underlying 3 = some (.int .i64) := Tryz.underlying3
  rw [run_equalIn_struct w (n + 1) 28 _ _ (by rw [fieldsOf_st Tryz.underlying28]; exact Tryz.underlying28) (by kernel_rfl), fieldsOf_st Tryz.underlying28]
  have q0 : ∀ (x : Pc) (w : World), (part 3 #[.int .i64 x.near, .int .i64 x.x, .int .i64 x.y] 0).run Tryz.prog w = .ok (.int .i64 x.near) w := fun x w => by simp [part, Tryz.isAgg3]
  have q1 : ∀ (x : Pc) (w : World), (part 3 #[.int .i64 x.near, .int .i64 x.x, .int .i64 x.y] 1).run Tryz.prog w = .ok (.int .i64 x.x) w := fun x w => by simp [part, Tryz.isAgg3]
  have q2 : ∀ (x : Pc) (w : World), (part 3 #[.int .i64 x.near, .int .i64 x.x, .int .i64 x.y] 2).run Tryz.prog w = .ok (.int .i64 x.y) w := fun x w => by simp [part, Tryz.isAgg3]
  simp [Op.eqFields, q0, q1, q2, run_equalIn_int _ _ _ _ _ _ _ h3]
  obtain ⟨a1, a2, a3⟩ := a
  obtain ⟨b1, b2, b3⟩ := b
  simp only [Pc.mk.injEq]
  by_cases e1 : a1 = b1 <;> by_cases e2 : a2 = b2 <;> by_cases e3 : a3 = b3 <;> simp [e1, e2, e3]
structure Rz where
  fig : Int
  p : Pc
  deriving DecidableEq
abbrev rzC (t : Rz) : List AV := [I t.fig, I t.p.near, I t.p.x, I t.p.y]
abbrev rzVals (x : Rz) : Array Value := #[.int .i64 x.fig, .int .i64 x.p.near, .int .i64 x.p.x, .int .i64 x.p.y]
theorem rzEq (a b : Rz) (w : World) : (Op.equalIn 10000 73 (.agg (rzVals a)) (.agg (rzVals b))).run Tryz.prog w = .ok (decide (a = b)) w := by
  have h3 : Tryz.prog.underlying 3 = some (.int .i64) := Tryz.underlying3
  rw [run_equalIn_struct w 9999 73 _ _ (by rw [fieldsOf_st Tryz.underlying73]; exact Tryz.underlying73) (by kernel_rfl), fieldsOf_st Tryz.underlying73]
  have q0 : ∀ (x : Rz) (w : World), (part 3 (rzVals x) 0).run Tryz.prog w = .ok (.int .i64 x.fig) w := fun x w => by simp [part, Tryz.isAgg3]
  have q1 : ∀ (x : Rz) (w : World), (part 28 (rzVals x) 1).run Tryz.prog w = .ok (.agg #[.int .i64 x.p.near, .int .i64 x.p.x, .int .i64 x.p.y]) w := fun x w => by simp [part, Tryz.isAgg28, Tryz.sizeOf28]
  obtain ⟨a1, a2⟩ := a
  obtain ⟨b1, b2⟩ := b
  simp only [Rz.mk.injEq]
  by_cases e1 : a1 = b1 <;> by_cases e2 : a2 = b2 <;> simp [Op.eqFields, q0, q1, run_equalIn_int _ _ _ _ _ _ _ h3, pcEq 9997, e1, e2]
section
variable {r : Option Nat} {H : List AObj} {ρ : Operand → AV} {d : Option Tmp} {t : TypeId} {p : String} {af : Array Edge} {g : Option (Nat × Bool)} {x y : Operand} {yt : TypeId}
theorem ev_rz_eql {a b : Rz} (hx : Less (ρ x) (.agg (rzC a))) (hy : Less (ρ y) (.agg (rzC b))) : Ev Tryz.prog r ⟨d, .binOp .eql 73 x y yt, t, p, af, g⟩ H ρ (B (decide (a = b))) :=
  ev_eql_agg (by kernel_rfl) (rzEq a b) (Less.trans hx (less_agg_raw (vs := [.int .i64 a.fig, .int .i64 a.p.near, .int .i64 a.p.x, .int .i64 a.p.y]) rfl)) (Less.trans hy (less_agg_raw (vs := [.int .i64 b.fig, .int .i64 b.p.near, .int .i64 b.p.x, .int .i64 b.p.y]) rfl))
end
abbrev rzs (l : List Rz) : AV := .sl 4 (l.map rzC)
theorem beyond_pure {a b : Int} (ha : -1000000000 ≤ a ∧ a ≤ 1000000000) (hb : 0 < b ∧ b ≤ 1000000) : APure Tryz.prog 99 [I a, I b] (I (a / b)) := by
  refine apure_of (rs := [.tmp 4]) Tryz.func99 rfl rfl (Nat.le_of_ble_eq_true rfl) (by simp [AV.pureL, AV.pureB, AV.pureE, pureE_map]) (by first | rfl | (simp [AV.pureL, AV.pureB, AV.pureE, pureE_map])) fun e0 he0 => ?_
  have htd := tdiv_bd ha hb.1
  refine W 3 ?_
  refine sq_ev rfl (ev_quo (q := a.tdiv b) J J (by omega) (wr (by have := (tdiv_bd ha hb.1).1; omega) (by have := (tdiv_bd ha hb.1).1; omega))) ?_
  refine W 6 ?_
  refine iff (fun c_13 c_13' => ?_) (fun c_13 c_13' => ?_)
  · skip
    refine W 5 ?_
    exact retQ_pure (v := .raw _) rfl rfl (Less.eq (by rw [← beyE_eq hb.1]; unfold beyE; rw [if_pos (by simpa using c_13)]))
  · skip
    refine W 2 ?_
    exact retQ_pure (v := .raw _) rfl rfl (Less.eq (by rw [← beyE_eq hb.1]; unfold beyE; rw [if_neg (by simpa using c_13)]))
theorem lhide_pure (f : Fg) {x y den : Int} (hx : -1000000000 ≤ x ∧ x ≤ 1000000000) (hy : -1000000000 ≤ y ∧ y ≤ 1000000000) (hd : 0 < den ∧ den ≤ 1000000) : APure Tryz.prog 30 [fgA f, I x, I y, I den] (C (chF f (x / den) (y / den))) := by
 refine apure_of (rs := [.tmp 8]) Tryz.func30 rfl rfl (Nat.le_of_ble_eq_true rfl) (by simp [AV.pureL, AV.pureB, AV.pureE, pureE_map]) (by first | rfl | (simp [AV.pureL, AV.pureB, AV.pureE, pureE_map])) fun e0 he0 => ?_
 refine W 4 ?_
 refine cl A (beyond_pure hx hd) ?_
 refine W 2 ?_
 refine cl A (beyond_pure hy hd) ?_
 refine W 5 ?_
 refine sq_split 19 J (fun g2_2 => ?_) (fun g2_2 => ?_)
 ·
  have g2_2' := g2_2
  try simp only [qq] at g2_2'
  refine W 22 ?_
  exact retQ_pure (v := .raw _) rfl rfl (Less.eq (by unfold chF; rw [if_neg (by omega)]; rfl))
 have g2_2' := g2_2
 try simp only [qq] at g2_2'
 have j0 : 0 ≤ y / den := by omega
 refine W 7 ?_
 refine sq_split 26 J (fun g2_9 => ?_) (fun g2_9 => ?_)
 ·
  have g2_9' := g2_9
  try simp only [qq] at g2_9'
  refine W 15 ?_
  exact retQ_pure (v := .raw _) rfl rfl (Less.eq (by unfold chF; rw [if_neg (by omega)]; rfl))
 have g2_9' := g2_9
 try simp only [qq] at g2_9'
 have j1 : (y / den).toNat < f.length := by first | omega | (simp_all; done) | (simp_all; omega)
 refine W 4 ?_
 refine sq_split 30 J (fun g2_13 => ?_) (fun g2_13 => ?_)
 ·
  have g2_13' := g2_13
  try simp only [qq] at g2_13'
  refine W 11 ?_
  exact retQ_pure (v := .raw _) rfl rfl (Less.eq (by unfold chF; rw [if_neg (by omega)]; rfl))
 have g2_13' := g2_13
 try simp only [qq] at g2_13'
 have i0 : 0 ≤ x / den := by first | omega | (simp_all; done) | (simp_all; omega)
 refine W 4 ?_
 refine sq_yes rfl rfl (less_b g2_13) rfl (ev_index_map (k := (y / den).toNat) sl24.h J J (by omega) (by omega)) ?_
 refine W 4 ?_
 refine aw_cond J (fun c_39 => ?_) (fun c_39 => ?_)
 ·
  have c_39' := c_39
  try simp only [qq] at c_39'
  refine W 1 ?_
  exact retQ_pure (v := .raw _) rfl rfl (Less.eq (by unfold chF; rw [if_neg (fun h => by rw [getD_get j1] at h; omega)]; rfl))
 have c_39' := c_39
 try simp only [qq] at c_39'
 have i1 : (x / den).toNat < f[(y / den).toNat].length := by first | omega | (simp_all; done) | (simp_all; omega)
 refine W 3 ?_
 refine sq_ev rfl (ev_index_map (k := (y / den).toNat) sl24.h J J (by omega) (by omega)) ?_
 refine W 2 ?_
 refine sq_ev rfl (ev_idxS (k := (x / den).toNat) Tryz.underlying9 J J (by omega) (by omega)) ?_
 refine W 1 ?_
 exact retQ_pure (v := .raw _) rfl rfl (Less.eq (by unfold chF; rw [if_pos ⟨j0, by omega, i0, by rw [getD_get j1]; omega⟩, getD_get j1, getD_get i1]))
theorem listed_pure (l : List Rz) (x : Rz) (hl : l.length ≤ 1000000) : APure Tryz.prog 83 [rzs l, .agg (rzC x)] (B (decide (x ∈ l))) := by
 refine apure_of (rs := [.tmp 4]) Tryz.func83 rfl rfl (Nat.le_of_ble_eq_true rfl) (by simp [AV.pureL, AV.pureB, AV.pureE, pureE_map]) (by first | rfl | (simp [AV.pureL, AV.pureB, AV.pureE, pureE_map])) fun e0 he0 => ?_
 refine W 3 ?_
 refine aw_loopk (ι := { k : Nat // k ≤ l.length ∧ ∀ i, (h : i < l.length) → i < k → ¬ l[i] = x }) [0, 3] (fun g => [(5, I g.1)]) (fun H g => H) (fun g => l.length - g.1) (⟨0, Nat.zero_le _, by omega⟩) ⟨J, J, J, trivial⟩ rfl ?_
 rintro ⟨k, hk, hok⟩
 dsimp only [keepS, St.put, sget, slotsOf, nn1, nn2, nn3, nn4, nn5, nn6, Nat.reduceBEq, Nat.reduceAdd, nn7, nn8]
 refine W 4 ?_
 refine iff (fun c_9 c_9' => ?_) (fun c_9 c_9' => ?_)
 ·
  have hkL : k < l.length := by omega
  refine W 0 ?_
  refine aw_draw 6 mo (by kernel_rfl) ?_
  refine WD 5 ?_
  refine dr_ev rfl (ev_rz_eql (a := l[k]) (b := x) J J) ?_
  refine dr_end ?_
  refine W 0 ?_
  refine aw_cond J (fun c_17 => ?_) (fun c_17 => ?_)
  ·
   have c_17' := c_17
   try simp only [qq] at c_17'
   refine W 1 ?_
   exact retQ_pure (v := .raw _) rfl rfl (Less.eq (by rw [decide_eq_true (c_17' ▸ List.getElem_mem hkL)]))
  have c_17' := c_17
  try simp only [qq] at c_17'
  refine W 3 ?_
  exact ⟨⟨k + 1, by omega, fun i h hi => (by by_cases e : i = k; (subst e; exact c_17'); exact hok i h (by omega))⟩, by simp only; omega, Sub.slots ⟨J, J, J, trivial⟩⟩
 refine W 1 ?_
 exact retQ_pure (v := .raw _) rfl rfl (Less.eq (by rw [decide_eq_false (fun h => by obtain ⟨i, hi, e⟩ := List.getElem_of_mem h; exact hok i hi (by omega) e)]))
end Go.Proofs.YtmbknoaneglilaaGreatDoor
namespace Go.Proofs.YtmbknoaneglilaaGreatDoor
open Go Go.Ab Ni Ol
theorem gate_bool {a b : Bool} (h : (a && b) = true) : a = true ∧ b = true := by simpa using h
end Go.Proofs.YtmbknoaneglilaaGreatDoor
namespace Go.Proofs.YtmbknoaneglilaaGreatDoor
open Go Go.Ab Ni Ol
theorem ask_sn {x : Sn} {sight : List (List UInt8)} (hx : snOK x = true) (hs : siOK x.s sight = true) : askOK x sight = true := by unfold askOK; rw [hx, hs]; rfl
theorem siOK_iff {s : Sg} {l : List (List UInt8)} : siOK s l = true ↔ (l.length : Int) = s.high ∧ ∀ r ∈ l, (r.length : Int) = s.wide ∧ ∀ c ∈ r, c = 35 ∨ c = 43 ∨ c = 46 ∨ c = 63 := by
  unfold siOK siRow
  simp only [Bool.and_eq_true, decide_eq_true_eq, List.all_eq_true, Bool.not_eq_true', List.any_eq_false]
  constructor
  · rintro ⟨h1, h2⟩
    refine ⟨h1, fun r hr => ⟨(h2 r hr).1, fun c hc => ?_⟩⟩
    have := (h2 r hr).2 c hc
    by_cases a : c = 35
    · exact .inl a
    · by_cases b : c = 43
      · exact .inr (.inl b)
      · by_cases d : c = 46
        · exact .inr (.inr (.inl d))
        · by_cases e : c = 63
          · exact .inr (.inr (.inr e))
          · exact absurd ⟨a, b, d, e⟩ this
  · rintro ⟨h1, h2⟩
    refine ⟨h1, fun r hr => ⟨(h2 r hr).1, fun c hc h => ?_⟩⟩
    obtain ⟨a, b, d, e⟩ := h
    rcases (h2 r hr).2 c hc with h | h | h | h
    · exact a h
    · exact b h
    · exact d h
    · exact e h
end Go.Proofs.YtmbknoaneglilaaGreatDoor
namespace Go.Proofs.YtmbknoaneglilaaGreatDoor
open Go Go.Ab Ni Ol
theorem mul2 {a b A B : Int} (h1 : -A ≤ a ∧ a ≤ A) (h2 : -B ≤ b ∧ b ≤ B) : -(A * B) ≤ a * b ∧ a * b ≤ A * B := mulb h1.1 h1.2 h2.1 h2.2
theorem inE_bys (n : Nat) (l : List UInt8) : AV.inE n (l.map fun x => [C x]) = true := inE_map fun x _ => by simp [AV.inL, AV.inB]
theorem bys_back (l : List UInt8) : ((l.map fun x => ((x.toNat : Nat) : Int)).map fun n => UInt8.ofNat n.toNat) = l := by
  rw [List.map_map]
  conv => rhs; rw [← List.map_id l]
  exact List.map_congr_left fun x _ => by simp
theorem bys_ints (l : List UInt8) : AV.sl 1 (l.map fun x => [C x]) = AV.sl 1 ((l.map fun x => ((x.toNat : Nat) : Int)).map fun n => [.raw (.int .u8 n)]) := by rw [List.map_map]; rfl
end Go.Proofs.YtmbknoaneglilaaGreatDoor
namespace Go.Proofs.YtmbknoaneglilaaGreatDoor
open Go Go.Ab Ni Ol
theorem th_facts {x : Sn} {t : Th} (hx : snOK x = true) (ht : t ∈ rdgs x) : ∃ h : t.rd.fig < x.l.length, CaB ⟨x.s, x.l[t.rd.fig], t.rd.p⟩ ∧ t.sh = (Ca.mk x.s x.l[t.rd.fig] t.rd.p).shadow := by
  obtain ⟨i, n, k, hi, hn, hk, rfl⟩ := rdgs_mem ht
  refine ⟨hi, ca_of hx hi hn hk, ?_⟩
  unfold thrown
  simp only
  rw [getD_get hi]
end Go.Proofs.YtmbknoaneglilaaGreatDoor
namespace Go.Proofs.YtmbknoaneglilaaGreatDoor
open Go Go.Ab Ni Ol
instance en78 : EnT Tryz.prog 78 := ⟨Ent.of Tryz.func78 (by kernel_rfl) rfl⟩
theorem rds_rz (l : List Th) : rds l = rzs (l.map fun t => (⟨t.rd.fig, t.rd.p⟩ : Rz)) := by unfold rds rzs; rw [List.map_map]; rfl
end Go.Proofs.YtmbknoaneglilaaGreatDoor
namespace Go.Proofs.YtmbknoaneglilaaGreatDoor
open Go Go.Ab Ni Ol
theorem seen_gate (x : Sn) (f : Int) (p : Pc) (seen : List Int) (hg : (fewB x.l && (decide (seen.length ≤ 300) && (decide (askE x true = 0) && readB x.l.length x.r f p))) = false) : APure Tryz.prog 20 [stA x.s, figs x.l, rcA x.r, .agg [I f, I p.near, I p.x, I p.y], ints seen] (B true) := by
 refine apure_of (rs := [.tmp 10]) Tryz.func20 rfl rfl (Nat.le_of_ble_eq_true rfl) (by simp [AV.pureL, AV.pureB, AV.pureE, pureE_map]) (by first | rfl | (simp [AV.pureL, AV.pureB, AV.pureE, pureE_map])) fun e0 he0 => ?_
 refine W 5 ?_
 refine cl A (few_pure x.l) ?_
 refine W 2 ?_
 refine sq_split 31 J (fun g1_3 => ?_) (fun g1_3 => ?_)
 ·
  have g1_3' := g1_3
  try simp only [qq] at g1_3'
  refine W 19 ?_
  refine cl A (known_pure) ?_
  refine W 1 ?_
  exact retQ_pure (v := .raw _) rfl rfl J
 have g1_3' := g1_3
 try simp only [qq] at g1_3'
 refine W 5 ?_
 refine sq_split 36 J (fun g1_8 => ?_) (fun g1_8 => ?_)
 ·
  have g1_8' := g1_8
  try simp only [qq] at g1_8'
  refine W 14 ?_
  refine cl A (known_pure) ?_
  refine W 1 ?_
  exact retQ_pure (v := .raw _) rfl rfl J
 have g1_8' := g1_8
 try simp only [qq] at g1_8'
 refine W 3 ?_
 refine cy A (asked_pure x true) ?_
 refine W 3 ?_
 refine sq_split 43 J (fun g1_15 => ?_) (fun g1_15 => ?_)
 ·
  have g1_15' := g1_15
  try simp only [qq] at g1_15'
  refine W 7 ?_
  refine cl A (known_pure) ?_
  refine W 1 ?_
  exact retQ_pure (v := .raw _) rfl rfl J
 have g1_15' := g1_15
 try simp only [qq] at g1_15'
 refine W 3 ?_
 refine cy A (reading_pure x.l x.r f p) ?_
 refine W 2 ?_
 refine aw_cond J (fun c_49 => ?_) (fun c_49 => ?_)
 ·
  have c_49' := c_49
  try simp only [qq] at c_49'
  refine W 0 ?_
  refine cl A (known_pure) ?_
  refine W 1 ?_
  exact retQ_pure (v := .raw _) rfl rfl J
 have c_49' := c_49
 try simp only [qq] at c_49'
 first | (exfalso; simp_all; done) | (exfalso; simp_all; omega)
theorem seen_main {x : Sn} {f : Nat} {p : Pc} {seen : List Int} {c : List (List UInt8)} {A : List Th} {V : List Int} (hst : stOK x.s = true) (hf : f < x.l.length) (hl : x.l.length ≤ 1000000) (hsn : seen.length ≤ 300) (cc : Clo x.s c)
    (k34 : APure Tryz.prog 34 [figs x.l] (B true)) (k36 : APure Tryz.prog 36 [stA x.s, figs x.l, rcA x.r, B true] (I 0)) (k49 : APure Tryz.prog 49 [figs x.l, rcA x.r, .agg [I (f : Int), I p.near, I p.x, I p.y]] (B true))
    (k28 : APure Tryz.prog 28 [stA x.s, fgA x.l[f], pcA p] (.tup [strs c, I 0])) (k29 : APure Tryz.prog 29 [stA x.s, strs c] (B true))
    (k78 : APure Tryz.prog 78 [stA x.s, figs x.l, rcA x.r, strs (seenBy x.s.wide.toNat c seen x.s.high.toNat)] (.tup [rds A, I 0])) (k79 : APure Tryz.prog 79 [stA x.s, figs x.l, rcA x.r, strs (seenBy x.s.wide.toNat c seen x.s.high.toNat)] (.tup [ints V, I 0]))
    (hA3 : A.length ≤ 300) (k83 : APure Tryz.prog 83 [rds A, .agg [I (f : Int), I p.near, I p.x, I p.y]] (B true)) (hV : V.length = x.l.length) (hfV : f < V.length) (hVf : ¬ V[f] = 1) (hV3 : ∀ k, (h : k < V.length) → 1 ≤ V[k] ∧ V[k] ≤ 3)
    (hcnt : (cntW V 3 V.length = 1 ∧ cntW V 2 V.length = 0 ∧ V[f] = 3) ∨ (cntW V 3 V.length = 0 ∧ 2 ≤ cntW V 2 V.length))
    (hA : ∀ t ∈ A, ∃ h : t.rd.fig < x.l.length, ∃ h2 : t.rd.fig < V.length, APure Tryz.prog 49 [figs x.l, rcA x.r, .agg [I (t.rd.fig : Int), I t.rd.p.near, I t.rd.p.x, I t.rd.p.y]] (B true) ∧ (¬ V[t.rd.fig] = 1) ∧ APure Tryz.prog 28 [stA x.s, fgA x.l[t.rd.fig], pcA t.rd.p] (.tup [strs t.sh, I 0]) ∧ APure Tryz.prog 29 [stA x.s, strs t.sh] (B true) ∧ APure Tryz.prog 50 [strs t.sh, strs (seenBy x.s.wide.toNat c seen x.s.high.toNat)] (B true)) : APure Tryz.prog 20 [stA x.s, figs x.l, rcA x.r, .agg [I (f : Int), I p.near, I p.x, I p.y], ints seen] (B true) := by
  refine apure_of (rs := [.tmp 10]) Tryz.func20 rfl rfl (Nat.le_of_ble_eq_true rfl) (by simp [AV.pureL, AV.pureB, AV.pureE, pureE_map]) (by first | rfl | (simp [AV.pureL, AV.pureB, AV.pureE, pureE_map])) fun e0 he0 => ?_
  have hsb := stOK_iff.1 hst
  have hwh := wh_bd hst
  refine aw_seq (aw_region (sq_box rfl J rfl ?_))
  refine sq_box rfl J rfl (sq_box rfl J rfl (asr J rfl (sq_nil (aw_seq (aw_seq (aw_region ?_))))))
  first | refine mvs rfl J ?_ | refine sq_ev rfl (ev_mv (v := .own _ _ _) J) ?_ | refine mvr J rfl ?_ | refine sq_ev rfl (ev_mv (v := .slx _ _) J) ?_ | refine sq_ev rfl (ev_mv (v := .msl _ _ _ _) J) ?_
  refine sq_ev rfl (ev_call en34.h J (k34) ⟨J, trivial⟩) ?_
  refine sq_ev rfl (ev_not J) ?_
  refine mvr J rfl ?_
  first | refine ysl rfl rfl J rfl J ?_ | refine sq_yes rfl rfl J rfl (ev_mv (v := .own _ _ _) J) ?_ | refine ymr rfl rfl J rfl J ?_ | refine sq_yes rfl rfl J rfl (ev_mv (v := .slx _ _) J) ?_ | refine sq_yes rfl rfl J rfl (ev_mv (v := .msl _ _ _ _) J) ?_
  first | refine sq_yes rfl rfl J rfl (ev_len_map sl64.h J) ?_ | refine sq_yes rfl rfl J rfl (ev_len_map sl64.h (less_own _ _ _)) ?_ | refine sq_yes rfl rfl J rfl (ev_len sl64.h J rfl) ?_ | refine sq_yes rfl rfl J rfl (ev_len sl64.h (less_own _ _ _) rfl) ?_ | refine sq_yes rfl rfl J rfl (ev_len sl64.h (less_nil _) rfl) ?_ | refine sq_yes rfl rfl J rfl (ev_len_msl sl64.h J) ?_ | refine sq_yes rfl rfl J rfl (ev_len sl64.h (less_slx _ _) rfl) ?_
  refine sq_yes rfl rfl J rfl (ev_gtr J J) ?_
  refine pf rfl J J (mvr J rfl ?_)
  refine sq_split 36 J (fun g1_8 => ?_) (fun g1_8 => ?_)
  · skip
    have g1_8' := g1_8
    try simp only [qq] at g1_8'
    first | exact absurd g1_8 (by decide) | (exfalso; simp at g1_8; done) | (exfalso; simp at g1_8; omega) | (exfalso; simp_all; done) | (exfalso; simp_all; omega)
  · skip
    have g1_8' := g1_8
    try simp only [qq] at g1_8'
    first | refine sq_yes rfl rfl (less_b g1_8) rfl (ev_load_agg J rfl ty23.h rfl) ?_ | refine sq_yes rfl rfl (less_b g1_8) rfl (ev_load_agg_i J ty23.h (by exact Nat.le_of_ble_eq_true rfl)) ?_
    first | refine sq_yes rfl rfl (less_b g1_8) rfl (ev_mv (v := .sl _ _) J) ?_ | refine sq_yes rfl rfl (less_b g1_8) rfl (ev_mv (v := .own _ _ _) J) ?_ | refine sq_yes rfl rfl (less_b g1_8) rfl (ev_mv (v := .raw _) J) ?_ | refine sq_yes rfl rfl (less_b g1_8) rfl (ev_mv (v := .slx _ _) J) ?_ | refine sq_yes rfl rfl (less_b g1_8) rfl (ev_mv (v := .msl _ _ _ _) J) ?_
    first | refine sq_yes rfl rfl (less_b g1_8) rfl (ev_load_agg J rfl ty49.h rfl) ?_ | refine sq_yes rfl rfl (less_b g1_8) rfl (ev_load_agg_i J ty49.h (by exact Nat.le_of_ble_eq_true rfl)) ?_
    refine sq_yes rfl rfl (less_b g1_8) rfl (ev_call en36.h J (k36) ⟨J, J, J, J, trivial⟩) ?_
    refine sq_yes rfl rfl (less_b g1_8) rfl (ev_neq J J) ?_
    refine sq_ev rfl (ev_pickF (v := .raw _) (less_b g1_8) J) ?_
    refine mvr J rfl ?_
    first | refine ysl rfl rfl J rfl J ?_ | refine sq_yes rfl rfl J rfl (ev_mv (v := .own _ _ _) J) ?_ | refine ymr rfl rfl J rfl J ?_ | refine sq_yes rfl rfl J rfl (ev_mv (v := .slx _ _) J) ?_ | refine sq_yes rfl rfl J rfl (ev_mv (v := .msl _ _ _ _) J) ?_
    first | refine sq_yes rfl rfl J rfl (ev_load_agg J rfl ty49.h rfl) ?_ | refine sq_yes rfl rfl J rfl (ev_load_agg_i J ty49.h (by exact Nat.le_of_ble_eq_true rfl)) ?_
    first | refine sq_yes rfl rfl J rfl (ev_load_agg J rfl ty73.h rfl) ?_ | refine sq_yes rfl rfl J rfl (ev_load_agg_i J ty73.h (by exact Nat.le_of_ble_eq_true rfl)) ?_
    refine sq_yes rfl rfl J rfl (ev_call en49.h J (k49) ⟨J, J, J, trivial⟩) ?_
    refine sq_yes rfl rfl J rfl (ev_not J) ?_
    refine pf rfl J J (sq_nil ?_)
    refine aw_cond J (fun c_49 => ?_) (fun c_49 => ?_)
    · skip
      have c_49' := c_49
      try simp only [qq] at c_49'
      first | exact absurd c_49 (by decide) | (exfalso; simp at c_49; done) | (exfalso; simp at c_49; omega) | (exfalso; simp_all; done) | (exfalso; simp_all; omega)
    · skip
      have c_49' := c_49
      try simp only [qq] at c_49'
      refine aw_skip (aw_seq ?_)
      refine aw_draw 14 mo (by kernel_rfl) ?_
      first | refine dr_ev rfl (ev_load_agg J rfl ty23.h rfl) ?_ | refine dr_ev rfl (ev_load_agg_i J ty23.h (by exact Nat.le_of_ble_eq_true rfl)) ?_
      first | refine dr_ev rfl (ev_mv (v := .sl _ _) J) ?_ | refine dr_ev rfl (ev_mv (v := .own _ _ _) J) ?_ | refine dr_ev rfl (ev_mv (v := .raw _) J) ?_ | refine dr_ev rfl (ev_mv (v := .slx _ _) J) ?_ | refine dr_ev rfl (ev_mv (v := .msl _ _ _ _) J) ?_
      first | refine dr_ev rfl (ev_fieldAddr fo73_0.h J) ?_ | refine dr_ev rfl (ev_fieldAddr_i fo73_0.h J) ?_
      first | refine dr_ev rfl (ev_load J rfl ty3.h rfl) ?_ | refine dr_ev rfl (ev_load_i J ty3.h rfl) ?_
      refine dr_ev rfl (ev_index_map (k := f) sl45.h J J rfl hf) ?_
      first | refine dr_ev rfl (ev_load_agg J rfl ty26.h rfl) ?_ | refine dr_ev rfl (ev_load_agg_i J ty26.h (by exact Nat.le_of_ble_eq_true rfl)) ?_
      first | refine dr_ev rfl (ev_fieldAddr fo73_1.h J) ?_ | refine dr_ev rfl (ev_fieldAddr_i fo73_1.h J) ?_
      first | refine dr_ev rfl (ev_load_agg J rfl ty28.h rfl) ?_ | refine dr_ev rfl (ev_load_agg_i J ty28.h (by exact Nat.le_of_ble_eq_true rfl)) ?_
      refine dr_ev rfl (ev_call en28.h J (k28) ⟨J, J, J, trivial⟩) ?_
      refine dr_ev rfl (ev_mv (v := .tup _) J) ?_
      refine dr_ev rfl (ev_extract J rfl) ?_
      refine dr_ev rfl (ev_extract J rfl) ?_
      first | refine dr_ev rfl (ev_as (v := .sl _ _) J) ?_ | refine dr_ev rfl (ev_as (v := .own _ _ _) J) ?_ | refine dr_ev rfl (ev_as (v := .raw _) J) ?_ | refine dr_ev rfl (ev_as (v := .slx _ _) J) ?_ | refine dr_ev rfl (ev_as (v := .msl _ _ _ _) J) ?_
      refine dr_ev rfl (ev_as (v := .raw _) J) ?_
      refine dr_end (sq_nil (aw_seq (aw_seq (aw_region (mvr J rfl (sq_ev rfl (ev_neq J J) ?_))))))
      refine mvr J rfl ?_
      first | refine sq_yes rfl rfl J rfl (ev_load_agg J rfl ty23.h rfl) ?_ | refine sq_yes rfl rfl J rfl (ev_load_agg_i J ty23.h (by exact Nat.le_of_ble_eq_true rfl)) ?_
      first | refine ysl rfl rfl J rfl J ?_ | refine sq_yes rfl rfl J rfl (ev_mv (v := .own _ _ _) J) ?_ | refine ymr rfl rfl J rfl J ?_ | refine sq_yes rfl rfl J rfl (ev_mv (v := .slx _ _) J) ?_ | refine sq_yes rfl rfl J rfl (ev_mv (v := .msl _ _ _ _) J) ?_
      refine sq_yes rfl rfl J rfl (ev_call en29.h J (k29) ⟨J, J, trivial⟩) ?_
      refine sq_yes rfl rfl J rfl (ev_not J) ?_
      refine pf rfl J J (sq_nil ?_)
      refine aw_cond J (fun c_70 => ?_) (fun c_70 => ?_)
      · skip
        have c_70' := c_70
        try simp only [qq] at c_70'
        first | exact absurd c_70 (by decide) | (exfalso; simp at c_70; done) | (exfalso; simp at c_70; omega) | (exfalso; simp_all; done) | (exfalso; simp_all; omega)
      · skip
        have c_70' := c_70
        try simp only [qq] at c_70'
        refine aw_skip (aw_seq (aw_region ?_))
        first | refine ass rfl J ?_ | refine sq_ev rfl (ev_as (v := .own _ _ _) J) ?_ | refine asr J rfl ?_ | refine sq_ev rfl (ev_as (v := .slx _ _) J) ?_ | refine sq_ev rfl (ev_as (v := .msl _ _ _ _) J) ?_
        refine sq_nil (aw_seq (aw_seq (aw_region (asr J rfl (sq_nil (aw_block ?_))))))
        refine aw_sub (sub_token 13 1 J) ?_
        refine aw_loopk (ι := { m : Nat // m ≤ x.s.high.toNat }) [1, 4, 5, 7, 8, 11] (fun g => [(13, .own 3 1 ((seenBy x.s.wide.toNat c seen g.1).map fun x => [S x])), (14, I g.1)]) (fun H g => H.set 3 (.tok ((seenBy x.s.wide.toNat c seen g.1).map fun x => [S x]).length)) (fun g => x.s.high.toNat - g.1) (⟨0, Nat.zero_le _⟩) ⟨J, J, J, J, J, J, J, J, trivial⟩ rfl ?_
        rintro ⟨m, hm⟩
        dsimp only [keepS, St.put, sget, slotsOf, nn1, nn2, nn3, nn4, nn5, nn6, Nat.reduceBEq, Nat.reduceAdd, nn7, nn8]
        have hsl := seenBy_len x.s.wide.toNat c seen m
        refine aw_seq (aw_seq (aw_region (mvr J rfl ?_)))
        first | refine sq_ev rfl (ev_fieldAddr fo23_1.h J) ?_ | refine sq_ev rfl (ev_fieldAddr_i fo23_1.h J) ?_
        first | refine sq_ev rfl (ev_load J rfl ty3.h rfl) ?_ | refine sq_ev rfl (ev_load_i J ty3.h rfl) ?_
        refine sq_ev rfl (ev_lss J J) ?_
        refine sq_nil ?_
        refine aw_cond J (fun c_74 => ?_) (fun c_74 => ?_)
        · skip
          have c_74' := c_74
          try simp only [qq] at c_74'
          have hmL : m < x.s.high.toNat := by omega
          have hmc : m < c.length := by rw [cc.len]; exact hmL
          have hrw : c[m].length = x.s.wide.toNat := cc.row _ (List.getElem_mem hmc)
          refine aw_skip (aw_seq (aw_block (aw_seq (aw_region ?_))))
          first | refine ass rfl J ?_ | refine sq_ev rfl (ev_as (v := .own _ _ _) J) ?_ | refine asr J rfl ?_ | refine sq_ev rfl (ev_as (v := .slx _ _) J) ?_ | refine sq_ev rfl (ev_as (v := .msl _ _ _ _) J) ?_
          refine sq_nil (aw_seq (aw_seq (aw_region (asr J rfl (sq_nil (aw_block ?_))))))
          refine aw_sub (sub_token 15 1 J) ?_
          refine aw_loopk (ι := { k : Nat // k ≤ x.s.wide.toNat }) [1, 4, 5, 7, 8, 11, 13, 14] (fun g => [(15, .own 4 1 ((rowOf x.s.wide.toNat c seen m g.1).map fun x => [C x])), (16, I g.1)]) (fun H g => H.set 4 (.tok ((rowOf x.s.wide.toNat c seen m g.1).map fun x => [C x]).length)) (fun g => x.s.wide.toNat - g.1) (⟨0, Nat.zero_le _⟩) ⟨J, J, J, J, J, J, J, J, J, J, trivial⟩ rfl ?_
          rintro ⟨k, hk⟩
          dsimp only [keepS, St.put, sget, slotsOf, nn1, nn2, nn3, nn4, nn5, nn6, Nat.reduceBEq, Nat.reduceAdd, nn7, nn8]
          have hrl := rowOf_len x.s.wide.toNat c seen m k
          refine aw_seq (aw_seq (aw_region (mvr J rfl ?_)))
          first | refine sq_ev rfl (ev_fieldAddr fo23_0.h J) ?_ | refine sq_ev rfl (ev_fieldAddr_i fo23_0.h J) ?_
          first | refine sq_ev rfl (ev_load J rfl ty3.h rfl) ?_ | refine sq_ev rfl (ev_load_i J ty3.h rfl) ?_
          refine sq_ev rfl (ev_lss J J) ?_
          refine sq_nil ?_
          refine aw_cond J (fun c_80 => ?_) (fun c_80 => ?_)
          · skip
            have c_80' := c_80
            try simp only [qq] at c_80'
            have hkL : k < x.s.wide.toNat := by omega
            have m1 := mul2 (a := (m : Int)) (b := x.s.wide) (A := 16) (B := 16) (by omega) (by omega)
            have eN : (m : Int) * x.s.wide + k = ((m * x.s.wide.toNat + k : Nat) : Int) := by rw [Int.natCast_add, Int.natCast_mul, Int.toNat_of_nonneg (by omega)]
            refine aw_skip (aw_seq (aw_block (aw_seq (aw_region (mvr J rfl ?_)))))
            first | refine sq_ev rfl (ev_fieldAddr fo23_0.h J) ?_ | refine sq_ev rfl (ev_fieldAddr_i fo23_0.h J) ?_
            first | refine sq_ev rfl (ev_load J rfl ty3.h rfl) ?_ | refine sq_ev rfl (ev_load_i J ty3.h rfl) ?_
            refine sq_ev rfl (ev_mul J J (wr (by omega) (by omega))) ?_
            refine mvr J rfl (sq_ev rfl (ev_less (ev_add J J (wr (by omega) (by omega))) (Less.eq (b := I ((m * x.s.wide.toNat + k : Nat) : Int)) (congrArg I eN))) ?_)
            refine asr J rfl (sq_nil (aw_seq (aw_region (mvr J rfl ?_))))
            first | refine mvs rfl J ?_ | refine sq_ev rfl (ev_mv (v := .own _ _ _) J) ?_ | refine mvr J rfl ?_ | refine sq_ev rfl (ev_mv (v := .slx _ _) J) ?_ | refine sq_ev rfl (ev_mv (v := .msl _ _ _ _) J) ?_
            first | refine sq_ev rfl (ev_len_map sl64.h J) ?_ | refine sq_ev rfl (ev_len_map sl64.h (less_own _ _ _)) ?_ | refine sq_ev rfl (ev_len sl64.h J rfl) ?_ | refine sq_ev rfl (ev_len sl64.h (less_own _ _ _) rfl) ?_ | refine sq_ev rfl (ev_len sl64.h (less_nil _) rfl) ?_ | refine sq_ev rfl (ev_len_msl sl64.h J) ?_ | refine sq_ev rfl (ev_len sl64.h (less_slx _ _) rfl) ?_
            refine sq_ev rfl (ev_lss J J) ?_
            refine mvr J rfl ?_
            refine sq_split 93 J (fun g15_4 => ?_) (fun g15_4 => ?_)
            · skip
              have g15_4' := g15_4
              try simp only [qq] at g15_4'
              have hnL : m * x.s.wide.toNat + k < seen.length := by omega
              first | refine sq_yes rfl rfl (less_b g15_4) rfl (ev_mv (v := .sl _ _) J) ?_ | refine sq_yes rfl rfl (less_b g15_4) rfl (ev_mv (v := .own _ _ _) J) ?_ | refine sq_yes rfl rfl (less_b g15_4) rfl (ev_mv (v := .raw _) J) ?_ | refine sq_yes rfl rfl (less_b g15_4) rfl (ev_mv (v := .slx _ _) J) ?_ | refine sq_yes rfl rfl (less_b g15_4) rfl (ev_mv (v := .msl _ _ _ _) J) ?_
              refine sq_yes rfl rfl (less_b g15_4) rfl (ev_mv (v := .raw _) J) ?_
              first | refine sq_yes rfl rfl (less_b g15_4) rfl (ev_index_map sl64.h J J rfl (by omega)) ?_ | refine sq_yes rfl rfl (less_b g15_4) rfl (ev_index sl64.h J J rfl rfl) ?_
              first | refine sq_yes rfl rfl (less_b g15_4) rfl (ev_load J rfl ty3.h rfl) ?_ | refine sq_yes rfl rfl (less_b g15_4) rfl (ev_load_i J ty3.h rfl) ?_
              refine sq_yes rfl rfl (less_b g15_4) rfl (ev_gtr J J) ?_
              refine sq_ev rfl (ev_pickT (v := .raw _) (less_b g15_4) J) ?_
              refine sq_nil ?_
              refine aw_cond J (fun c_99 => ?_) (fun c_99 => ?_)
              · skip
                have c_99' := c_99
                try simp only [qq] at c_99'
                have eR : (rowOf x.s.wide.toNat c seen m (k + 1)).map (fun x => [C x]) = (rowOf x.s.wide.toNat c seen m k).map (fun x => [C x]) ++ [[C c[m][k]]] := by rw [rowOf_succ, cell_yes hnL (by omega) hmc (by omega), List.map_append]; rfl
                refine aw_region ?_
                first | refine mvs rfl J ?_ | refine sq_ev rfl (ev_mv (v := .own _ _ _) J) ?_ | refine mvr J rfl ?_ | refine sq_ev rfl (ev_mv (v := .slx _ _) J) ?_ | refine sq_ev rfl (ev_mv (v := .msl _ _ _ _) J) ?_
                first | refine mvs rfl J ?_ | refine sq_ev rfl (ev_mv (v := .own _ _ _) J) ?_ | refine mvr J rfl ?_ | refine sq_ev rfl (ev_mv (v := .slx _ _) J) ?_ | refine sq_ev rfl (ev_mv (v := .msl _ _ _ _) J) ?_
                refine mvr J rfl ?_
                first | refine sq_ev rfl (ev_index_map sl24.h J J rfl (by omega)) ?_ | refine sq_ev rfl (ev_index sl24.h J J rfl rfl) ?_
                first | refine sq_ev rfl (ev_load J rfl ty9.h rfl) ?_ | refine sq_ev rfl (ev_load_i J ty9.h rfl) ?_
                refine mvr J rfl (sq_ev rfl (ev_idxS Tryz.underlying9 J J rfl (by omega)) ?_)
                refine sq_ev rfl (ev_buildSlice (es := [[_]]) sf92.h rfl rfl rfl rfl) ?_
                first | refine sq_append rfl sf92.h Tryz.underlying92 rfl rfl J (Nat.succ_pos _) (by simp; omega) (by simp; omega) ?_ | refine sq_append rfl sf92.h Tryz.underlying92 rfl rfl (less_slx _ _) (Nat.succ_pos _) (by simp; omega) (by simp; omega) ?_
                first | refine ass rfl J ?_ | refine sq_ev rfl (ev_as (v := .own _ _ _) J) ?_ | refine asr J rfl ?_ | refine sq_ev rfl (ev_as (v := .slx _ _) J) ?_ | refine sq_ev rfl (ev_as (v := .msl _ _ _ _) J) ?_
                refine sq_nil (aw_region (mvr J rfl (sq_ev rfl (ev_add J J (wr (by omega) (by omega))) ?_)))
                refine asr J rfl (sq_nil ?_)
                exact ⟨⟨k + 1, by omega⟩, by simp only; omega, Sub.fin 5 ⟨Less.eq (b := .own 4 1 ((rowOf x.s.wide.toNat c seen m (k + 1)).map fun x => [C x])) (by rw [eR] <;> rfl), J, J, J, J, J, J, J, J, J, trivial⟩ (congrArg (fun n => [_, _, _, _, AObj.tok n]) (congrArg List.length eR.symm)) (by simp [slotsIn, objsIn, sget, keepS, AObj.inB, AV.inB, AV.inL, AV.inE, inE_map, inE_bys, inE_rds, inE_ints, inE_strs, inE_figs, inE_cloths, -List.map_append, -List.map_take, -List.map_map]) (by simp [slotsIn, objsIn, sget, keepS, AObj.inB, AV.inB, AV.inL, AV.inE, inE_map, inE_bys, inE_rds, inE_ints, inE_strs, inE_figs, inE_cloths, -List.map_append, -List.map_take, -List.map_map]) (by simp [he0])⟩
              · skip
                have c_99' := c_99
                try simp only [qq] at c_99'
                have eR : (rowOf x.s.wide.toNat c seen m (k + 1)).map (fun x => [C x]) = (rowOf x.s.wide.toNat c seen m k).map (fun x => [C x]) ++ [[C 63]] := by rw [rowOf_succ, cell_no2 hnL (by omega), List.map_append]; rfl
                refine aw_region ?_
                first | refine mvs rfl J ?_ | refine sq_ev rfl (ev_mv (v := .own _ _ _) J) ?_ | refine mvr J rfl ?_ | refine sq_ev rfl (ev_mv (v := .slx _ _) J) ?_ | refine sq_ev rfl (ev_mv (v := .msl _ _ _ _) J) ?_
                refine sq_ev rfl (ev_buildSlice (es := [[_]]) sf92.h rfl rfl rfl rfl) ?_
                first | refine sq_append rfl sf92.h Tryz.underlying92 rfl rfl J (Nat.succ_pos _) (by simp; omega) (by simp; omega) ?_ | refine sq_append rfl sf92.h Tryz.underlying92 rfl rfl (less_slx _ _) (Nat.succ_pos _) (by simp; omega) (by simp; omega) ?_
                first | refine ass rfl J ?_ | refine sq_ev rfl (ev_as (v := .own _ _ _) J) ?_ | refine asr J rfl ?_ | refine sq_ev rfl (ev_as (v := .slx _ _) J) ?_ | refine sq_ev rfl (ev_as (v := .msl _ _ _ _) J) ?_
                refine sq_nil (aw_region (mvr J rfl (sq_ev rfl (ev_add J J (wr (by omega) (by omega))) ?_)))
                refine asr J rfl (sq_nil ?_)
                exact ⟨⟨k + 1, by omega⟩, by simp only; omega, Sub.fin 5 ⟨Less.eq (b := .own 4 1 ((rowOf x.s.wide.toNat c seen m (k + 1)).map fun x => [C x])) (by rw [eR] <;> rfl), J, J, J, J, J, J, J, J, J, trivial⟩ (congrArg (fun n => [_, _, _, _, AObj.tok n]) (congrArg List.length eR.symm)) (by simp [slotsIn, objsIn, sget, keepS, AObj.inB, AV.inB, AV.inL, AV.inE, inE_map, inE_bys, inE_rds, inE_ints, inE_strs, inE_figs, inE_cloths, -List.map_append, -List.map_take, -List.map_map]) (by simp [slotsIn, objsIn, sget, keepS, AObj.inB, AV.inB, AV.inL, AV.inE, inE_map, inE_bys, inE_rds, inE_ints, inE_strs, inE_figs, inE_cloths, -List.map_append, -List.map_take, -List.map_map]) (by simp [he0])⟩
            · skip
              have g15_4' := g15_4
              try simp only [qq] at g15_4'
              have eR : (rowOf x.s.wide.toNat c seen m (k + 1)).map (fun x => [C x]) = (rowOf x.s.wide.toNat c seen m k).map (fun x => [C x]) ++ [[C 63]] := by rw [rowOf_succ, cell_no1 (by omega), List.map_append]; rfl
              refine sq_no rfl rfl (less_b g15_4) rfl rfl ?_
              refine sq_no rfl rfl (less_b g15_4) rfl rfl ?_
              refine sq_no rfl rfl (less_b g15_4) rfl rfl ?_
              refine sq_no rfl rfl (less_b g15_4) rfl rfl ?_
              refine sq_no rfl rfl (less_b g15_4) rfl rfl ?_
              refine sq_ev rfl (ev_pickF (v := .raw _) (less_b g15_4) J) ?_
              refine sq_nil ?_
              refine aw_false J ?_
              refine aw_region ?_
              first | refine mvs rfl J ?_ | refine sq_ev rfl (ev_mv (v := .own _ _ _) J) ?_ | refine mvr J rfl ?_ | refine sq_ev rfl (ev_mv (v := .slx _ _) J) ?_ | refine sq_ev rfl (ev_mv (v := .msl _ _ _ _) J) ?_
              refine sq_ev rfl (ev_buildSlice (es := [[_]]) sf92.h rfl rfl rfl rfl) ?_
              first | refine sq_append rfl sf92.h Tryz.underlying92 rfl rfl J (Nat.succ_pos _) (by simp; omega) (by simp; omega) ?_ | refine sq_append rfl sf92.h Tryz.underlying92 rfl rfl (less_slx _ _) (Nat.succ_pos _) (by simp; omega) (by simp; omega) ?_
              first | refine ass rfl J ?_ | refine sq_ev rfl (ev_as (v := .own _ _ _) J) ?_ | refine asr J rfl ?_ | refine sq_ev rfl (ev_as (v := .slx _ _) J) ?_ | refine sq_ev rfl (ev_as (v := .msl _ _ _ _) J) ?_
              refine sq_nil (aw_region (mvr J rfl (sq_ev rfl (ev_add J J (wr (by omega) (by omega))) ?_)))
              refine asr J rfl (sq_nil ?_)
              exact ⟨⟨k + 1, by omega⟩, by simp only; omega, Sub.fin 5 ⟨Less.eq (b := .own 4 1 ((rowOf x.s.wide.toNat c seen m (k + 1)).map fun x => [C x])) (by rw [eR] <;> rfl), J, J, J, J, J, J, J, J, J, trivial⟩ (congrArg (fun n => [_, _, _, _, AObj.tok n]) (congrArg List.length eR.symm)) (by simp [slotsIn, objsIn, sget, keepS, AObj.inB, AV.inB, AV.inL, AV.inE, inE_map, inE_bys, inE_rds, inE_ints, inE_strs, inE_figs, inE_cloths, -List.map_append, -List.map_take, -List.map_map]) (by simp [slotsIn, objsIn, sget, keepS, AObj.inB, AV.inB, AV.inL, AV.inE, inE_map, inE_bys, inE_rds, inE_ints, inE_strs, inE_figs, inE_cloths, -List.map_append, -List.map_take, -List.map_map]) (by simp [he0])⟩
          · skip
            have c_80' := c_80
            try simp only [qq] at c_80'
            obtain rfl : k = x.s.wide.toNat := by omega
            have eS : (seenBy x.s.wide.toNat c seen (m + 1)).map (fun x => [S x]) = (seenBy x.s.wide.toNat c seen m).map (fun x => [S x]) ++ [[S (rowOf x.s.wide.toNat c seen m x.s.wide.toNat)]] := by rw [seenBy_succ, List.map_append]; rfl
            refine aw_exit (aw_region ?_)
            first | refine mvs rfl J ?_ | refine sq_ev rfl (ev_mv (v := .own _ _ _) J) ?_ | refine mvr J rfl ?_ | refine sq_ev rfl (ev_mv (v := .slx _ _) J) ?_ | refine sq_ev rfl (ev_mv (v := .msl _ _ _ _) J) ?_
            first | refine mvs rfl J ?_ | refine sq_ev rfl (ev_mv (v := .own _ _ _) J) ?_ | refine mvr J rfl ?_ | refine sq_ev rfl (ev_mv (v := .slx _ _) J) ?_ | refine sq_ev rfl (ev_mv (v := .msl _ _ _ _) J) ?_
            refine sq_ev rfl (ev_less (ev_bytesS (ns := (rowOf x.s.wide.toNat c seen m x.s.wide.toNat).map fun (x : UInt8) => ((x.toNat : Nat) : Int)) Tryz.underlying92 Tryz.underlying5 Tryz.underlying9 (Less.trans (less_own _ _ _) (Less.eq (bys_ints (rowOf x.s.wide.toNat c seen m x.s.wide.toNat))))) (Less.eq (congrArg S (bys_back (rowOf x.s.wide.toNat c seen m x.s.wide.toNat))))) ?_
            refine sq_ev rfl (ev_buildSlice (es := [[_]]) sf24.h rfl rfl rfl rfl) ?_
            first | refine sq_append rfl sf24.h Tryz.underlying24 rfl rfl J (Nat.succ_pos _) (by simp; omega) (by simp; omega) ?_ | refine sq_append rfl sf24.h Tryz.underlying24 rfl rfl (less_slx _ _) (Nat.succ_pos _) (by simp; omega) (by simp; omega) ?_
            first | refine ass rfl J ?_ | refine sq_ev rfl (ev_as (v := .own _ _ _) J) ?_ | refine asr J rfl ?_ | refine sq_ev rfl (ev_as (v := .slx _ _) J) ?_ | refine sq_ev rfl (ev_as (v := .msl _ _ _ _) J) ?_
            refine sq_nil (aw_region (mvr J rfl (sq_ev rfl (ev_add J J (wr (by omega) (by omega))) ?_)))
            refine asr J rfl (sq_nil ?_)
            exact ⟨⟨m + 1, by omega⟩, by simp only; omega, Sub.fin 4 ⟨Less.eq (b := .own 3 1 ((seenBy x.s.wide.toNat c seen (m + 1)).map fun x => [S x])) (by rw [eS] <;> rfl), J, J, J, J, J, J, J, trivial⟩ (congrArg (fun n => [_, _, _, AObj.tok n]) (congrArg List.length eS.symm)) (by simp [slotsIn, objsIn, sget, keepS, AObj.inB, AV.inB, AV.inL, AV.inE, inE_map, inE_bys, inE_rds, inE_ints, inE_strs, inE_figs, inE_cloths, -List.map_append, -List.map_take, -List.map_map]) (by simp [slotsIn, objsIn, sget, keepS, AObj.inB, AV.inB, AV.inL, AV.inE, inE_map, inE_bys, inE_rds, inE_ints, inE_strs, inE_figs, inE_cloths, -List.map_append, -List.map_take, -List.map_map]) (by simp [he0])⟩
        · skip
          have c_74' := c_74
          try simp only [qq] at c_74'
          obtain rfl : m = x.s.high.toNat := by omega
          refine aw_exit (aw_seq (aw_region ?_))
          first | refine sq_ev rfl (ev_load_agg J rfl ty23.h rfl) ?_ | refine sq_ev rfl (ev_load_agg_i J ty23.h (by exact Nat.le_of_ble_eq_true rfl)) ?_
          first | refine mvs rfl J ?_ | refine sq_ev rfl (ev_mv (v := .own _ _ _) J) ?_ | refine mvr J rfl ?_ | refine sq_ev rfl (ev_mv (v := .slx _ _) J) ?_ | refine sq_ev rfl (ev_mv (v := .msl _ _ _ _) J) ?_
          first | refine sq_ev rfl (ev_load_agg J rfl ty49.h rfl) ?_ | refine sq_ev rfl (ev_load_agg_i J ty49.h (by exact Nat.le_of_ble_eq_true rfl)) ?_
          refine sq_ev rfl (ev_less (ev_mv (v := .own _ _ _) J) (Less.trans (less_own _ _ _) (Less.eq (b := strs (seenBy x.s.wide.toNat c seen x.s.high.toNat)) rfl))) ?_
          refine sq_ev rfl (ev_call en78.h J (k78) ⟨J, J, J, J, trivial⟩) ?_
          refine sq_ev rfl (ev_mv (v := .tup _) J) ?_
          refine xtr rfl J rfl (xtr rfl J rfl ?_)
          first | refine ass rfl J ?_ | refine sq_ev rfl (ev_as (v := .own _ _ _) J) ?_ | refine asr J rfl ?_ | refine sq_ev rfl (ev_as (v := .slx _ _) J) ?_ | refine sq_ev rfl (ev_as (v := .msl _ _ _ _) J) ?_
          refine asr J rfl (sq_nil (aw_seq (aw_region ?_)))
          first | refine sq_ev rfl (ev_load_agg J rfl ty23.h rfl) ?_ | refine sq_ev rfl (ev_load_agg_i J ty23.h (by exact Nat.le_of_ble_eq_true rfl)) ?_
          first | refine mvs rfl J ?_ | refine sq_ev rfl (ev_mv (v := .own _ _ _) J) ?_ | refine mvr J rfl ?_ | refine sq_ev rfl (ev_mv (v := .slx _ _) J) ?_ | refine sq_ev rfl (ev_mv (v := .msl _ _ _ _) J) ?_
          first | refine sq_ev rfl (ev_load_agg J rfl ty49.h rfl) ?_ | refine sq_ev rfl (ev_load_agg_i J ty49.h (by exact Nat.le_of_ble_eq_true rfl)) ?_
          refine sq_ev rfl (ev_less (ev_mv (v := .own _ _ _) J) (Less.trans (less_own _ _ _) (Less.eq (b := strs (seenBy x.s.wide.toNat c seen x.s.high.toNat)) rfl))) ?_
          refine sq_ev rfl (ev_call en79.h J (k79) ⟨J, J, J, J, trivial⟩) ?_
          refine sq_ev rfl (ev_mv (v := .tup _) J) ?_
          refine xtr rfl J rfl (xtr rfl J rfl ?_)
          first | refine ass rfl J ?_ | refine sq_ev rfl (ev_as (v := .own _ _ _) J) ?_ | refine asr J rfl ?_ | refine sq_ev rfl (ev_as (v := .slx _ _) J) ?_ | refine sq_ev rfl (ev_as (v := .msl _ _ _ _) J) ?_
          refine asr J rfl (sq_nil (aw_seq (aw_seq (aw_region (mvr J rfl (sq_ev rfl (ev_neq J J) ?_))))))
          refine mvr J rfl (ymr rfl rfl J rfl J (sq_yes rfl rfl J rfl (ev_neq J J) ?_))
          refine pf rfl J J (mvr J rfl ?_)
          first | refine ysl rfl rfl J rfl J ?_ | refine sq_yes rfl rfl J rfl (ev_mv (v := .own _ _ _) J) ?_ | refine ymr rfl rfl J rfl J ?_ | refine sq_yes rfl rfl J rfl (ev_mv (v := .slx _ _) J) ?_ | refine sq_yes rfl rfl J rfl (ev_mv (v := .msl _ _ _ _) J) ?_
          first | refine sq_yes rfl rfl J rfl (ev_len_map sl53.h J) ?_ | refine sq_yes rfl rfl J rfl (ev_len_map sl53.h (less_own _ _ _)) ?_ | refine sq_yes rfl rfl J rfl (ev_len sl53.h J rfl) ?_ | refine sq_yes rfl rfl J rfl (ev_len sl53.h (less_own _ _ _) rfl) ?_ | refine sq_yes rfl rfl J rfl (ev_len sl53.h (less_nil _) rfl) ?_ | refine sq_yes rfl rfl J rfl (ev_len_msl sl53.h J) ?_ | refine sq_yes rfl rfl J rfl (ev_len sl53.h (less_slx _ _) rfl) ?_
          refine sq_yes rfl rfl J rfl (ev_gtr J J) ?_
          refine pf rfl J J (mvr J rfl ?_)
          refine sq_split 144 J (fun g21_11 => ?_) (fun g21_11 => ?_)
          · skip
            have g21_11' := g21_11
            try simp only [qq] at g21_11'
            first | exact absurd g21_11 (by decide) | (exfalso; simp at g21_11; done) | (exfalso; simp at g21_11; omega) | (exfalso; simp_all; done) | (exfalso; simp_all; omega)
          · skip
            have g21_11' := g21_11
            try simp only [qq] at g21_11'
            first | refine sq_yes rfl rfl (less_b g21_11) rfl (ev_mv (v := .sl _ _) J) ?_ | refine sq_yes rfl rfl (less_b g21_11) rfl (ev_mv (v := .own _ _ _) J) ?_ | refine sq_yes rfl rfl (less_b g21_11) rfl (ev_mv (v := .raw _) J) ?_ | refine sq_yes rfl rfl (less_b g21_11) rfl (ev_mv (v := .slx _ _) J) ?_ | refine sq_yes rfl rfl (less_b g21_11) rfl (ev_mv (v := .msl _ _ _ _) J) ?_
            first | refine sq_yes rfl rfl (less_b g21_11) rfl (ev_load_agg J rfl ty73.h rfl) ?_ | refine sq_yes rfl rfl (less_b g21_11) rfl (ev_load_agg_i J ty73.h (by exact Nat.le_of_ble_eq_true rfl)) ?_
            refine sq_yes rfl rfl (less_b g21_11) rfl (ev_call en83.h J (k83) ⟨J, J, trivial⟩) ?_
            refine sq_yes rfl rfl (less_b g21_11) rfl (ev_not J) ?_
            refine sq_ev rfl (ev_pickF (v := .raw _) (less_b g21_11) J) ?_
            refine mvr J rfl ?_
            first | refine ysl rfl rfl J rfl J ?_ | refine sq_yes rfl rfl J rfl (ev_mv (v := .own _ _ _) J) ?_ | refine ymr rfl rfl J rfl J ?_ | refine sq_yes rfl rfl J rfl (ev_mv (v := .slx _ _) J) ?_ | refine sq_yes rfl rfl J rfl (ev_mv (v := .msl _ _ _ _) J) ?_
            first | refine sq_yes rfl rfl J rfl (ev_len_map sl117.h J) ?_ | refine sq_yes rfl rfl J rfl (ev_len_map sl117.h (less_own _ _ _)) ?_ | refine sq_yes rfl rfl J rfl (ev_len sl117.h J rfl) ?_ | refine sq_yes rfl rfl J rfl (ev_len sl117.h (less_own _ _ _) rfl) ?_ | refine sq_yes rfl rfl J rfl (ev_len sl117.h (less_nil _) rfl) ?_ | refine sq_yes rfl rfl J rfl (ev_len_msl sl117.h J) ?_ | refine sq_yes rfl rfl J rfl (ev_len sl117.h (less_slx _ _) rfl) ?_
            first | refine ysl rfl rfl J rfl J ?_ | refine sq_yes rfl rfl J rfl (ev_mv (v := .own _ _ _) J) ?_ | refine ymr rfl rfl J rfl J ?_ | refine sq_yes rfl rfl J rfl (ev_mv (v := .slx _ _) J) ?_ | refine sq_yes rfl rfl J rfl (ev_mv (v := .msl _ _ _ _) J) ?_
            first | refine sq_yes rfl rfl J rfl (ev_len_map sl45.h J) ?_ | refine sq_yes rfl rfl J rfl (ev_len_map sl45.h (less_own _ _ _)) ?_ | refine sq_yes rfl rfl J rfl (ev_len sl45.h J rfl) ?_ | refine sq_yes rfl rfl J rfl (ev_len sl45.h (less_own _ _ _) rfl) ?_ | refine sq_yes rfl rfl J rfl (ev_len sl45.h (less_nil _) rfl) ?_ | refine sq_yes rfl rfl J rfl (ev_len_msl sl45.h J) ?_ | refine sq_yes rfl rfl J rfl (ev_len sl45.h (less_slx _ _) rfl) ?_
            refine sq_yes rfl rfl J rfl (ev_neq J J) ?_
            refine pf rfl J J (mvr J rfl ?_)
            refine sq_split 157 J (fun g21_24 => ?_) (fun g21_24 => ?_)
            · skip
              have g21_24' := g21_24
              try simp only [qq] at g21_24'
              first | exact absurd g21_24 (by decide) | (exfalso; simp at g21_24; done) | (exfalso; simp at g21_24; omega) | (exfalso; simp_all; done) | (exfalso; simp_all; omega)
            · skip
              have g21_24' := g21_24
              try simp only [qq] at g21_24'
              first | refine sq_yes rfl rfl (less_b g21_24) rfl (ev_mv (v := .sl _ _) J) ?_ | refine sq_yes rfl rfl (less_b g21_24) rfl (ev_mv (v := .own _ _ _) J) ?_ | refine sq_yes rfl rfl (less_b g21_24) rfl (ev_mv (v := .raw _) J) ?_ | refine sq_yes rfl rfl (less_b g21_24) rfl (ev_mv (v := .slx _ _) J) ?_ | refine sq_yes rfl rfl (less_b g21_24) rfl (ev_mv (v := .msl _ _ _ _) J) ?_
              first | refine sq_yes rfl rfl (less_b g21_24) rfl (ev_fieldAddr fo73_0.h J) ?_ | refine sq_yes rfl rfl (less_b g21_24) rfl (ev_fieldAddr_i fo73_0.h J) ?_
              first | refine sq_yes rfl rfl (less_b g21_24) rfl (ev_load J rfl ty3.h rfl) ?_ | refine sq_yes rfl rfl (less_b g21_24) rfl (ev_load_i J ty3.h rfl) ?_
              refine sq_yes rfl rfl (less_b g21_24) rfl (ev_index_map (k := f) sl117.h J J rfl hfV) ?_
              first | refine sq_yes rfl rfl (less_b g21_24) rfl (ev_load J rfl ty108.h rfl) ?_ | refine sq_yes rfl rfl (less_b g21_24) rfl (ev_load_i J ty108.h rfl) ?_
              refine sq_yes rfl rfl (less_b g21_24) rfl (ev_eql J J) ?_
              refine sq_ev rfl (ev_pickF (v := .raw _) (less_b g21_24) J) ?_
              refine sq_nil ?_
              refine aw_cond J (fun c_164 => ?_) (fun c_164 => ?_)
              · skip
                have c_164' := c_164
                try simp only [qq] at c_164'
                first | exact absurd c_164 (by decide) | (exfalso; simp at c_164; done) | (exfalso; simp at c_164; omega) | (exfalso; simp_all; done) | (exfalso; simp_all; omega)
              · skip
                have c_164' := c_164
                try simp only [qq] at c_164'
                refine aw_skip (aw_seq (aw_region (asr J rfl (asr J rfl ?_))))
                refine sq_nil (aw_seq (aw_seq (aw_region (asr J rfl (sq_nil (aw_block ?_))))))
                refine aw_loopk (ι := { k : Nat // k ≤ V.length }) [1, 5, 7, 8, 13, 18, 20] (fun g => [(22, I (cntW V 2 g.1)), (23, I (cntW V 3 g.1)), (24, I g.1)]) (fun H g => H) (fun g => V.length - g.1) (⟨0, Nat.zero_le _⟩) ⟨J, J, J, J, J, J, J, J, J, J, trivial⟩ rfl ?_
                rintro ⟨k, hk⟩
                dsimp only [keepS, St.put, sget, slotsOf, nn1, nn2, nn3, nn4, nn5, nn6, Nat.reduceBEq, Nat.reduceAdd, nn7, nn8]
                have hb2 := cntW_bd V 2 k
                have hb3 := cntW_bd V 3 k
                refine aw_seq (aw_seq (aw_region (mvr J rfl ?_)))
                first | refine mvs rfl J ?_ | refine sq_ev rfl (ev_mv (v := .own _ _ _) J) ?_ | refine mvr J rfl ?_ | refine sq_ev rfl (ev_mv (v := .slx _ _) J) ?_ | refine sq_ev rfl (ev_mv (v := .msl _ _ _ _) J) ?_
                first | refine sq_ev rfl (ev_len_map sl117.h J) ?_ | refine sq_ev rfl (ev_len_map sl117.h (less_own _ _ _)) ?_ | refine sq_ev rfl (ev_len sl117.h J rfl) ?_ | refine sq_ev rfl (ev_len sl117.h (less_own _ _ _) rfl) ?_ | refine sq_ev rfl (ev_len sl117.h (less_nil _) rfl) ?_ | refine sq_ev rfl (ev_len_msl sl117.h J) ?_ | refine sq_ev rfl (ev_len sl117.h (less_slx _ _) rfl) ?_
                refine sq_ev rfl (ev_lss J J) ?_
                refine sq_nil ?_
                refine aw_cond J (fun c_168 => ?_) (fun c_168 => ?_)
                · skip
                  have c_168' := c_168
                  try simp only [qq] at c_168'
                  have hkL : k < V.length := by omega
                  have hv3 := hV3 k hkL
                  refine aw_skip (aw_seq (aw_block (aw_seq (aw_seq (aw_region ?_)))))
                  first | refine mvs rfl J ?_ | refine sq_ev rfl (ev_mv (v := .own _ _ _) J) ?_ | refine mvr J rfl ?_ | refine sq_ev rfl (ev_mv (v := .slx _ _) J) ?_ | refine sq_ev rfl (ev_mv (v := .msl _ _ _ _) J) ?_
                  refine mvr J rfl ?_
                  first | refine sq_ev rfl (ev_index_map sl117.h J J rfl (by omega)) ?_ | refine sq_ev rfl (ev_index sl117.h J J rfl rfl) ?_
                  first | refine sq_ev rfl (ev_load J rfl ty108.h rfl) ?_ | refine sq_ev rfl (ev_load_i J ty108.h rfl) ?_
                  refine sq_ev rfl (ev_lss J J) ?_
                  refine mvr J rfl ?_
                  refine sq_split 176 J (fun g27_5 => ?_) (fun g27_5 => ?_)
                  · skip
                    have g27_5' := g27_5
                    try simp only [qq] at g27_5'
                    first | exact absurd g27_5 (by decide) | (exfalso; simp at g27_5; done) | (exfalso; simp at g27_5; omega) | (exfalso; simp_all; done) | (exfalso; simp_all; omega)
                  · skip
                    have g27_5' := g27_5
                    try simp only [qq] at g27_5'
                    first | refine sq_yes rfl rfl (less_b g27_5) rfl (ev_mv (v := .sl _ _) J) ?_ | refine sq_yes rfl rfl (less_b g27_5) rfl (ev_mv (v := .own _ _ _) J) ?_ | refine sq_yes rfl rfl (less_b g27_5) rfl (ev_mv (v := .raw _) J) ?_ | refine sq_yes rfl rfl (less_b g27_5) rfl (ev_mv (v := .slx _ _) J) ?_ | refine sq_yes rfl rfl (less_b g27_5) rfl (ev_mv (v := .msl _ _ _ _) J) ?_
                    refine sq_yes rfl rfl (less_b g27_5) rfl (ev_mv (v := .raw _) J) ?_
                    first | refine sq_yes rfl rfl (less_b g27_5) rfl (ev_index_map sl117.h J J rfl (by omega)) ?_ | refine sq_yes rfl rfl (less_b g27_5) rfl (ev_index sl117.h J J rfl rfl) ?_
                    first | refine sq_yes rfl rfl (less_b g27_5) rfl (ev_load J rfl ty108.h rfl) ?_ | refine sq_yes rfl rfl (less_b g27_5) rfl (ev_load_i J ty108.h rfl) ?_
                    refine sq_yes rfl rfl (less_b g27_5) rfl (ev_gtr J J) ?_
                    refine sq_ev rfl (ev_pickF (v := .raw _) (less_b g27_5) J) ?_
                    refine sq_nil ?_
                    refine aw_cond J (fun c_182 => ?_) (fun c_182 => ?_)
                    · skip
                      have c_182' := c_182
                      try simp only [qq] at c_182'
                      first | exact absurd c_182 (by decide) | (exfalso; simp at c_182; done) | (exfalso; simp at c_182; omega) | (exfalso; simp_all; done) | (exfalso; simp_all; omega)
                    · skip
                      have c_182' := c_182
                      try simp only [qq] at c_182'
                      refine aw_skip (aw_seq (aw_seq (aw_region ?_)))
                      first | refine mvs rfl J ?_ | refine sq_ev rfl (ev_mv (v := .own _ _ _) J) ?_ | refine mvr J rfl ?_ | refine sq_ev rfl (ev_mv (v := .slx _ _) J) ?_ | refine sq_ev rfl (ev_mv (v := .msl _ _ _ _) J) ?_
                      refine mvr J rfl ?_
                      first | refine sq_ev rfl (ev_index_map sl117.h J J rfl (by omega)) ?_ | refine sq_ev rfl (ev_index sl117.h J J rfl rfl) ?_
                      first | refine sq_ev rfl (ev_load J rfl ty108.h rfl) ?_ | refine sq_ev rfl (ev_load_i J ty108.h rfl) ?_
                      refine sq_ev rfl (ev_eql J J) ?_
                      refine sq_nil ?_
                      refine aw_cond J (fun c_187 => ?_) (fun c_187 => ?_)
                      · skip
                        have c_187' := c_187
                        try simp only [qq] at c_187'
                        have e2 : cntW V 2 k + 1 = cntW V 2 (k + 1) := by rw [cntW_succ hkL, if_pos c_187']
                        refine aw_region (mvr J rfl (sq_ev rfl (ev_add J J (wr (by omega) (by omega))) ?_))
                        refine asr J rfl (sq_nil (aw_seq (aw_region ?_)))
                        first | refine mvs rfl J ?_ | refine sq_ev rfl (ev_mv (v := .own _ _ _) J) ?_ | refine mvr J rfl ?_ | refine sq_ev rfl (ev_mv (v := .slx _ _) J) ?_ | refine sq_ev rfl (ev_mv (v := .msl _ _ _ _) J) ?_
                        refine mvr J rfl ?_
                        first | refine sq_ev rfl (ev_index_map sl117.h J J rfl (by omega)) ?_ | refine sq_ev rfl (ev_index sl117.h J J rfl rfl) ?_
                        first | refine sq_ev rfl (ev_load J rfl ty108.h rfl) ?_ | refine sq_ev rfl (ev_load_i J ty108.h rfl) ?_
                        refine sq_ev rfl (ev_eql J J) ?_
                        refine sq_nil ?_
                        refine aw_cond J (fun c_194 => ?_) (fun c_194 => ?_)
                        · skip
                          have c_194' := c_194
                          try simp only [qq] at c_194'
                          have e3 : cntW V 3 k + 1 = cntW V 3 (k + 1) := by rw [cntW_succ hkL, if_pos c_194']
                          exfalso; omega
                        · skip
                          have c_194' := c_194
                          try simp only [qq] at c_194'
                          have e3 : cntW V 3 k = cntW V 3 (k + 1) := by rw [cntW_succ hkL, if_neg (by omega)]; omega
                          refine aw_skip (aw_region (mvr J rfl (sq_ev rfl (ev_add J J (wr (by omega) (by omega))) ?_)))
                          refine asr J rfl (sq_nil ?_)
                          exact ⟨⟨k + 1, by omega⟩, by simp only; omega, Sub.fin 4 ⟨(by exact less_int e2), (by exact less_int e3), J, J, J, J, J, J, J, J, trivial⟩ rfl (by simp [slotsIn, objsIn, sget, keepS, AObj.inB, AV.inB, AV.inL, AV.inE, inE_map, inE_bys, inE_rds, inE_ints, inE_strs, inE_figs, inE_cloths, -List.map_append, -List.map_take, -List.map_map]) (by simp [slotsIn, objsIn, sget, keepS, AObj.inB, AV.inB, AV.inL, AV.inE, inE_map, inE_bys, inE_rds, inE_ints, inE_strs, inE_figs, inE_cloths, -List.map_append, -List.map_take, -List.map_map]) (by simp [he0])⟩
                      · skip
                        have c_187' := c_187
                        try simp only [qq] at c_187'
                        have e2 : cntW V 2 k = cntW V 2 (k + 1) := by rw [cntW_succ hkL, if_neg (by omega)]; omega
                        refine aw_skip (aw_seq (aw_region ?_))
                        first | refine mvs rfl J ?_ | refine sq_ev rfl (ev_mv (v := .own _ _ _) J) ?_ | refine mvr J rfl ?_ | refine sq_ev rfl (ev_mv (v := .slx _ _) J) ?_ | refine sq_ev rfl (ev_mv (v := .msl _ _ _ _) J) ?_
                        refine mvr J rfl ?_
                        first | refine sq_ev rfl (ev_index_map sl117.h J J rfl (by omega)) ?_ | refine sq_ev rfl (ev_index sl117.h J J rfl rfl) ?_
                        first | refine sq_ev rfl (ev_load J rfl ty108.h rfl) ?_ | refine sq_ev rfl (ev_load_i J ty108.h rfl) ?_
                        refine sq_ev rfl (ev_eql J J) ?_
                        refine sq_nil ?_
                        refine aw_cond J (fun c_194 => ?_) (fun c_194 => ?_)
                        · skip
                          have c_194' := c_194
                          try simp only [qq] at c_194'
                          have e3 : cntW V 3 k + 1 = cntW V 3 (k + 1) := by rw [cntW_succ hkL, if_pos c_194']
                          refine aw_region (mvr J rfl (sq_ev rfl (ev_add J J (wr (by omega) (by omega))) ?_))
                          refine asr J rfl (sq_nil (aw_region (mvr J rfl (sq_ev rfl (ev_add J J (wr (by omega) (by omega))) ?_))))
                          refine asr J rfl (sq_nil ?_)
                          exact ⟨⟨k + 1, by omega⟩, by simp only; omega, Sub.fin 4 ⟨(by exact less_int e2), (by exact less_int e3), J, J, J, J, J, J, J, J, trivial⟩ rfl (by simp [slotsIn, objsIn, sget, keepS, AObj.inB, AV.inB, AV.inL, AV.inE, inE_map, inE_bys, inE_rds, inE_ints, inE_strs, inE_figs, inE_cloths, -List.map_append, -List.map_take, -List.map_map]) (by simp [slotsIn, objsIn, sget, keepS, AObj.inB, AV.inB, AV.inL, AV.inE, inE_map, inE_bys, inE_rds, inE_ints, inE_strs, inE_figs, inE_cloths, -List.map_append, -List.map_take, -List.map_map]) (by simp [he0])⟩
                        · skip
                          have c_194' := c_194
                          try simp only [qq] at c_194'
                          have e3 : cntW V 3 k = cntW V 3 (k + 1) := by rw [cntW_succ hkL, if_neg (by omega)]; omega
                          refine aw_skip (aw_region (mvr J rfl (sq_ev rfl (ev_add J J (wr (by omega) (by omega))) ?_)))
                          refine asr J rfl (sq_nil ?_)
                          exact ⟨⟨k + 1, by omega⟩, by simp only; omega, Sub.fin 4 ⟨(by exact less_int e2), (by exact less_int e3), J, J, J, J, J, J, J, J, trivial⟩ rfl (by simp [slotsIn, objsIn, sget, keepS, AObj.inB, AV.inB, AV.inL, AV.inE, inE_map, inE_bys, inE_rds, inE_ints, inE_strs, inE_figs, inE_cloths, -List.map_append, -List.map_take, -List.map_map]) (by simp [slotsIn, objsIn, sget, keepS, AObj.inB, AV.inB, AV.inL, AV.inE, inE_map, inE_bys, inE_rds, inE_ints, inE_strs, inE_figs, inE_cloths, -List.map_append, -List.map_take, -List.map_map]) (by simp [he0])⟩
                · skip
                  have c_168' := c_168
                  try simp only [qq] at c_168'
                  obtain rfl : k = V.length := by omega
                  refine aw_exit (aw_seq (aw_seq (aw_region (mvr J rfl (sq_ev rfl (ev_gtr J J) ?_)))))
                  refine mvr J rfl ?_
                  refine sq_split 199 J (fun g33_2 => ?_) (fun g33_2 => ?_)
                  · skip
                    have g33_2' := g33_2
                    try simp only [qq] at g33_2'
                    first | exact absurd g33_2 (by decide) | (exfalso; simp at g33_2; done) | (exfalso; simp at g33_2; omega) | (exfalso; simp_all; done) | (exfalso; simp_all; omega)
                  · skip
                    have g33_2' := g33_2
                    try simp only [qq] at g33_2'
                    refine sq_yes rfl rfl (less_b g33_2) rfl (ev_mv (v := .raw _) J) ?_
                    refine sq_yes rfl rfl (less_b g33_2) rfl (ev_eql J J) ?_
                    refine sq_yes rfl rfl (less_b g33_2) rfl (ev_mv (v := .raw _) J) ?_
                    refine sq_split 202 J (fun g33_5 => ?_) (fun g33_5 => ?_)
                    · skip
                      have g33_5' := g33_5
                      try simp only [qq] at g33_5'
                      refine sq_yes rfl rfl (less_b g33_5) rfl (ev_mv (v := .raw _) J) ?_
                      refine sq_yes rfl rfl (less_b g33_5) rfl (ev_gtr J J) ?_
                      refine sq_yes rfl rfl (less_b g33_5) rfl (ev_mv (v := .raw _) J) ?_
                      refine sq_split 205 J (fun g33_8 => ?_) (fun g33_8 => ?_)
                      · skip
                        have g33_8' := g33_8
                        try simp only [qq] at g33_8'
                        first | exact absurd g33_8 (by decide) | (exfalso; simp at g33_8; done) | (exfalso; simp at g33_8; omega) | (exfalso; simp_all; done) | (exfalso; simp_all; omega)
                      · skip
                        have g33_8' := g33_8
                        try simp only [qq] at g33_8'
                        first | refine sq_yes rfl rfl (less_b g33_8) rfl (ev_mv (v := .sl _ _) J) ?_ | refine sq_yes rfl rfl (less_b g33_8) rfl (ev_mv (v := .own _ _ _) J) ?_ | refine sq_yes rfl rfl (less_b g33_8) rfl (ev_mv (v := .raw _) J) ?_ | refine sq_yes rfl rfl (less_b g33_8) rfl (ev_mv (v := .slx _ _) J) ?_ | refine sq_yes rfl rfl (less_b g33_8) rfl (ev_mv (v := .msl _ _ _ _) J) ?_
                        first | refine sq_yes rfl rfl (less_b g33_8) rfl (ev_fieldAddr fo73_0.h J) ?_ | refine sq_yes rfl rfl (less_b g33_8) rfl (ev_fieldAddr_i fo73_0.h J) ?_
                        first | refine sq_yes rfl rfl (less_b g33_8) rfl (ev_load J rfl ty3.h rfl) ?_ | refine sq_yes rfl rfl (less_b g33_8) rfl (ev_load_i J ty3.h rfl) ?_
                        refine sq_yes rfl rfl (less_b g33_8) rfl (ev_index_map (k := f) sl117.h J J rfl hfV) ?_
                        first | refine sq_yes rfl rfl (less_b g33_8) rfl (ev_load J rfl ty108.h rfl) ?_ | refine sq_yes rfl rfl (less_b g33_8) rfl (ev_load_i J ty108.h rfl) ?_
                        refine sq_yes rfl rfl (less_b g33_8) rfl (ev_neq J J) ?_
                        refine sq_yes rfl rfl (less_b g33_5) rfl (ev_pickF (v := .raw _) (less_b g33_8) J) ?_
                        refine sq_yes rfl rfl (less_b g33_2) rfl (ev_pickT (v := .raw _) (less_b g33_5) J) ?_
                        refine sq_ev rfl (ev_pickF (v := .raw _) (less_b g33_2) J) ?_
                        refine mvr J rfl ?_
                        refine sq_split 215 J (fun g33_18 => ?_) (fun g33_18 => ?_)
                        · skip
                          have g33_18' := g33_18
                          try simp only [qq] at g33_18'
                          first | exact absurd g33_18 (by decide) | (exfalso; simp at g33_18; done) | (exfalso; simp at g33_18; omega) | (exfalso; simp_all; done) | (exfalso; simp_all; omega)
                        · skip
                          have g33_18' := g33_18
                          try simp only [qq] at g33_18'
                          refine sq_yes rfl rfl (less_b g33_18) rfl (ev_mv (v := .raw _) J) ?_
                          refine sq_yes rfl rfl (less_b g33_18) rfl (ev_eql J J) ?_
                          refine sq_yes rfl rfl (less_b g33_18) rfl (ev_mv (v := .raw _) J) ?_
                          refine sq_split 218 J (fun g33_21 => ?_) (fun g33_21 => ?_)
                          · skip
                            have g33_21' := g33_21
                            try simp only [qq] at g33_21'
                            refine sq_yes rfl rfl (less_b g33_21) rfl (ev_mv (v := .raw _) J) ?_
                            refine sq_yes rfl rfl (less_b g33_21) rfl (ev_lss J J) ?_
                            refine sq_yes rfl rfl (less_b g33_18) rfl (ev_pickT (v := .raw _) (less_b g33_21) J) ?_
                            refine sq_ev rfl (ev_pickF (v := .raw _) (less_b g33_18) J) ?_
                            refine sq_nil ?_
                            refine aw_cond J (fun c_222 => ?_) (fun c_222 => ?_)
                            · skip
                              have c_222' := c_222
                              try simp only [qq] at c_222'
                              first | exact absurd c_222 (by decide) | (exfalso; simp at c_222; done) | (exfalso; simp at c_222; omega) | (exfalso; simp_all; done) | (exfalso; simp_all; omega)
                            · skip
                              have c_222' := c_222
                              try simp only [qq] at c_222'
                              refine aw_skip (aw_seq (aw_seq (aw_region (asr J rfl (sq_nil (aw_block ?_))))))
                              refine aw_loopk (ι := { k : Nat // k ≤ A.length }) [1, 5, 7, 13, 18, 20] (fun g => [(25, I g.1)]) (fun H g => H) (fun g => A.length - g.1) (⟨0, Nat.zero_le _⟩) ⟨J, J, J, J, J, J, J, trivial⟩ rfl ?_
                              rintro ⟨k, hk⟩
                              dsimp only [keepS, St.put, sget, slotsOf, nn1, nn2, nn3, nn4, nn5, nn6, Nat.reduceBEq, Nat.reduceAdd, nn7, nn8]
                              refine aw_seq (aw_seq (aw_region (mvr J rfl ?_)))
                              first | refine mvs rfl J ?_ | refine sq_ev rfl (ev_mv (v := .own _ _ _) J) ?_ | refine mvr J rfl ?_ | refine sq_ev rfl (ev_mv (v := .slx _ _) J) ?_ | refine sq_ev rfl (ev_mv (v := .msl _ _ _ _) J) ?_
                              first | refine sq_ev rfl (ev_len_map sl53.h J) ?_ | refine sq_ev rfl (ev_len_map sl53.h (less_own _ _ _)) ?_ | refine sq_ev rfl (ev_len sl53.h J rfl) ?_ | refine sq_ev rfl (ev_len sl53.h (less_own _ _ _) rfl) ?_ | refine sq_ev rfl (ev_len sl53.h (less_nil _) rfl) ?_ | refine sq_ev rfl (ev_len_msl sl53.h J) ?_ | refine sq_ev rfl (ev_len sl53.h (less_slx _ _) rfl) ?_
                              refine sq_ev rfl (ev_lss J J) ?_
                              refine sq_nil ?_
                              refine aw_cond J (fun c_226 => ?_) (fun c_226 => ?_)
                              · skip
                                have c_226' := c_226
                                try simp only [qq] at c_226'
                                have hkL : k < A.length := by omega
                                obtain ⟨hq, hq2, k49r, hq3, k28r, k29r, k50r⟩ := hA _ (List.getElem_mem hkL)
                                refine aw_skip (aw_seq (aw_block (aw_seq (aw_seq ?_))))
                                refine aw_draw 19 mo (by kernel_rfl) ?_
                                first | refine dr_ev rfl (ev_mv (v := .sl _ _) J) ?_ | refine dr_ev rfl (ev_mv (v := .own _ _ _) J) ?_ | refine dr_ev rfl (ev_mv (v := .raw _) J) ?_ | refine dr_ev rfl (ev_mv (v := .slx _ _) J) ?_ | refine dr_ev rfl (ev_mv (v := .msl _ _ _ _) J) ?_
                                first | refine dr_ev rfl (ev_load_agg J rfl ty49.h rfl) ?_ | refine dr_ev rfl (ev_load_agg_i J ty49.h (by exact Nat.le_of_ble_eq_true rfl)) ?_
                                first | refine dr_ev rfl (ev_mv (v := .sl _ _) J) ?_ | refine dr_ev rfl (ev_mv (v := .own _ _ _) J) ?_ | refine dr_ev rfl (ev_mv (v := .raw _) J) ?_ | refine dr_ev rfl (ev_mv (v := .slx _ _) J) ?_ | refine dr_ev rfl (ev_mv (v := .msl _ _ _ _) J) ?_
                                refine dr_ev rfl (ev_mv (v := .raw _) J) ?_
                                first | refine dr_ev rfl (ev_index_map sl53.h J J rfl (by omega)) ?_ | refine dr_ev rfl (ev_index sl53.h J J rfl rfl) ?_
                                first | refine dr_ev rfl (ev_load_agg J rfl ty73.h rfl) ?_ | refine dr_ev rfl (ev_load_agg_i J ty73.h (by exact Nat.le_of_ble_eq_true rfl)) ?_
                                refine dr_ev rfl (ev_call en49.h J (k49r) ⟨J, J, J, trivial⟩) ?_
                                refine dr_ev rfl (ev_not J) ?_
                                refine dr_ev rfl (ev_mv (v := .raw _) J) ?_
                                refine dr_split 237 J (fun g38_8 => ?_) (fun g38_8 => ?_)
                                · skip
                                  have g38_8' := g38_8
                                  try simp only [qq] at g38_8'
                                  first | exact absurd g38_8 (by decide) | (exfalso; simp at g38_8; done) | (exfalso; simp at g38_8; omega) | (exfalso; simp_all; done) | (exfalso; simp_all; omega)
                                · skip
                                  have g38_8' := g38_8
                                  try simp only [qq] at g38_8'
                                  first | refine dr_yes rfl rfl (less_b g38_8) rfl (ev_mv (v := .sl _ _) J) ?_ | refine dr_yes rfl rfl (less_b g38_8) rfl (ev_mv (v := .own _ _ _) J) ?_ | refine dr_yes rfl rfl (less_b g38_8) rfl (ev_mv (v := .raw _) J) ?_ | refine dr_yes rfl rfl (less_b g38_8) rfl (ev_mv (v := .slx _ _) J) ?_ | refine dr_yes rfl rfl (less_b g38_8) rfl (ev_mv (v := .msl _ _ _ _) J) ?_
                                  first | refine dr_yes rfl rfl (less_b g38_8) rfl (ev_mv (v := .sl _ _) J) ?_ | refine dr_yes rfl rfl (less_b g38_8) rfl (ev_mv (v := .own _ _ _) J) ?_ | refine dr_yes rfl rfl (less_b g38_8) rfl (ev_mv (v := .raw _) J) ?_ | refine dr_yes rfl rfl (less_b g38_8) rfl (ev_mv (v := .slx _ _) J) ?_ | refine dr_yes rfl rfl (less_b g38_8) rfl (ev_mv (v := .msl _ _ _ _) J) ?_
                                  refine dr_yes rfl rfl (less_b g38_8) rfl (ev_mv (v := .raw _) J) ?_
                                  first | refine dr_yes rfl rfl (less_b g38_8) rfl (ev_index_map sl53.h J J rfl (by omega)) ?_ | refine dr_yes rfl rfl (less_b g38_8) rfl (ev_index sl53.h J J rfl rfl) ?_
                                  first | refine dr_yes rfl rfl (less_b g38_8) rfl (ev_fieldAddr fo73_0.h J) ?_ | refine dr_yes rfl rfl (less_b g38_8) rfl (ev_fieldAddr_i fo73_0.h J) ?_
                                  first | refine dr_yes rfl rfl (less_b g38_8) rfl (ev_load J rfl ty3.h rfl) ?_ | refine dr_yes rfl rfl (less_b g38_8) rfl (ev_load_i J ty3.h rfl) ?_
                                  refine dr_yes rfl rfl (less_b g38_8) rfl (ev_index_map (k := A[k].rd.fig) sl117.h J J rfl hq2) ?_
                                  first | refine dr_yes rfl rfl (less_b g38_8) rfl (ev_load J rfl ty108.h rfl) ?_ | refine dr_yes rfl rfl (less_b g38_8) rfl (ev_load_i J ty108.h rfl) ?_
                                  refine dr_yes rfl rfl (less_b g38_8) rfl (ev_eql J J) ?_
                                  refine dr_ev rfl (ev_pickF (v := .raw _) (less_b g38_8) J) ?_
                                  refine dr_end (sq_nil ?_)
                                  refine aw_cond J (fun c_247 => ?_) (fun c_247 => ?_)
                                  · skip
                                    have c_247' := c_247
                                    try simp only [qq] at c_247'
                                    first | exact absurd c_247 (by decide) | (exfalso; simp at c_247; done) | (exfalso; simp at c_247; omega) | (exfalso; simp_all; done) | (exfalso; simp_all; omega)
                                  · skip
                                    have c_247' := c_247
                                    try simp only [qq] at c_247'
                                    refine aw_skip (aw_seq ?_)
                                    refine aw_draw 20 mo (by kernel_rfl) ?_
                                    first | refine dr_ev rfl (ev_load_agg J rfl ty23.h rfl) ?_ | refine dr_ev rfl (ev_load_agg_i J ty23.h (by exact Nat.le_of_ble_eq_true rfl)) ?_
                                    first | refine dr_ev rfl (ev_mv (v := .sl _ _) J) ?_ | refine dr_ev rfl (ev_mv (v := .own _ _ _) J) ?_ | refine dr_ev rfl (ev_mv (v := .raw _) J) ?_ | refine dr_ev rfl (ev_mv (v := .slx _ _) J) ?_ | refine dr_ev rfl (ev_mv (v := .msl _ _ _ _) J) ?_
                                    first | refine dr_ev rfl (ev_mv (v := .sl _ _) J) ?_ | refine dr_ev rfl (ev_mv (v := .own _ _ _) J) ?_ | refine dr_ev rfl (ev_mv (v := .raw _) J) ?_ | refine dr_ev rfl (ev_mv (v := .slx _ _) J) ?_ | refine dr_ev rfl (ev_mv (v := .msl _ _ _ _) J) ?_
                                    refine dr_ev rfl (ev_mv (v := .raw _) J) ?_
                                    first | refine dr_ev rfl (ev_index_map sl53.h J J rfl (by omega)) ?_ | refine dr_ev rfl (ev_index sl53.h J J rfl rfl) ?_
                                    first | refine dr_ev rfl (ev_fieldAddr fo73_0.h J) ?_ | refine dr_ev rfl (ev_fieldAddr_i fo73_0.h J) ?_
                                    first | refine dr_ev rfl (ev_load J rfl ty3.h rfl) ?_ | refine dr_ev rfl (ev_load_i J ty3.h rfl) ?_
                                    refine dr_ev rfl (ev_index_map (k := A[k].rd.fig) sl45.h J J rfl hq) ?_
                                    first | refine dr_ev rfl (ev_load_agg J rfl ty26.h rfl) ?_ | refine dr_ev rfl (ev_load_agg_i J ty26.h (by exact Nat.le_of_ble_eq_true rfl)) ?_
                                    first | refine dr_ev rfl (ev_mv (v := .sl _ _) J) ?_ | refine dr_ev rfl (ev_mv (v := .own _ _ _) J) ?_ | refine dr_ev rfl (ev_mv (v := .raw _) J) ?_ | refine dr_ev rfl (ev_mv (v := .slx _ _) J) ?_ | refine dr_ev rfl (ev_mv (v := .msl _ _ _ _) J) ?_
                                    refine dr_ev rfl (ev_mv (v := .raw _) J) ?_
                                    first | refine dr_ev rfl (ev_index_map sl53.h J J rfl (by omega)) ?_ | refine dr_ev rfl (ev_index sl53.h J J rfl rfl) ?_
                                    first | refine dr_ev rfl (ev_fieldAddr fo73_1.h J) ?_ | refine dr_ev rfl (ev_fieldAddr_i fo73_1.h J) ?_
                                    first | refine dr_ev rfl (ev_load_agg J rfl ty28.h rfl) ?_ | refine dr_ev rfl (ev_load_agg_i J ty28.h (by exact Nat.le_of_ble_eq_true rfl)) ?_
                                    refine dr_ev rfl (ev_call en28.h J (k28r) ⟨J, J, J, trivial⟩) ?_
                                    refine dr_ev rfl (ev_mv (v := .tup _) J) ?_
                                    refine dr_ev rfl (ev_extract J rfl) ?_
                                    refine dr_ev rfl (ev_extract J rfl) ?_
                                    first | refine dr_ev rfl (ev_as (v := .sl _ _) J) ?_ | refine dr_ev rfl (ev_as (v := .own _ _ _) J) ?_ | refine dr_ev rfl (ev_as (v := .raw _) J) ?_ | refine dr_ev rfl (ev_as (v := .slx _ _) J) ?_ | refine dr_ev rfl (ev_as (v := .msl _ _ _ _) J) ?_
                                    refine dr_ev rfl (ev_as (v := .raw _) J) ?_
                                    refine dr_end (sq_nil (aw_seq (aw_region (mvr J rfl (sq_ev rfl (ev_neq J J) ?_)))))
                                    refine mvr J rfl ?_
                                    first | refine sq_yes rfl rfl J rfl (ev_load_agg J rfl ty23.h rfl) ?_ | refine sq_yes rfl rfl J rfl (ev_load_agg_i J ty23.h (by exact Nat.le_of_ble_eq_true rfl)) ?_
                                    first | refine ysl rfl rfl J rfl J ?_ | refine sq_yes rfl rfl J rfl (ev_mv (v := .own _ _ _) J) ?_ | refine ymr rfl rfl J rfl J ?_ | refine sq_yes rfl rfl J rfl (ev_mv (v := .slx _ _) J) ?_ | refine sq_yes rfl rfl J rfl (ev_mv (v := .msl _ _ _ _) J) ?_
                                    refine sq_yes rfl rfl J rfl (ev_call en29.h J (k29r) ⟨J, J, trivial⟩) ?_
                                    refine sq_yes rfl rfl J rfl (ev_not J) ?_
                                    refine pf rfl J J (mvr J rfl ?_)
                                    first | refine ysl rfl rfl J rfl J ?_ | refine sq_yes rfl rfl J rfl (ev_mv (v := .own _ _ _) J) ?_ | refine ymr rfl rfl J rfl J ?_ | refine sq_yes rfl rfl J rfl (ev_mv (v := .slx _ _) J) ?_ | refine sq_yes rfl rfl J rfl (ev_mv (v := .msl _ _ _ _) J) ?_
                                    refine sq_yes rfl rfl J rfl (ev_less (ev_mv (v := .own _ _ _) J) (Less.trans (less_own _ _ _) (Less.eq (b := strs (seenBy x.s.wide.toNat c seen x.s.high.toNat)) rfl))) ?_
                                    refine sq_yes rfl rfl J rfl (ev_call en50.h J (k50r) ⟨J, J, trivial⟩) ?_
                                    refine sq_yes rfl rfl J rfl (ev_not J) ?_
                                    refine pf rfl J J (sq_nil ?_)
                                    refine aw_cond J (fun c_279 => ?_) (fun c_279 => ?_)
                                    · skip
                                      have c_279' := c_279
                                      try simp only [qq] at c_279'
                                      first | exact absurd c_279 (by decide) | (exfalso; simp at c_279; done) | (exfalso; simp at c_279; omega) | (exfalso; simp_all; done) | (exfalso; simp_all; omega)
                                    · skip
                                      have c_279' := c_279
                                      try simp only [qq] at c_279'
                                      refine aw_skip (aw_region (mvr J rfl (sq_ev rfl (ev_add J J (wr (by omega) (by omega))) ?_)))
                                      refine asr J rfl (sq_nil ?_)
                                      exact ⟨⟨k + 1, by omega⟩, by simp only; omega, Sub.fin 4 ⟨J, J, J, J, J, J, J, trivial⟩ rfl (by simp [slotsIn, objsIn, sget, keepS, AObj.inB, AV.inB, AV.inL, AV.inE, inE_map, inE_bys, inE_rds, inE_ints, inE_strs, inE_figs, inE_cloths, -List.map_append, -List.map_take, -List.map_map]) (by simp [slotsIn, objsIn, sget, keepS, AObj.inB, AV.inB, AV.inL, AV.inE, inE_map, inE_bys, inE_rds, inE_ints, inE_strs, inE_figs, inE_cloths, -List.map_append, -List.map_take, -List.map_map]) (by simp [he0])⟩
                              · skip
                                have c_226' := c_226
                                try simp only [qq] at c_226'
                                refine aw_exit (aw_seq (aw_region (sq_ev rfl (ev_call en27.h J (known_pure) trivial) ?_)))
                                refine asr J rfl (sq_nil (aw_ret ?_))
                                exact retQ_pure (v := .raw _) rfl rfl J
                          · skip
                            have g33_21' := g33_21
                            try simp only [qq] at g33_21'
                            refine sq_no rfl rfl (less_b g33_21) rfl rfl ?_
                            refine sq_no rfl rfl (less_b g33_21) rfl rfl ?_
                            refine sq_yes rfl rfl (less_b g33_18) rfl (ev_pickF (v := .raw _) (less_b g33_21) J) ?_
                            refine sq_ev rfl (ev_pickF (v := .raw _) (less_b g33_18) J) ?_
                            refine sq_nil ?_
                            refine aw_false J ?_
                            refine aw_skip (aw_seq (aw_seq (aw_region (asr J rfl (sq_nil (aw_block ?_))))))
                            refine aw_loopk (ι := { k : Nat // k ≤ A.length }) [1, 5, 7, 13, 18, 20] (fun g => [(25, I g.1)]) (fun H g => H) (fun g => A.length - g.1) (⟨0, Nat.zero_le _⟩) ⟨J, J, J, J, J, J, J, trivial⟩ rfl ?_
                            rintro ⟨k, hk⟩
                            dsimp only [keepS, St.put, sget, slotsOf, nn1, nn2, nn3, nn4, nn5, nn6, Nat.reduceBEq, Nat.reduceAdd, nn7, nn8]
                            refine aw_seq (aw_seq (aw_region (mvr J rfl ?_)))
                            first | refine mvs rfl J ?_ | refine sq_ev rfl (ev_mv (v := .own _ _ _) J) ?_ | refine mvr J rfl ?_ | refine sq_ev rfl (ev_mv (v := .slx _ _) J) ?_ | refine sq_ev rfl (ev_mv (v := .msl _ _ _ _) J) ?_
                            first | refine sq_ev rfl (ev_len_map sl53.h J) ?_ | refine sq_ev rfl (ev_len_map sl53.h (less_own _ _ _)) ?_ | refine sq_ev rfl (ev_len sl53.h J rfl) ?_ | refine sq_ev rfl (ev_len sl53.h (less_own _ _ _) rfl) ?_ | refine sq_ev rfl (ev_len sl53.h (less_nil _) rfl) ?_ | refine sq_ev rfl (ev_len_msl sl53.h J) ?_ | refine sq_ev rfl (ev_len sl53.h (less_slx _ _) rfl) ?_
                            refine sq_ev rfl (ev_lss J J) ?_
                            refine sq_nil ?_
                            refine aw_cond J (fun c_226 => ?_) (fun c_226 => ?_)
                            · skip
                              have c_226' := c_226
                              try simp only [qq] at c_226'
                              have hkL : k < A.length := by omega
                              obtain ⟨hq, hq2, k49r, hq3, k28r, k29r, k50r⟩ := hA _ (List.getElem_mem hkL)
                              refine aw_skip (aw_seq (aw_block (aw_seq (aw_seq ?_))))
                              refine aw_draw 19 mo (by kernel_rfl) ?_
                              first | refine dr_ev rfl (ev_mv (v := .sl _ _) J) ?_ | refine dr_ev rfl (ev_mv (v := .own _ _ _) J) ?_ | refine dr_ev rfl (ev_mv (v := .raw _) J) ?_ | refine dr_ev rfl (ev_mv (v := .slx _ _) J) ?_ | refine dr_ev rfl (ev_mv (v := .msl _ _ _ _) J) ?_
                              first | refine dr_ev rfl (ev_load_agg J rfl ty49.h rfl) ?_ | refine dr_ev rfl (ev_load_agg_i J ty49.h (by exact Nat.le_of_ble_eq_true rfl)) ?_
                              first | refine dr_ev rfl (ev_mv (v := .sl _ _) J) ?_ | refine dr_ev rfl (ev_mv (v := .own _ _ _) J) ?_ | refine dr_ev rfl (ev_mv (v := .raw _) J) ?_ | refine dr_ev rfl (ev_mv (v := .slx _ _) J) ?_ | refine dr_ev rfl (ev_mv (v := .msl _ _ _ _) J) ?_
                              refine dr_ev rfl (ev_mv (v := .raw _) J) ?_
                              first | refine dr_ev rfl (ev_index_map sl53.h J J rfl (by omega)) ?_ | refine dr_ev rfl (ev_index sl53.h J J rfl rfl) ?_
                              first | refine dr_ev rfl (ev_load_agg J rfl ty73.h rfl) ?_ | refine dr_ev rfl (ev_load_agg_i J ty73.h (by exact Nat.le_of_ble_eq_true rfl)) ?_
                              refine dr_ev rfl (ev_call en49.h J (k49r) ⟨J, J, J, trivial⟩) ?_
                              refine dr_ev rfl (ev_not J) ?_
                              refine dr_ev rfl (ev_mv (v := .raw _) J) ?_
                              refine dr_split 237 J (fun g38_8 => ?_) (fun g38_8 => ?_)
                              · skip
                                have g38_8' := g38_8
                                try simp only [qq] at g38_8'
                                first | exact absurd g38_8 (by decide) | (exfalso; simp at g38_8; done) | (exfalso; simp at g38_8; omega) | (exfalso; simp_all; done) | (exfalso; simp_all; omega)
                              · skip
                                have g38_8' := g38_8
                                try simp only [qq] at g38_8'
                                first | refine dr_yes rfl rfl (less_b g38_8) rfl (ev_mv (v := .sl _ _) J) ?_ | refine dr_yes rfl rfl (less_b g38_8) rfl (ev_mv (v := .own _ _ _) J) ?_ | refine dr_yes rfl rfl (less_b g38_8) rfl (ev_mv (v := .raw _) J) ?_ | refine dr_yes rfl rfl (less_b g38_8) rfl (ev_mv (v := .slx _ _) J) ?_ | refine dr_yes rfl rfl (less_b g38_8) rfl (ev_mv (v := .msl _ _ _ _) J) ?_
                                first | refine dr_yes rfl rfl (less_b g38_8) rfl (ev_mv (v := .sl _ _) J) ?_ | refine dr_yes rfl rfl (less_b g38_8) rfl (ev_mv (v := .own _ _ _) J) ?_ | refine dr_yes rfl rfl (less_b g38_8) rfl (ev_mv (v := .raw _) J) ?_ | refine dr_yes rfl rfl (less_b g38_8) rfl (ev_mv (v := .slx _ _) J) ?_ | refine dr_yes rfl rfl (less_b g38_8) rfl (ev_mv (v := .msl _ _ _ _) J) ?_
                                refine dr_yes rfl rfl (less_b g38_8) rfl (ev_mv (v := .raw _) J) ?_
                                first | refine dr_yes rfl rfl (less_b g38_8) rfl (ev_index_map sl53.h J J rfl (by omega)) ?_ | refine dr_yes rfl rfl (less_b g38_8) rfl (ev_index sl53.h J J rfl rfl) ?_
                                first | refine dr_yes rfl rfl (less_b g38_8) rfl (ev_fieldAddr fo73_0.h J) ?_ | refine dr_yes rfl rfl (less_b g38_8) rfl (ev_fieldAddr_i fo73_0.h J) ?_
                                first | refine dr_yes rfl rfl (less_b g38_8) rfl (ev_load J rfl ty3.h rfl) ?_ | refine dr_yes rfl rfl (less_b g38_8) rfl (ev_load_i J ty3.h rfl) ?_
                                refine dr_yes rfl rfl (less_b g38_8) rfl (ev_index_map (k := A[k].rd.fig) sl117.h J J rfl hq2) ?_
                                first | refine dr_yes rfl rfl (less_b g38_8) rfl (ev_load J rfl ty108.h rfl) ?_ | refine dr_yes rfl rfl (less_b g38_8) rfl (ev_load_i J ty108.h rfl) ?_
                                refine dr_yes rfl rfl (less_b g38_8) rfl (ev_eql J J) ?_
                                refine dr_ev rfl (ev_pickF (v := .raw _) (less_b g38_8) J) ?_
                                refine dr_end (sq_nil ?_)
                                refine aw_cond J (fun c_247 => ?_) (fun c_247 => ?_)
                                · skip
                                  have c_247' := c_247
                                  try simp only [qq] at c_247'
                                  first | exact absurd c_247 (by decide) | (exfalso; simp at c_247; done) | (exfalso; simp at c_247; omega) | (exfalso; simp_all; done) | (exfalso; simp_all; omega)
                                · skip
                                  have c_247' := c_247
                                  try simp only [qq] at c_247'
                                  refine aw_skip (aw_seq ?_)
                                  refine aw_draw 20 mo (by kernel_rfl) ?_
                                  first | refine dr_ev rfl (ev_load_agg J rfl ty23.h rfl) ?_ | refine dr_ev rfl (ev_load_agg_i J ty23.h (by exact Nat.le_of_ble_eq_true rfl)) ?_
                                  first | refine dr_ev rfl (ev_mv (v := .sl _ _) J) ?_ | refine dr_ev rfl (ev_mv (v := .own _ _ _) J) ?_ | refine dr_ev rfl (ev_mv (v := .raw _) J) ?_ | refine dr_ev rfl (ev_mv (v := .slx _ _) J) ?_ | refine dr_ev rfl (ev_mv (v := .msl _ _ _ _) J) ?_
                                  first | refine dr_ev rfl (ev_mv (v := .sl _ _) J) ?_ | refine dr_ev rfl (ev_mv (v := .own _ _ _) J) ?_ | refine dr_ev rfl (ev_mv (v := .raw _) J) ?_ | refine dr_ev rfl (ev_mv (v := .slx _ _) J) ?_ | refine dr_ev rfl (ev_mv (v := .msl _ _ _ _) J) ?_
                                  refine dr_ev rfl (ev_mv (v := .raw _) J) ?_
                                  first | refine dr_ev rfl (ev_index_map sl53.h J J rfl (by omega)) ?_ | refine dr_ev rfl (ev_index sl53.h J J rfl rfl) ?_
                                  first | refine dr_ev rfl (ev_fieldAddr fo73_0.h J) ?_ | refine dr_ev rfl (ev_fieldAddr_i fo73_0.h J) ?_
                                  first | refine dr_ev rfl (ev_load J rfl ty3.h rfl) ?_ | refine dr_ev rfl (ev_load_i J ty3.h rfl) ?_
                                  refine dr_ev rfl (ev_index_map (k := A[k].rd.fig) sl45.h J J rfl hq) ?_
                                  first | refine dr_ev rfl (ev_load_agg J rfl ty26.h rfl) ?_ | refine dr_ev rfl (ev_load_agg_i J ty26.h (by exact Nat.le_of_ble_eq_true rfl)) ?_
                                  first | refine dr_ev rfl (ev_mv (v := .sl _ _) J) ?_ | refine dr_ev rfl (ev_mv (v := .own _ _ _) J) ?_ | refine dr_ev rfl (ev_mv (v := .raw _) J) ?_ | refine dr_ev rfl (ev_mv (v := .slx _ _) J) ?_ | refine dr_ev rfl (ev_mv (v := .msl _ _ _ _) J) ?_
                                  refine dr_ev rfl (ev_mv (v := .raw _) J) ?_
                                  first | refine dr_ev rfl (ev_index_map sl53.h J J rfl (by omega)) ?_ | refine dr_ev rfl (ev_index sl53.h J J rfl rfl) ?_
                                  first | refine dr_ev rfl (ev_fieldAddr fo73_1.h J) ?_ | refine dr_ev rfl (ev_fieldAddr_i fo73_1.h J) ?_
                                  first | refine dr_ev rfl (ev_load_agg J rfl ty28.h rfl) ?_ | refine dr_ev rfl (ev_load_agg_i J ty28.h (by exact Nat.le_of_ble_eq_true rfl)) ?_
                                  refine dr_ev rfl (ev_call en28.h J (k28r) ⟨J, J, J, trivial⟩) ?_
                                  refine dr_ev rfl (ev_mv (v := .tup _) J) ?_
                                  refine dr_ev rfl (ev_extract J rfl) ?_
                                  refine dr_ev rfl (ev_extract J rfl) ?_
                                  first | refine dr_ev rfl (ev_as (v := .sl _ _) J) ?_ | refine dr_ev rfl (ev_as (v := .own _ _ _) J) ?_ | refine dr_ev rfl (ev_as (v := .raw _) J) ?_ | refine dr_ev rfl (ev_as (v := .slx _ _) J) ?_ | refine dr_ev rfl (ev_as (v := .msl _ _ _ _) J) ?_
                                  refine dr_ev rfl (ev_as (v := .raw _) J) ?_
                                  refine dr_end (sq_nil (aw_seq (aw_region (mvr J rfl (sq_ev rfl (ev_neq J J) ?_)))))
                                  refine mvr J rfl ?_
                                  first | refine sq_yes rfl rfl J rfl (ev_load_agg J rfl ty23.h rfl) ?_ | refine sq_yes rfl rfl J rfl (ev_load_agg_i J ty23.h (by exact Nat.le_of_ble_eq_true rfl)) ?_
                                  first | refine ysl rfl rfl J rfl J ?_ | refine sq_yes rfl rfl J rfl (ev_mv (v := .own _ _ _) J) ?_ | refine ymr rfl rfl J rfl J ?_ | refine sq_yes rfl rfl J rfl (ev_mv (v := .slx _ _) J) ?_ | refine sq_yes rfl rfl J rfl (ev_mv (v := .msl _ _ _ _) J) ?_
                                  refine sq_yes rfl rfl J rfl (ev_call en29.h J (k29r) ⟨J, J, trivial⟩) ?_
                                  refine sq_yes rfl rfl J rfl (ev_not J) ?_
                                  refine pf rfl J J (mvr J rfl ?_)
                                  first | refine ysl rfl rfl J rfl J ?_ | refine sq_yes rfl rfl J rfl (ev_mv (v := .own _ _ _) J) ?_ | refine ymr rfl rfl J rfl J ?_ | refine sq_yes rfl rfl J rfl (ev_mv (v := .slx _ _) J) ?_ | refine sq_yes rfl rfl J rfl (ev_mv (v := .msl _ _ _ _) J) ?_
                                  refine sq_yes rfl rfl J rfl (ev_less (ev_mv (v := .own _ _ _) J) (Less.trans (less_own _ _ _) (Less.eq (b := strs (seenBy x.s.wide.toNat c seen x.s.high.toNat)) rfl))) ?_
                                  refine sq_yes rfl rfl J rfl (ev_call en50.h J (k50r) ⟨J, J, trivial⟩) ?_
                                  refine sq_yes rfl rfl J rfl (ev_not J) ?_
                                  refine pf rfl J J (sq_nil ?_)
                                  refine aw_cond J (fun c_279 => ?_) (fun c_279 => ?_)
                                  · skip
                                    have c_279' := c_279
                                    try simp only [qq] at c_279'
                                    first | exact absurd c_279 (by decide) | (exfalso; simp at c_279; done) | (exfalso; simp at c_279; omega) | (exfalso; simp_all; done) | (exfalso; simp_all; omega)
                                  · skip
                                    have c_279' := c_279
                                    try simp only [qq] at c_279'
                                    refine aw_skip (aw_region (mvr J rfl (sq_ev rfl (ev_add J J (wr (by omega) (by omega))) ?_)))
                                    refine asr J rfl (sq_nil ?_)
                                    exact ⟨⟨k + 1, by omega⟩, by simp only; omega, Sub.fin 4 ⟨J, J, J, J, J, J, J, trivial⟩ rfl (by simp [slotsIn, objsIn, sget, keepS, AObj.inB, AV.inB, AV.inL, AV.inE, inE_map, inE_bys, inE_rds, inE_ints, inE_strs, inE_figs, inE_cloths, -List.map_append, -List.map_take, -List.map_map]) (by simp [slotsIn, objsIn, sget, keepS, AObj.inB, AV.inB, AV.inL, AV.inE, inE_map, inE_bys, inE_rds, inE_ints, inE_strs, inE_figs, inE_cloths, -List.map_append, -List.map_take, -List.map_map]) (by simp [he0])⟩
                            · skip
                              have c_226' := c_226
                              try simp only [qq] at c_226'
                              refine aw_exit (aw_seq (aw_region (sq_ev rfl (ev_call en27.h J (known_pure) trivial) ?_)))
                              refine asr J rfl (sq_nil (aw_ret ?_))
                              exact retQ_pure (v := .raw _) rfl rfl J
                    · skip
                      have g33_5' := g33_5
                      try simp only [qq] at g33_5'
                      refine sq_no rfl rfl (less_b g33_5) rfl rfl ?_
                      refine sq_no rfl rfl (less_b g33_5) rfl rfl ?_
                      refine sq_no rfl rfl (less_b g33_5) rfl rfl ?_
                      refine sq_no rfl rfl J rfl rfl (sq_no rfl rfl J rfl rfl (sq_no rfl rfl J rfl rfl (sq_no rfl rfl J rfl rfl (sq_no rfl rfl J rfl rfl (sq_no rfl rfl J rfl rfl (sq_no rfl rfl (less_b g33_5) rfl rfl ?_))))))
                      refine sq_yes rfl rfl (less_b g33_2) rfl (ev_pickF (v := .raw _) (less_b g33_5) J) ?_
                      refine sq_ev rfl (ev_pickF (v := .raw _) (less_b g33_2) J) ?_
                      refine mvr J rfl (ymr rfl rfl J rfl J (sq_yes rfl rfl J rfl (ev_eql J J) ?_))
                      refine ymr rfl rfl J rfl J ?_
                      refine sq_split 218 J (fun g33_21 => ?_) (fun g33_21 => ?_)
                      · skip
                        have g33_21' := g33_21
                        try simp only [qq] at g33_21'
                        refine sq_yes rfl rfl (less_b g33_21) rfl (ev_mv (v := .raw _) J) ?_
                        refine sq_yes rfl rfl (less_b g33_21) rfl (ev_lss J J) ?_
                        refine sq_yes rfl rfl J rfl (ev_pickT (v := .raw _) (less_b g33_21) J) ?_
                        refine pf rfl J J (sq_nil ?_)
                        refine aw_cond J (fun c_222 => ?_) (fun c_222 => ?_)
                        · skip
                          have c_222' := c_222
                          try simp only [qq] at c_222'
                          first | exact absurd c_222 (by decide) | (exfalso; simp at c_222; done) | (exfalso; simp at c_222; omega) | (exfalso; simp_all; done) | (exfalso; simp_all; omega)
                        · skip
                          have c_222' := c_222
                          try simp only [qq] at c_222'
                          refine aw_skip (aw_seq (aw_seq (aw_region (asr J rfl (sq_nil (aw_block ?_))))))
                          refine aw_loopk (ι := { k : Nat // k ≤ A.length }) [1, 5, 7, 13, 18, 20] (fun g => [(25, I g.1)]) (fun H g => H) (fun g => A.length - g.1) (⟨0, Nat.zero_le _⟩) ⟨J, J, J, J, J, J, J, trivial⟩ rfl ?_
                          rintro ⟨k, hk⟩
                          dsimp only [keepS, St.put, sget, slotsOf, nn1, nn2, nn3, nn4, nn5, nn6, Nat.reduceBEq, Nat.reduceAdd, nn7, nn8]
                          refine aw_seq (aw_seq (aw_region (mvr J rfl ?_)))
                          first | refine mvs rfl J ?_ | refine sq_ev rfl (ev_mv (v := .own _ _ _) J) ?_ | refine mvr J rfl ?_ | refine sq_ev rfl (ev_mv (v := .slx _ _) J) ?_ | refine sq_ev rfl (ev_mv (v := .msl _ _ _ _) J) ?_
                          first | refine sq_ev rfl (ev_len_map sl53.h J) ?_ | refine sq_ev rfl (ev_len_map sl53.h (less_own _ _ _)) ?_ | refine sq_ev rfl (ev_len sl53.h J rfl) ?_ | refine sq_ev rfl (ev_len sl53.h (less_own _ _ _) rfl) ?_ | refine sq_ev rfl (ev_len sl53.h (less_nil _) rfl) ?_ | refine sq_ev rfl (ev_len_msl sl53.h J) ?_ | refine sq_ev rfl (ev_len sl53.h (less_slx _ _) rfl) ?_
                          refine sq_ev rfl (ev_lss J J) ?_
                          refine sq_nil ?_
                          refine aw_cond J (fun c_226 => ?_) (fun c_226 => ?_)
                          · skip
                            have c_226' := c_226
                            try simp only [qq] at c_226'
                            have hkL : k < A.length := by omega
                            obtain ⟨hq, hq2, k49r, hq3, k28r, k29r, k50r⟩ := hA _ (List.getElem_mem hkL)
                            refine aw_skip (aw_seq (aw_block (aw_seq (aw_seq ?_))))
                            refine aw_draw 19 mo (by kernel_rfl) ?_
                            first | refine dr_ev rfl (ev_mv (v := .sl _ _) J) ?_ | refine dr_ev rfl (ev_mv (v := .own _ _ _) J) ?_ | refine dr_ev rfl (ev_mv (v := .raw _) J) ?_ | refine dr_ev rfl (ev_mv (v := .slx _ _) J) ?_ | refine dr_ev rfl (ev_mv (v := .msl _ _ _ _) J) ?_
                            first | refine dr_ev rfl (ev_load_agg J rfl ty49.h rfl) ?_ | refine dr_ev rfl (ev_load_agg_i J ty49.h (by exact Nat.le_of_ble_eq_true rfl)) ?_
                            first | refine dr_ev rfl (ev_mv (v := .sl _ _) J) ?_ | refine dr_ev rfl (ev_mv (v := .own _ _ _) J) ?_ | refine dr_ev rfl (ev_mv (v := .raw _) J) ?_ | refine dr_ev rfl (ev_mv (v := .slx _ _) J) ?_ | refine dr_ev rfl (ev_mv (v := .msl _ _ _ _) J) ?_
                            refine dr_ev rfl (ev_mv (v := .raw _) J) ?_
                            first | refine dr_ev rfl (ev_index_map sl53.h J J rfl (by omega)) ?_ | refine dr_ev rfl (ev_index sl53.h J J rfl rfl) ?_
                            first | refine dr_ev rfl (ev_load_agg J rfl ty73.h rfl) ?_ | refine dr_ev rfl (ev_load_agg_i J ty73.h (by exact Nat.le_of_ble_eq_true rfl)) ?_
                            refine dr_ev rfl (ev_call en49.h J (k49r) ⟨J, J, J, trivial⟩) ?_
                            refine dr_ev rfl (ev_not J) ?_
                            refine dr_ev rfl (ev_mv (v := .raw _) J) ?_
                            refine dr_split 237 J (fun g38_8 => ?_) (fun g38_8 => ?_)
                            · skip
                              have g38_8' := g38_8
                              try simp only [qq] at g38_8'
                              first | exact absurd g38_8 (by decide) | (exfalso; simp at g38_8; done) | (exfalso; simp at g38_8; omega) | (exfalso; simp_all; done) | (exfalso; simp_all; omega)
                            · skip
                              have g38_8' := g38_8
                              try simp only [qq] at g38_8'
                              first | refine dr_yes rfl rfl (less_b g38_8) rfl (ev_mv (v := .sl _ _) J) ?_ | refine dr_yes rfl rfl (less_b g38_8) rfl (ev_mv (v := .own _ _ _) J) ?_ | refine dr_yes rfl rfl (less_b g38_8) rfl (ev_mv (v := .raw _) J) ?_ | refine dr_yes rfl rfl (less_b g38_8) rfl (ev_mv (v := .slx _ _) J) ?_ | refine dr_yes rfl rfl (less_b g38_8) rfl (ev_mv (v := .msl _ _ _ _) J) ?_
                              first | refine dr_yes rfl rfl (less_b g38_8) rfl (ev_mv (v := .sl _ _) J) ?_ | refine dr_yes rfl rfl (less_b g38_8) rfl (ev_mv (v := .own _ _ _) J) ?_ | refine dr_yes rfl rfl (less_b g38_8) rfl (ev_mv (v := .raw _) J) ?_ | refine dr_yes rfl rfl (less_b g38_8) rfl (ev_mv (v := .slx _ _) J) ?_ | refine dr_yes rfl rfl (less_b g38_8) rfl (ev_mv (v := .msl _ _ _ _) J) ?_
                              refine dr_yes rfl rfl (less_b g38_8) rfl (ev_mv (v := .raw _) J) ?_
                              first | refine dr_yes rfl rfl (less_b g38_8) rfl (ev_index_map sl53.h J J rfl (by omega)) ?_ | refine dr_yes rfl rfl (less_b g38_8) rfl (ev_index sl53.h J J rfl rfl) ?_
                              first | refine dr_yes rfl rfl (less_b g38_8) rfl (ev_fieldAddr fo73_0.h J) ?_ | refine dr_yes rfl rfl (less_b g38_8) rfl (ev_fieldAddr_i fo73_0.h J) ?_
                              first | refine dr_yes rfl rfl (less_b g38_8) rfl (ev_load J rfl ty3.h rfl) ?_ | refine dr_yes rfl rfl (less_b g38_8) rfl (ev_load_i J ty3.h rfl) ?_
                              refine dr_yes rfl rfl (less_b g38_8) rfl (ev_index_map (k := A[k].rd.fig) sl117.h J J rfl hq2) ?_
                              first | refine dr_yes rfl rfl (less_b g38_8) rfl (ev_load J rfl ty108.h rfl) ?_ | refine dr_yes rfl rfl (less_b g38_8) rfl (ev_load_i J ty108.h rfl) ?_
                              refine dr_yes rfl rfl (less_b g38_8) rfl (ev_eql J J) ?_
                              refine dr_ev rfl (ev_pickF (v := .raw _) (less_b g38_8) J) ?_
                              refine dr_end (sq_nil ?_)
                              refine aw_cond J (fun c_247 => ?_) (fun c_247 => ?_)
                              · skip
                                have c_247' := c_247
                                try simp only [qq] at c_247'
                                first | exact absurd c_247 (by decide) | (exfalso; simp at c_247; done) | (exfalso; simp at c_247; omega) | (exfalso; simp_all; done) | (exfalso; simp_all; omega)
                              · skip
                                have c_247' := c_247
                                try simp only [qq] at c_247'
                                refine aw_skip (aw_seq ?_)
                                refine aw_draw 20 mo (by kernel_rfl) ?_
                                first | refine dr_ev rfl (ev_load_agg J rfl ty23.h rfl) ?_ | refine dr_ev rfl (ev_load_agg_i J ty23.h (by exact Nat.le_of_ble_eq_true rfl)) ?_
                                first | refine dr_ev rfl (ev_mv (v := .sl _ _) J) ?_ | refine dr_ev rfl (ev_mv (v := .own _ _ _) J) ?_ | refine dr_ev rfl (ev_mv (v := .raw _) J) ?_ | refine dr_ev rfl (ev_mv (v := .slx _ _) J) ?_ | refine dr_ev rfl (ev_mv (v := .msl _ _ _ _) J) ?_
                                first | refine dr_ev rfl (ev_mv (v := .sl _ _) J) ?_ | refine dr_ev rfl (ev_mv (v := .own _ _ _) J) ?_ | refine dr_ev rfl (ev_mv (v := .raw _) J) ?_ | refine dr_ev rfl (ev_mv (v := .slx _ _) J) ?_ | refine dr_ev rfl (ev_mv (v := .msl _ _ _ _) J) ?_
                                refine dr_ev rfl (ev_mv (v := .raw _) J) ?_
                                first | refine dr_ev rfl (ev_index_map sl53.h J J rfl (by omega)) ?_ | refine dr_ev rfl (ev_index sl53.h J J rfl rfl) ?_
                                first | refine dr_ev rfl (ev_fieldAddr fo73_0.h J) ?_ | refine dr_ev rfl (ev_fieldAddr_i fo73_0.h J) ?_
                                first | refine dr_ev rfl (ev_load J rfl ty3.h rfl) ?_ | refine dr_ev rfl (ev_load_i J ty3.h rfl) ?_
                                refine dr_ev rfl (ev_index_map (k := A[k].rd.fig) sl45.h J J rfl hq) ?_
                                first | refine dr_ev rfl (ev_load_agg J rfl ty26.h rfl) ?_ | refine dr_ev rfl (ev_load_agg_i J ty26.h (by exact Nat.le_of_ble_eq_true rfl)) ?_
                                first | refine dr_ev rfl (ev_mv (v := .sl _ _) J) ?_ | refine dr_ev rfl (ev_mv (v := .own _ _ _) J) ?_ | refine dr_ev rfl (ev_mv (v := .raw _) J) ?_ | refine dr_ev rfl (ev_mv (v := .slx _ _) J) ?_ | refine dr_ev rfl (ev_mv (v := .msl _ _ _ _) J) ?_
                                refine dr_ev rfl (ev_mv (v := .raw _) J) ?_
                                first | refine dr_ev rfl (ev_index_map sl53.h J J rfl (by omega)) ?_ | refine dr_ev rfl (ev_index sl53.h J J rfl rfl) ?_
                                first | refine dr_ev rfl (ev_fieldAddr fo73_1.h J) ?_ | refine dr_ev rfl (ev_fieldAddr_i fo73_1.h J) ?_
                                first | refine dr_ev rfl (ev_load_agg J rfl ty28.h rfl) ?_ | refine dr_ev rfl (ev_load_agg_i J ty28.h (by exact Nat.le_of_ble_eq_true rfl)) ?_
                                refine dr_ev rfl (ev_call en28.h J (k28r) ⟨J, J, J, trivial⟩) ?_
                                refine dr_ev rfl (ev_mv (v := .tup _) J) ?_
                                refine dr_ev rfl (ev_extract J rfl) ?_
                                refine dr_ev rfl (ev_extract J rfl) ?_
                                first | refine dr_ev rfl (ev_as (v := .sl _ _) J) ?_ | refine dr_ev rfl (ev_as (v := .own _ _ _) J) ?_ | refine dr_ev rfl (ev_as (v := .raw _) J) ?_ | refine dr_ev rfl (ev_as (v := .slx _ _) J) ?_ | refine dr_ev rfl (ev_as (v := .msl _ _ _ _) J) ?_
                                refine dr_ev rfl (ev_as (v := .raw _) J) ?_
                                refine dr_end (sq_nil (aw_seq (aw_region (mvr J rfl (sq_ev rfl (ev_neq J J) ?_)))))
                                refine mvr J rfl ?_
                                first | refine sq_yes rfl rfl J rfl (ev_load_agg J rfl ty23.h rfl) ?_ | refine sq_yes rfl rfl J rfl (ev_load_agg_i J ty23.h (by exact Nat.le_of_ble_eq_true rfl)) ?_
                                first | refine ysl rfl rfl J rfl J ?_ | refine sq_yes rfl rfl J rfl (ev_mv (v := .own _ _ _) J) ?_ | refine ymr rfl rfl J rfl J ?_ | refine sq_yes rfl rfl J rfl (ev_mv (v := .slx _ _) J) ?_ | refine sq_yes rfl rfl J rfl (ev_mv (v := .msl _ _ _ _) J) ?_
                                refine sq_yes rfl rfl J rfl (ev_call en29.h J (k29r) ⟨J, J, trivial⟩) ?_
                                refine sq_yes rfl rfl J rfl (ev_not J) ?_
                                refine pf rfl J J (mvr J rfl ?_)
                                first | refine ysl rfl rfl J rfl J ?_ | refine sq_yes rfl rfl J rfl (ev_mv (v := .own _ _ _) J) ?_ | refine ymr rfl rfl J rfl J ?_ | refine sq_yes rfl rfl J rfl (ev_mv (v := .slx _ _) J) ?_ | refine sq_yes rfl rfl J rfl (ev_mv (v := .msl _ _ _ _) J) ?_
                                refine sq_yes rfl rfl J rfl (ev_less (ev_mv (v := .own _ _ _) J) (Less.trans (less_own _ _ _) (Less.eq (b := strs (seenBy x.s.wide.toNat c seen x.s.high.toNat)) rfl))) ?_
                                refine sq_yes rfl rfl J rfl (ev_call en50.h J (k50r) ⟨J, J, trivial⟩) ?_
                                refine sq_yes rfl rfl J rfl (ev_not J) ?_
                                refine pf rfl J J (sq_nil ?_)
                                refine aw_cond J (fun c_279 => ?_) (fun c_279 => ?_)
                                · skip
                                  have c_279' := c_279
                                  try simp only [qq] at c_279'
                                  first | exact absurd c_279 (by decide) | (exfalso; simp at c_279; done) | (exfalso; simp at c_279; omega) | (exfalso; simp_all; done) | (exfalso; simp_all; omega)
                                · skip
                                  have c_279' := c_279
                                  try simp only [qq] at c_279'
                                  refine aw_skip (aw_region (mvr J rfl (sq_ev rfl (ev_add J J (wr (by omega) (by omega))) ?_)))
                                  refine asr J rfl (sq_nil ?_)
                                  exact ⟨⟨k + 1, by omega⟩, by simp only; omega, Sub.fin 4 ⟨J, J, J, J, J, J, J, trivial⟩ rfl (by simp [slotsIn, objsIn, sget, keepS, AObj.inB, AV.inB, AV.inL, AV.inE, inE_map, inE_bys, inE_rds, inE_ints, inE_strs, inE_figs, inE_cloths, -List.map_append, -List.map_take, -List.map_map]) (by simp [slotsIn, objsIn, sget, keepS, AObj.inB, AV.inB, AV.inL, AV.inE, inE_map, inE_bys, inE_rds, inE_ints, inE_strs, inE_figs, inE_cloths, -List.map_append, -List.map_take, -List.map_map]) (by simp [he0])⟩
                          · skip
                            have c_226' := c_226
                            try simp only [qq] at c_226'
                            refine aw_exit (aw_seq (aw_region (sq_ev rfl (ev_call en27.h J (known_pure) trivial) ?_)))
                            refine asr J rfl (sq_nil (aw_ret ?_))
                            exact retQ_pure (v := .raw _) rfl rfl J
                      · skip
                        have g33_21' := g33_21
                        try simp only [qq] at g33_21'
                        refine sq_no rfl rfl (less_b g33_21) rfl rfl ?_
                        refine sq_no rfl rfl (less_b g33_21) rfl rfl ?_
                        refine sq_yes rfl rfl J rfl (ev_pickF (v := .raw _) (less_b g33_21) J) ?_
                        refine pf rfl J J (sq_nil ?_)
                        refine aw_false J ?_
                        refine aw_skip (aw_seq (aw_seq (aw_region (asr J rfl (sq_nil (aw_block ?_))))))
                        refine aw_loopk (ι := { k : Nat // k ≤ A.length }) [1, 5, 7, 13, 18, 20] (fun g => [(25, I g.1)]) (fun H g => H) (fun g => A.length - g.1) (⟨0, Nat.zero_le _⟩) ⟨J, J, J, J, J, J, J, trivial⟩ rfl ?_
                        rintro ⟨k, hk⟩
                        dsimp only [keepS, St.put, sget, slotsOf, nn1, nn2, nn3, nn4, nn5, nn6, Nat.reduceBEq, Nat.reduceAdd, nn7, nn8]
                        refine aw_seq (aw_seq (aw_region (mvr J rfl ?_)))
                        first | refine mvs rfl J ?_ | refine sq_ev rfl (ev_mv (v := .own _ _ _) J) ?_ | refine mvr J rfl ?_ | refine sq_ev rfl (ev_mv (v := .slx _ _) J) ?_ | refine sq_ev rfl (ev_mv (v := .msl _ _ _ _) J) ?_
                        first | refine sq_ev rfl (ev_len_map sl53.h J) ?_ | refine sq_ev rfl (ev_len_map sl53.h (less_own _ _ _)) ?_ | refine sq_ev rfl (ev_len sl53.h J rfl) ?_ | refine sq_ev rfl (ev_len sl53.h (less_own _ _ _) rfl) ?_ | refine sq_ev rfl (ev_len sl53.h (less_nil _) rfl) ?_ | refine sq_ev rfl (ev_len_msl sl53.h J) ?_ | refine sq_ev rfl (ev_len sl53.h (less_slx _ _) rfl) ?_
                        refine sq_ev rfl (ev_lss J J) ?_
                        refine sq_nil ?_
                        refine aw_cond J (fun c_226 => ?_) (fun c_226 => ?_)
                        · skip
                          have c_226' := c_226
                          try simp only [qq] at c_226'
                          have hkL : k < A.length := by omega
                          obtain ⟨hq, hq2, k49r, hq3, k28r, k29r, k50r⟩ := hA _ (List.getElem_mem hkL)
                          refine aw_skip (aw_seq (aw_block (aw_seq (aw_seq ?_))))
                          refine aw_draw 19 mo (by kernel_rfl) ?_
                          first | refine dr_ev rfl (ev_mv (v := .sl _ _) J) ?_ | refine dr_ev rfl (ev_mv (v := .own _ _ _) J) ?_ | refine dr_ev rfl (ev_mv (v := .raw _) J) ?_ | refine dr_ev rfl (ev_mv (v := .slx _ _) J) ?_ | refine dr_ev rfl (ev_mv (v := .msl _ _ _ _) J) ?_
                          first | refine dr_ev rfl (ev_load_agg J rfl ty49.h rfl) ?_ | refine dr_ev rfl (ev_load_agg_i J ty49.h (by exact Nat.le_of_ble_eq_true rfl)) ?_
                          first | refine dr_ev rfl (ev_mv (v := .sl _ _) J) ?_ | refine dr_ev rfl (ev_mv (v := .own _ _ _) J) ?_ | refine dr_ev rfl (ev_mv (v := .raw _) J) ?_ | refine dr_ev rfl (ev_mv (v := .slx _ _) J) ?_ | refine dr_ev rfl (ev_mv (v := .msl _ _ _ _) J) ?_
                          refine dr_ev rfl (ev_mv (v := .raw _) J) ?_
                          first | refine dr_ev rfl (ev_index_map sl53.h J J rfl (by omega)) ?_ | refine dr_ev rfl (ev_index sl53.h J J rfl rfl) ?_
                          first | refine dr_ev rfl (ev_load_agg J rfl ty73.h rfl) ?_ | refine dr_ev rfl (ev_load_agg_i J ty73.h (by exact Nat.le_of_ble_eq_true rfl)) ?_
                          refine dr_ev rfl (ev_call en49.h J (k49r) ⟨J, J, J, trivial⟩) ?_
                          refine dr_ev rfl (ev_not J) ?_
                          refine dr_ev rfl (ev_mv (v := .raw _) J) ?_
                          refine dr_split 237 J (fun g38_8 => ?_) (fun g38_8 => ?_)
                          · skip
                            have g38_8' := g38_8
                            try simp only [qq] at g38_8'
                            first | exact absurd g38_8 (by decide) | (exfalso; simp at g38_8; done) | (exfalso; simp at g38_8; omega) | (exfalso; simp_all; done) | (exfalso; simp_all; omega)
                          · skip
                            have g38_8' := g38_8
                            try simp only [qq] at g38_8'
                            first | refine dr_yes rfl rfl (less_b g38_8) rfl (ev_mv (v := .sl _ _) J) ?_ | refine dr_yes rfl rfl (less_b g38_8) rfl (ev_mv (v := .own _ _ _) J) ?_ | refine dr_yes rfl rfl (less_b g38_8) rfl (ev_mv (v := .raw _) J) ?_ | refine dr_yes rfl rfl (less_b g38_8) rfl (ev_mv (v := .slx _ _) J) ?_ | refine dr_yes rfl rfl (less_b g38_8) rfl (ev_mv (v := .msl _ _ _ _) J) ?_
                            first | refine dr_yes rfl rfl (less_b g38_8) rfl (ev_mv (v := .sl _ _) J) ?_ | refine dr_yes rfl rfl (less_b g38_8) rfl (ev_mv (v := .own _ _ _) J) ?_ | refine dr_yes rfl rfl (less_b g38_8) rfl (ev_mv (v := .raw _) J) ?_ | refine dr_yes rfl rfl (less_b g38_8) rfl (ev_mv (v := .slx _ _) J) ?_ | refine dr_yes rfl rfl (less_b g38_8) rfl (ev_mv (v := .msl _ _ _ _) J) ?_
                            refine dr_yes rfl rfl (less_b g38_8) rfl (ev_mv (v := .raw _) J) ?_
                            first | refine dr_yes rfl rfl (less_b g38_8) rfl (ev_index_map sl53.h J J rfl (by omega)) ?_ | refine dr_yes rfl rfl (less_b g38_8) rfl (ev_index sl53.h J J rfl rfl) ?_
                            first | refine dr_yes rfl rfl (less_b g38_8) rfl (ev_fieldAddr fo73_0.h J) ?_ | refine dr_yes rfl rfl (less_b g38_8) rfl (ev_fieldAddr_i fo73_0.h J) ?_
                            first | refine dr_yes rfl rfl (less_b g38_8) rfl (ev_load J rfl ty3.h rfl) ?_ | refine dr_yes rfl rfl (less_b g38_8) rfl (ev_load_i J ty3.h rfl) ?_
                            refine dr_yes rfl rfl (less_b g38_8) rfl (ev_index_map (k := A[k].rd.fig) sl117.h J J rfl hq2) ?_
                            first | refine dr_yes rfl rfl (less_b g38_8) rfl (ev_load J rfl ty108.h rfl) ?_ | refine dr_yes rfl rfl (less_b g38_8) rfl (ev_load_i J ty108.h rfl) ?_
                            refine dr_yes rfl rfl (less_b g38_8) rfl (ev_eql J J) ?_
                            refine dr_ev rfl (ev_pickF (v := .raw _) (less_b g38_8) J) ?_
                            refine dr_end (sq_nil ?_)
                            refine aw_cond J (fun c_247 => ?_) (fun c_247 => ?_)
                            · skip
                              have c_247' := c_247
                              try simp only [qq] at c_247'
                              first | exact absurd c_247 (by decide) | (exfalso; simp at c_247; done) | (exfalso; simp at c_247; omega) | (exfalso; simp_all; done) | (exfalso; simp_all; omega)
                            · skip
                              have c_247' := c_247
                              try simp only [qq] at c_247'
                              refine aw_skip (aw_seq ?_)
                              refine aw_draw 20 mo (by kernel_rfl) ?_
                              first | refine dr_ev rfl (ev_load_agg J rfl ty23.h rfl) ?_ | refine dr_ev rfl (ev_load_agg_i J ty23.h (by exact Nat.le_of_ble_eq_true rfl)) ?_
                              first | refine dr_ev rfl (ev_mv (v := .sl _ _) J) ?_ | refine dr_ev rfl (ev_mv (v := .own _ _ _) J) ?_ | refine dr_ev rfl (ev_mv (v := .raw _) J) ?_ | refine dr_ev rfl (ev_mv (v := .slx _ _) J) ?_ | refine dr_ev rfl (ev_mv (v := .msl _ _ _ _) J) ?_
                              first | refine dr_ev rfl (ev_mv (v := .sl _ _) J) ?_ | refine dr_ev rfl (ev_mv (v := .own _ _ _) J) ?_ | refine dr_ev rfl (ev_mv (v := .raw _) J) ?_ | refine dr_ev rfl (ev_mv (v := .slx _ _) J) ?_ | refine dr_ev rfl (ev_mv (v := .msl _ _ _ _) J) ?_
                              refine dr_ev rfl (ev_mv (v := .raw _) J) ?_
                              first | refine dr_ev rfl (ev_index_map sl53.h J J rfl (by omega)) ?_ | refine dr_ev rfl (ev_index sl53.h J J rfl rfl) ?_
                              first | refine dr_ev rfl (ev_fieldAddr fo73_0.h J) ?_ | refine dr_ev rfl (ev_fieldAddr_i fo73_0.h J) ?_
                              first | refine dr_ev rfl (ev_load J rfl ty3.h rfl) ?_ | refine dr_ev rfl (ev_load_i J ty3.h rfl) ?_
                              refine dr_ev rfl (ev_index_map (k := A[k].rd.fig) sl45.h J J rfl hq) ?_
                              first | refine dr_ev rfl (ev_load_agg J rfl ty26.h rfl) ?_ | refine dr_ev rfl (ev_load_agg_i J ty26.h (by exact Nat.le_of_ble_eq_true rfl)) ?_
                              first | refine dr_ev rfl (ev_mv (v := .sl _ _) J) ?_ | refine dr_ev rfl (ev_mv (v := .own _ _ _) J) ?_ | refine dr_ev rfl (ev_mv (v := .raw _) J) ?_ | refine dr_ev rfl (ev_mv (v := .slx _ _) J) ?_ | refine dr_ev rfl (ev_mv (v := .msl _ _ _ _) J) ?_
                              refine dr_ev rfl (ev_mv (v := .raw _) J) ?_
                              first | refine dr_ev rfl (ev_index_map sl53.h J J rfl (by omega)) ?_ | refine dr_ev rfl (ev_index sl53.h J J rfl rfl) ?_
                              first | refine dr_ev rfl (ev_fieldAddr fo73_1.h J) ?_ | refine dr_ev rfl (ev_fieldAddr_i fo73_1.h J) ?_
                              first | refine dr_ev rfl (ev_load_agg J rfl ty28.h rfl) ?_ | refine dr_ev rfl (ev_load_agg_i J ty28.h (by exact Nat.le_of_ble_eq_true rfl)) ?_
                              refine dr_ev rfl (ev_call en28.h J (k28r) ⟨J, J, J, trivial⟩) ?_
                              refine dr_ev rfl (ev_mv (v := .tup _) J) ?_
                              refine dr_ev rfl (ev_extract J rfl) ?_
                              refine dr_ev rfl (ev_extract J rfl) ?_
                              first | refine dr_ev rfl (ev_as (v := .sl _ _) J) ?_ | refine dr_ev rfl (ev_as (v := .own _ _ _) J) ?_ | refine dr_ev rfl (ev_as (v := .raw _) J) ?_ | refine dr_ev rfl (ev_as (v := .slx _ _) J) ?_ | refine dr_ev rfl (ev_as (v := .msl _ _ _ _) J) ?_
                              refine dr_ev rfl (ev_as (v := .raw _) J) ?_
                              refine dr_end (sq_nil (aw_seq (aw_region (mvr J rfl (sq_ev rfl (ev_neq J J) ?_)))))
                              refine mvr J rfl ?_
                              first | refine sq_yes rfl rfl J rfl (ev_load_agg J rfl ty23.h rfl) ?_ | refine sq_yes rfl rfl J rfl (ev_load_agg_i J ty23.h (by exact Nat.le_of_ble_eq_true rfl)) ?_
                              first | refine ysl rfl rfl J rfl J ?_ | refine sq_yes rfl rfl J rfl (ev_mv (v := .own _ _ _) J) ?_ | refine ymr rfl rfl J rfl J ?_ | refine sq_yes rfl rfl J rfl (ev_mv (v := .slx _ _) J) ?_ | refine sq_yes rfl rfl J rfl (ev_mv (v := .msl _ _ _ _) J) ?_
                              refine sq_yes rfl rfl J rfl (ev_call en29.h J (k29r) ⟨J, J, trivial⟩) ?_
                              refine sq_yes rfl rfl J rfl (ev_not J) ?_
                              refine pf rfl J J (mvr J rfl ?_)
                              first | refine ysl rfl rfl J rfl J ?_ | refine sq_yes rfl rfl J rfl (ev_mv (v := .own _ _ _) J) ?_ | refine ymr rfl rfl J rfl J ?_ | refine sq_yes rfl rfl J rfl (ev_mv (v := .slx _ _) J) ?_ | refine sq_yes rfl rfl J rfl (ev_mv (v := .msl _ _ _ _) J) ?_
                              refine sq_yes rfl rfl J rfl (ev_less (ev_mv (v := .own _ _ _) J) (Less.trans (less_own _ _ _) (Less.eq (b := strs (seenBy x.s.wide.toNat c seen x.s.high.toNat)) rfl))) ?_
                              refine sq_yes rfl rfl J rfl (ev_call en50.h J (k50r) ⟨J, J, trivial⟩) ?_
                              refine sq_yes rfl rfl J rfl (ev_not J) ?_
                              refine pf rfl J J (sq_nil ?_)
                              refine aw_cond J (fun c_279 => ?_) (fun c_279 => ?_)
                              · skip
                                have c_279' := c_279
                                try simp only [qq] at c_279'
                                first | exact absurd c_279 (by decide) | (exfalso; simp at c_279; done) | (exfalso; simp at c_279; omega) | (exfalso; simp_all; done) | (exfalso; simp_all; omega)
                              · skip
                                have c_279' := c_279
                                try simp only [qq] at c_279'
                                refine aw_skip (aw_region (mvr J rfl (sq_ev rfl (ev_add J J (wr (by omega) (by omega))) ?_)))
                                refine asr J rfl (sq_nil ?_)
                                exact ⟨⟨k + 1, by omega⟩, by simp only; omega, Sub.fin 4 ⟨J, J, J, J, J, J, J, trivial⟩ rfl (by simp [slotsIn, objsIn, sget, keepS, AObj.inB, AV.inB, AV.inL, AV.inE, inE_map, inE_bys, inE_rds, inE_ints, inE_strs, inE_figs, inE_cloths, -List.map_append, -List.map_take, -List.map_map]) (by simp [slotsIn, objsIn, sget, keepS, AObj.inB, AV.inB, AV.inL, AV.inE, inE_map, inE_bys, inE_rds, inE_ints, inE_strs, inE_figs, inE_cloths, -List.map_append, -List.map_take, -List.map_map]) (by simp [he0])⟩
                        · skip
                          have c_226' := c_226
                          try simp only [qq] at c_226'
                          refine aw_exit (aw_seq (aw_region (sq_ev rfl (ev_call en27.h J (known_pure) trivial) ?_)))
                          refine asr J rfl (sq_nil (aw_ret ?_))
                          exact retQ_pure (v := .raw _) rfl rfl J
end Go.Proofs.YtmbknoaneglilaaGreatDoor
namespace Go.Proofs.YtmbknoaneglilaaGreatDoor
open Go Go.Ab Ni Ol
theorem cnt_words {S : List Int} {n : Nat} (hn : S.Nodup) (h : ∀ k ∈ S, 0 ≤ k ∧ k < (n : Int)) {v : Int} (hv : ∀ i, wordOf S i = v ↔ (i : Int) ∈ S) : cntW ((List.range n).map (wordOf S)) v ((List.range n).map (wordOf S)).length = S.length := by
  unfold cntW
  rw [List.take_length, ← words_len hn h]
  congr 2
  refine List.filter_congr fun w hw => ?_
  obtain ⟨i, _, rfl⟩ := List.mem_map.1 hw
  rw [decide_eq_decide, hv, wordOf_ne]
theorem cnt_none {S : List Int} {n : Nat} {v : Int} (hv : ∀ i, wordOf S i ≠ v) : cntW ((List.range n).map (wordOf S)) v ((List.range n).map (wordOf S)).length = 0 := by
  unfold cntW
  rw [List.take_length, List.filter_eq_nil_iff.2 fun w hw => by obtain ⟨i, _, rfl⟩ := List.mem_map.1 hw; simpa using hv i]
  rfl
theorem who_get {x : Sn} {sight : List (List UInt8)} {k : Nat} (h : k < (whoOf x sight).length) : (whoOf x sight)[k] = wordOf (seenF (agrees x sight)) k :=
  (List.getElem_map (f := wordOf (seenF (agrees x sight))) (l := List.range x.l.length) (h := h)).trans (by rw [List.getElem_range])
theorem who_cnt {x : Sn} {sight : List (List UInt8)} {f : Nat} (hf : (f : Int) ∈ seenF (agrees x sight)) (h : f < (whoOf x sight).length) :
    (cntW (whoOf x sight) 3 (whoOf x sight).length = 1 ∧ cntW (whoOf x sight) 2 (whoOf x sight).length = 0 ∧ (whoOf x sight)[f] = 3) ∨ (cntW (whoOf x sight) 3 (whoOf x sight).length = 0 ∧ 2 ≤ cntW (whoOf x sight) 2 (whoOf x sight).length) := by
  have hn := seenF_nodup (agrees x sight)
  have hr := seen_range (x := x) (sight := sight)
  by_cases h1 : (seenF (agrees x sight)).length = 1
  · refine .inl ⟨?_, ?_, ?_⟩
    · have := cnt_words hn hr (v := 3) fun i => by
        unfold wordOf
        by_cases e : (i : Int) ∈ seenF (agrees x sight)
        · rw [if_pos e, if_pos h1]; simp [e]
        · rw [if_neg e]; simp [e]
      rw [h1] at this; exact this
    · exact cnt_none fun i => by unfold wordOf; rw [if_pos h1]; split <;> decide
    · rw [who_get h]; unfold wordOf; rw [if_pos hf, if_pos h1]
  · refine .inr ⟨?_, ?_⟩
    · exact cnt_none fun i => by unfold wordOf; rw [if_neg h1]; split <;> decide
    · have := cnt_words hn hr (v := 2) fun i => by
        unfold wordOf
        by_cases e : (i : Int) ∈ seenF (agrees x sight)
        · rw [if_pos e, if_neg h1]; simp [e]
        · rw [if_neg e]; simp [e]
      have e : cntW (whoOf x sight) 2 (whoOf x sight).length = (seenF (agrees x sight)).length := this
      have : 0 < (seenF (agrees x sight)).length := List.length_pos_of_mem hf
      omega
theorem rdgs_216 {x : Sn} (hx : snOK x = true) : (rdgs x).length ≤ 300 := by
  obtain ⟨h1, h2, h3, _⟩ := sn_facts hx
  have h4 := rcOK_facts h3
  have a1 : nN x ≤ 6 := by unfold nN; omega
  have a2 : nX x ≤ 6 := by unfold nX; omega
  rw [rdgs_len]
  unfold pos
  have := Nat.mul_le_mul (Nat.mul_le_mul h1.2 a1) a2
  simp only [Nat.add_zero]; omega
theorem whole_si {s : Sg} {c : List (List UInt8)} (h : wholeB s c = true) : siOK s c = true := by unfold wholeB at h; exact (gate_bool h).1
theorem seenBy_si {s : Sg} {c : List (List UInt8)} {seen : List Int} (hs : stOK s = true) (hc : siOK s c = true) : siOK s (seenBy s.wide.toNat c seen s.high.toNat) = true := by
  have hb := stOK_iff.1 hs
  have hcl := sight_clo hs hc
  have h := siOK_iff.1 hc
  refine siOK_iff.2 ⟨by rw [seenBy_len]; omega, fun r hr => ?_⟩
  unfold seenBy at hr
  obtain ⟨m, hm, rfl⟩ := List.mem_map.1 hr
  have hmL : m < c.length := by rw [hcl.len]; exact List.mem_range.1 hm
  refine ⟨by rw [rowOf_len]; omega, fun d hd => ?_⟩
  unfold rowOf at hd
  obtain ⟨k, hk, rfl⟩ := List.mem_map.1 hd
  have hkL : k < c[m].length := by rw [hcl.row _ (List.getElem_mem hmL)]; exact List.mem_range.1 hk
  unfold cellOf
  split
  · rw [getD_get hmL, getD_get hkL]; exact (h.2 _ (List.getElem_mem hmL)).2 _ (List.getElem_mem hkL)
  · exact .inr (.inr (.inr rfl))
theorem law20 (x : Sn) (f : Int) (p : Pc) (seen : List Int) : APure Tryz.prog 20 [stA x.s, figs x.l, rcA x.r, .agg [I f, I p.near, I p.x, I p.y], ints seen] (B true) := by
  cases hg : (fewB x.l && (decide (seen.length ≤ 300) && (decide (askE x true = 0) && readB x.l.length x.r f p))) with
  | false => exact seen_gate x f p seen hg
  | true =>
    simp only [Bool.and_eq_true, decide_eq_true_eq] at hg
    obtain ⟨hfew, hsn, hask, hr⟩ := hg
    have hx := (askE_0.1 hask).1
    obtain ⟨hb1, hn1, hx1, hy1⟩ := readB_iff.1 hr
    obtain ⟨f, rfl⟩ : ∃ n : Nat, f = n := ⟨f.toNat, by omega⟩
    have hf : f < x.l.length := by omega
    have hsz := fewB_sz hfew
    have hst := (sn_facts hx).2.1
    have hrc := rcOK_facts (sn_facts hx).2.2.1
    have hl : x.l.length ≤ 1000000 := by omega
    have k34 : APure Tryz.prog 34 [figs x.l] (B true) := by have := few_pure x.l; rwa [hfew] at this
    have k36 : APure Tryz.prog 36 [stA x.s, figs x.l, rcA x.r, B true] (I 0) := by have := asked_pure x true; rwa [hask] at this
    have RD : ∀ (g : Nat) (hg : g < x.l.length) (q : Pc), readB x.l.length x.r g q = true → APure Tryz.prog 49 [figs x.l, rcA x.r, .agg [I (g : Int), I q.near, I q.x, I q.y]] (B true) ∧ APure Tryz.prog 28 [stA x.s, fgA x.l[g], pcA q] (.tup [strs (Ca.mk x.s x.l[g] q).shadow, I 0]) ∧ APure Tryz.prog 29 [stA x.s, strs (Ca.mk x.s x.l[g] q).shadow] (B true) := fun g hg q hq => by
      obtain ⟨_, h2, h3, h4⟩ := readB_iff.1 hq
      have e1 : caOK ⟨x.s, x.l[g], q⟩ = true := by
        unfold caOK
        simp only [Bool.and_eq_true]
        exact ⟨⟨hst, (sn_facts hx).2.2.2 g hg⟩, pcOK_iff.2 ⟨by omega, by omega, by omega⟩⟩
      have k28 := shadowE_pure ⟨x.s, x.l[g], q⟩
      rw [if_pos e1, e1] at k28
      have c1 := shadow_clo ⟨x.s, x.l[g], q⟩
      exact ⟨by have := reading_pure x.l x.r g q; rwa [hq] at this, k28, by have := whole_pure x.s (Ca.mk x.s x.l[g] q).shadow (clo_shp hst c1); rwa [shadow_whole (c := ⟨x.s, x.l[g], q⟩) hst] at this⟩
    obtain ⟨k49, k28, k29⟩ := RD f hf p hr
    have cc := shadow_clo ⟨x.s, x.l[f], p⟩
    have hsi := seenBy_si (seen := seen) hst (whole_si (shadow_whole (c := ⟨x.s, x.l[f], p⟩) hst))
    have hclo := sight_clo hst hsi
    have hshp := clo_shp hst hclo
    have ho := ask_sn hx hsi
    have hag : agree (Ca.mk x.s x.l[f] p).shadow (seenBy x.s.wide.toNat (Ca.mk x.s x.l[f] p).shadow seen x.s.high.toNat) = true := seenBy_agree cc.len cc.row
    have hmem : (⟨⟨f, p⟩, (Ca.mk x.s x.l[f] p).shadow⟩ : Th) ∈ agrees x (seenBy x.s.wide.toNat (Ca.mk x.s x.l[f] p).shadow seen x.s.high.toNat) :=
      List.mem_filter.2 ⟨mem_rdgs.2 ⟨hf, read_mem hf hr⟩, hag⟩
    generalize hSI : seenBy x.s.wide.toNat (Ca.mk x.s x.l[f] p).shadow seen x.s.high.toNat = SI at *
    have hA3 : (agrees x SI).length ≤ 300 := Nat.le_trans (List.length_filter_le _ _) (rdgs_216 hx)
    have hany : anyOK x SI = true := by unfold anyOK; simpa using List.length_pos_of_mem hmem
    have k78 := reads_pure x SI hl hshp
    have k79 := who_pure x SI hl hshp
    simp only [ho, if_true, show er true = 0 from rfl] at k78
    unfold whoL whoE at k79
    simp only [ho, hany, if_true, and_self] at k79
    have k83 := listed_pure ((agrees x SI).map fun t => (⟨t.rd.fig, t.rd.p⟩ : Rz)) ⟨f, p⟩ (by rw [List.length_map]; omega)
    rw [← rds_rz, decide_eq_true (List.mem_map.2 ⟨_, hmem, rfl⟩)] at k83
    have hV : (whoOf x SI).length = x.l.length := by unfold whoOf; simp
    have hfV : f < (whoOf x SI).length := by omega
    have hfS : (f : Int) ∈ seenF (agrees x SI) := seenF_mem'.2 ⟨_, hmem, rfl⟩
    subst hSI
    refine seen_main hst hf hl hsn cc k34 k36 k49 k28 k29 k78 k79 hA3 k83 hV hfV (by rw [who_get hfV]; exact wordOf_ne.2 hfS) (fun k hk => by rw [who_get hk]; have := wordOf_cases (seenF (agrees x (seenBy x.s.wide.toNat (Ca.mk x.s x.l[f] p).shadow seen x.s.high.toNat))) k; omega) (who_cnt hfS hfV) fun t ht => ?_
    have htr := (List.mem_filter.1 ht).1
    obtain ⟨hq, _, hsh⟩ := th_facts hx htr
    have hqr : readB x.l.length x.r t.rd.fig t.rd.p = true := by
      obtain ⟨i, n, k, hi, hn, hk, rfl⟩ := rdgs_mem htr
      exact readB_iff.2 ⟨⟨by show (0 : Int) ≤ (i : Nat); omega, by show ((i : Nat) : Int) < _; omega⟩, hn, hk, rfl⟩
    obtain ⟨g1, g2, g3⟩ := RD _ hq _ hqr
    rw [← hsh] at g2 g3
    have hq2 : t.rd.fig < (whoOf x (seenBy x.s.wide.toNat (Ca.mk x.s x.l[f] p).shadow seen x.s.high.toNat)).length := by omega
    have k50 := ragree_pure (clo_fit hst (rdgs_clo hx htr) hclo)
    rw [show agree t.sh (seenBy x.s.wide.toNat (Ca.mk x.s x.l[f] p).shadow seen x.s.high.toNat) = true from (List.mem_filter.1 ht).2] at k50
    exact ⟨hq, hq2, g1, by rw [who_get hq2]; exact wordOf_ne.2 (seenF_mem'.2 ⟨t, ht, rfl⟩), g2, g3, k50⟩
end Go.Proofs.YtmbknoaneglilaaGreatDoor
