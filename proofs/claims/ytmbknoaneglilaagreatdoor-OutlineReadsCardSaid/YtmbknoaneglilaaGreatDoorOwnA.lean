/-
  A part of the proof: conditions: none beyond each theorem's own.
-/
import Derived.Test.YtmbknoaneglilaaGreatDoorLogicA
import Derived.Test.YtmbknoaneglilaaGreatDoorLogicC
import Derived.Laws.StructEq
import Derived.Test.YtmbknoaneglilaaGreatDoorLogicD
import Derived.Deep.Slices
import Derived.OpenShut
import Derived.Carry
import Derived.IntWalk
import Derived.Test.YtmbknoaneglilaaGreatDoorSpecA
import Derived.KernelRfl
import Derived.Lib.LaidTab
import Derived.Lib.ItoaNum
import Derived.Test.YtmbknoaneglilaaGreatDoorProg
import Derived.Test.YtmbknoaneglilaaGreatDoorWalkB
import Derived.Test.YtmbknoaneglilaaGreatDoorWalkF
import Derived.ChangeKeysEq
import Derived.Test.YtmbknoaneglilaaGreatDoorLogicB
import Derived.Test.YtmbknoaneglilaaGreatDoorLogicE
import Derived.Test.YtmbknoaneglilaaGreatDoorShelf
import Derived.Test.YtmbknoaneglilaaGreatDoorWalkA
import Derived.Test.YtmbknoaneglilaaGreatDoorWalkC
import Derived.Test.YtmbknoaneglilaaGreatDoorWalkD
import Derived.Test.YtmbknoaneglilaaGreatDoorWalkE
import Derived.Test.YtmbknoaneglilaaGreatDoorRow
set_option linter.all false
set_option maxRecDepth 100000
set_option maxHeartbeats 8000000
namespace Go.Ab
variable [Tabs]
theorem FW_room (r : Option Nat) (n : Nat) : (FW r).room n := fun _ h => by simp [FW] at h
variable {c : Ctx} {Q : AExit → St → Prop} {s : St}
theorem aw_less {code : Code} (sl' : List (Nat × AV)) (h : ∀ p ∈ sl', Less (sget s.sl p.1) p.2) (k : AWP c code Q { s with sl := sl' }) : AWP c code Q s := by
  intro e a hs
  exact k e a ⟨hs.size, fun t => get_less h t _ _ (hs.slots t), hs.defers, hs.H, hs.ok, hs.fr⟩
end Go.Ab
namespace Go.Ab
variable [Tabs]
section ops
variable {P : Program} {r : Option Nat} {H : List AObj} {ρ : Operand → AV}
variable {d : Option Tmp} {t : TypeId} {p : String} {af : Array Edge} {g : Option (Nat × Bool)}
variable {x y z : Operand}
theorem ev_neq_agg {xt yt : TypeId} {xs ys : Array Value} {b : Bool} (hg : P.eqGuardType P.depth xt = false) (he : ∀ w, (Op.equalIn 10000 xt (.agg xs) (.agg ys)).run P w = .ok b w)
    (hx : Less (ρ x) (.raw (.agg xs))) (hy : Less (ρ y) (.raw (.agg ys))) : Ev P r ⟨d, .binOp .neq xt x y yt, t, p, af, g⟩ H ρ (.raw (.bool !b)) :=
  Ev.pure (by intro c h; cases h) fun e ρc _ _ hs => by
    have e1 := rep_raw hx (hs x (by simp [Op.operands]))
    have e2 := rep_raw hy (hs y (by simp [Op.operands]))
    exact ⟨.bool !b, by simp [execOp, e1, e2, run_eqGuard_agg _ _ _ _ _ _ _ hg, run_neq_struct, he], by rw [Rep]⟩
end ops
end Go.Ab
namespace Go.Ab
open Go.ChangeShapes Go.WideShapes
variable [Tabs]
theorem env0_ok {w : World} (h : Tabs.is w) (hb : ∀ b, Tabs.blk b → b < w.heap.size) : EnvOK (env0 w) :=
  ⟨fun b hb => by have hb' : w.heap.size ≤ b := hb
                  have : w.heap[b]? = none := by simpa using hb'
                  simp [env0, this], fun i o h => by simp [env0] at h, fun i j b hi => by simp [env0] at hi, fun i b hi => by simp [env0] at hi, h, fun b hk => ⟨hb b hk, fun i hi => by simp [env0] at hi⟩⟩
section
variable {H : Type} {enc : TypeId × Value → H} {P : Program} {w : World} {base : Nat} {spare : Nat → Bool} {held : Bool}
theorem trodAll_stays (hl : laidOutB P = true) {W W' : World} (hheap : ∀ b, b < W.heap.size → W'.heap[b]? = W.heap[b]?) {sp' : Nat → Bool} :
    ∀ {ts : List TypeId} {vs : List Value} {ds : List (DataW H)} {ps : List MemPlace}, (∀ t ∈ ts, P.readableRec t = true ∧ t < P.types.size) → DataW.TrodAll enc P W base (fun _ => true) true ts vs ds ps → (∀ p ∈ ps, p.block < W.heap.size) → (∀ p ∈ ps, sp' p.block = true) →
      DataW.TrodAll enc P W' base sp' true ts vs ds ps
  | [], _, _, _, _, h, _, _ => by
    obtain ⟨rfl, rfl, rfl⟩ := trodAll_nil h
    exact trodAll_mk0
  | t :: ts, _, _, _, ht, h, hlt, hs => by
    obtain ⟨v, vs1, d, ds1, a, b, rfl, rfl, rfl, h1, h2⟩ := trodAll_cons h
    refine trodAll_cons_mk (WideElems.Trod_stays hl (ht t (by simp)).1 (ht t (by simp)).2 h1 (fun p hp => ?_) (fun p hp => hs p (by simp [hp]))) (trodAll_stays hl hheap (fun u hu => ht u (List.mem_cons_of_mem _ hu)) h2 (fun p hp => hlt p (by simp [hp])) (fun p hp => hs p (by simp [hp])))
    have hb := hheap p.block (hlt p (by simp [hp]))
    cases p with
    | cell b o => exact cell?_of_heap hb
    | map b => exact hb
/-- **What a law's row asks of a call that returns true and leaves what it met.** -/
theorem post_true {f : Func} {s : ChangeSpec} {W W' : World} {args : Array Value} {ds gs : List (DataW H)} {before : List MemPlace} {tb : TypeId} (hl : laidOutB P = true) (hread : ∀ t ∈ f.params.toList, P.readableRec t = true ∧ t < P.types.size)
    (hres : f.resultTypes = #[tb]) (htb : P.underlying tb = some .bool) (hvars : s.vars = []) (hspec : (s.fn H ds).results = [.lit (.bool true)] ∧ (s.fn H ds).args = ds ∧ (s.fn H ds).vars = [])
    (hW : DataW.Whole enc P f.params.toList s.vars false W args.toList ds gs before) (hheap : ∀ b, b < W.heap.size → W'.heap[b]? = W.heap[b]?) (hst : Still W W') :
    s.post enc P f false true false false W args (.bool true) W' := by
  have hlt := hW.lt
  have hW0 := hW
  obtain ⟨p, q, h1, h2, rfl, _, _⟩ := hW
  rw [hvars] at h2
  obtain ⟨rfl, rfl⟩ := trodVars_none h2
  simp only [List.append_nil] at hlt
  obtain ⟨e1, e2, e3⟩ := hspec
  refine ⟨ds, [], p ++ [], [], p, [], hW0, ?_, ?_, ?_, ?_, fun h => by cases h⟩
  · rw [List.append_nil, e1, hres]
    exact trodAll_cons_mk (RowKit.shut_bool htb _) trodAll_mk0
  · rw [List.append_nil, e2]
    exact trodAll_stays hl hheap hread h1 hlt (fun p hp => by simpa using hlt p hp)
  · rw [List.append_nil, e3, hvars]; rfl
  · refine ⟨hst.1, hst.2, fun i hi => ?_⟩
    rw [hheap i hi]
    split <;> simp_all
theorem APure.law {f : FuncId} {args : List AV} {W : World} {vs : Array Value} (hc : APure P f args (.raw (.bool true))) (ht : Tabs.is W) (hb : ∀ b, Tabs.blk b → b < W.heap.size) (hr : RepL (env0 W) args vs.toList) :
    Calls P f vs W fun x W' => x = .returned (.bool true) ∧ (∀ b, b < W.heap.size → W'.heap[b]? = W.heap[b]?) ∧ Still W W' := by
  refine ((hc (env0 W) vs (env0_ok ht hb) hr).calls (fun k => FW_room none k)).mono ?_
  rintro x w' ⟨u, e', rfl, rfl, hx, hu⟩
  rw [Rep] at hu; subst hu
  exact ⟨rfl, hx.heap, hx.still⟩
end
end Go.Ab
namespace Go.Ab
variable [Tabs]
section seq
variable {c : Ctx} {ops : Array Oper} {Q : AExit → St → Prop} {rest : List Oper} {s : St} {i : Nat}
variable {d : Option Tmp} {op : Op} {t : TypeId} {p : String} {af : Array Edge}
end seq
section cond
variable {c : Ctx} {Q : AExit → St → Prop} {s : St} {x : Operand} {y z : Code}
end cond
section split
variable {c : Ctx} {ops : Array Oper} {Q : AExit → St → Prop} {s : St} {i : Nat} {l : List Oper}
theorem spn (u : Nat) {α : Type} {m n : α} {_ : Decidable (m ≠ n)} (h1 : decide (m ≠ n) = true → ¬ m = n → SeqWP c ops Q i l s) (h2 : decide (m ≠ n) = false → m = n → SeqWP c ops Q i l s) (hb : Less (sget s.sl u) (.raw (.bool (decide (m ≠ n)))) := by exact J) : SeqWP c ops Q i l s :=
  sq_split u hb (fun h => h1 h (of_decide_eq_true h)) (fun h => h2 h (Classical.byContradiction (of_decide_eq_false h)))
end split
section draw
variable {c : Ctx} {H0 : List AObj} {ops : Array Oper} {Q : AExit → St → Prop} {m i : Nat} {s : St} {rest : List Oper}
variable {d : Option Tmp} {op : Op} {t : TypeId} {p : String} {af : Array Edge}
theorem dn1 {j u : Nat} (hj : gslot ops j = some u) (ht : Nat.blt u c.nt = true) (hb : Less (sget s.sl u) (.raw (.bool false))) (hd : dOK c.nt d = true) (k : DR c H0 ops Q m (i + 1) rest (s.put d (.raw (.tuple #[])))) :
    DR c H0 ops Q m i (⟨d, op, t, p, af, some (j, true)⟩ :: rest) s := dr_no hj ht hb rfl hd k
end draw
section ex
variable {c : Ctx} {Q : AExit → St → Prop} {K : St → Prop} {s : St} {id j : Nat}
end ex
section app
variable {c : Ctx} {ops : Array Oper} {Q : AExit → St → Prop} {s : St} {i : Nat} {o : Oper} {l m : List Oper} {H0 : List AObj} {k : Nat}
end app
end Go.Ab
namespace Ol
open Ni (inn)
theorem addF_nodup {l : List Int} {n : Int} (h : l.Nodup) : (addF l n).Nodup := by
  unfold addF; split
  · exact h
  · rename_i hn; rw [List.nodup_append]; refine ⟨h, by simp, fun a ha b hb e => ?_⟩
    simp only [List.mem_singleton] at hb; subst hb; subst e; exact hn ha
theorem foldF_nodup : ∀ (l : List Th) (a : List Int), a.Nodup → (l.foldl (fun a t => addF a t.rd.fig) a).Nodup
  | [], _, h => h
  | t :: l, a, h => foldF_nodup l _ (addF_nodup h)
theorem seenF_nodup (l : List Th) : (seenF l).Nodup := foldF_nodup l [] List.nodup_nil
end Ol
namespace Ol
open Ni (inn)
theorem lt_ceil {R F i : Int} (hF : 0 < F) : i ≤ -(-R / F) - 1 ↔ i * F < R := by
  have h1 : i ≤ -(-R / F) - 1 ↔ -R / F < -i := by omega
  rw [h1, Int.ediv_lt_iff_lt_mul hF, Int.neg_mul]
  omega
theorem floor_le {L F i : Int} (hF : 0 < F) : L / F ≤ i ↔ L < (i + 1) * F := by
  rw [← Int.lt_add_one_iff, Int.ediv_lt_iff_lt_mul hF]
theorem mem_mts {c : Ca} (hF : 0 < c.s.far) {e : Int × Int} {i : Int} : i ∈ rng (c.mts e).1 (c.mts e).2 ↔ e.1 < (i + 1) * c.s.far ∧ i * c.s.far < e.2 := by
  rw [mem_rng]
  unfold Ca.mts
  simp only
  rw [floor_le hF, lt_ceil hF]
theorem mts_ex {c : Ca} (hF : 0 < c.s.far) {e : Int × Int} (h : e.1 < e.2) : ∃ i, i ∈ rng (c.mts e).1 (c.mts e).2 := by
  refine ⟨e.1 / c.s.far, (mem_mts hF).2 ⟨?_, ?_⟩⟩
  · exact (floor_le hF).1 (Int.le_refl _)
  · have := Int.ediv_mul_le e.1 (show c.s.far ≠ 0 by omega); omega
theorem boxAll_iff {c : Ca} {h v : Int × Int} : c.boxAll h v = true ↔ ∀ m ∈ rng v.1 v.2, ∀ i ∈ rng h.1 h.2, c.hide m i = true := by
  unfold Ca.boxAll Ca.rowAll; simp only [List.all_eq_true]
theorem cell_35 {c : Ca} {k m : Int} : c.cell k m = 35 ↔ ∀ j ∈ rng (c.mts (c.dwn m)).1 (c.mts (c.dwn m)).2, ∀ i ∈ rng (c.mts (c.acr k)).1 (c.mts (c.acr k)).2, c.hide j i = true := by
  rw [← boxAll_iff]
  unfold Ca.cell Ca.cellAt
  by_cases h : c.boxAll (c.mts (c.acr k)) (c.mts (c.dwn m)) = true
  · rw [if_pos h]; exact ⟨fun _ => h, fun _ => rfl⟩
  · rw [if_neg h]
    refine ⟨fun e => ?_, fun e => absurd e h⟩
    split at e <;> cases e
structure Good (c : Ca) : Prop where
  far : 0 < c.s.far
  near : c.p.near < c.s.far
  pos : 0 ≤ c.p.near
  fl : 0 ≤ c.s.flame
theorem CaB.good {c : Ca} (h : CaB c) : Good c := by
  have h1 := h.st; have h2 := h.pc
  exact ⟨by omega, by omega, by omega, by omega⟩
theorem Good.blur {c : Ca} (h : Good c) : 0 ≤ c.blur := Int.mul_nonneg h.fl h.pos
theorem frm_step (c : Ca) (k axis edge : Int) : c.frm (k + 1) axis edge = c.frm k axis edge + (c.s.far - c.p.near) := by
  unfold Ca.frm
  rw [show k + 1 - axis = (k - axis) + 1 by omega, Int.add_mul]; omega
theorem acr_lt {c : Ca} (h : Good c) (k : Int) : (c.acr k).1 < (c.acr k).2 := by
  have := h.blur; have := h.near
  unfold Ca.acr; simp only; rw [frm_step]; omega
theorem dwn_lt {c : Ca} (h : Good c) (k : Int) : (c.dwn k).1 < (c.dwn k).2 := by
  have := h.blur; have := h.near
  unfold Ca.dwn; simp only; rw [frm_step]; omega
theorem cell_46 {c : Ca} (g : Good c) {k m : Int} : c.cell k m = 46 ↔ ∀ j ∈ rng (c.mts (c.dwn m)).1 (c.mts (c.dwn m)).2, ∀ i ∈ rng (c.mts (c.acr k)).1 (c.mts (c.acr k)).2, c.hide j i = false := by
  have hno : c.boxAny (c.mts (c.acr k)) (c.mts (c.dwn m)) = false ↔ ∀ j ∈ rng (c.mts (c.dwn m)).1 (c.mts (c.dwn m)).2, ∀ i ∈ rng (c.mts (c.acr k)).1 (c.mts (c.acr k)).2, c.hide j i = false := by
    unfold Ca.boxAny Ca.rowAny
    simp only [List.any_eq_false, Bool.not_eq_true]
  rw [← hno]
  unfold Ca.cell Ca.cellAt
  by_cases h : c.boxAll (c.mts (c.acr k)) (c.mts (c.dwn m)) = true
  · rw [if_pos h]
    obtain ⟨i, hi⟩ := mts_ex g.far (acr_lt g k)
    obtain ⟨j, hj⟩ := mts_ex g.far (dwn_lt g m)
    refine ⟨fun e => (by cases e), fun e => ?_⟩
    rw [hno] at e
    have h1 := boxAll_iff.1 h j hj i hi
    rw [e j hj i hi] at h1; cases h1
  · rw [if_neg h]
    cases hb : c.boxAny (c.mts (c.acr k)) (c.mts (c.dwn m)) with
    | true => rw [if_pos rfl]; exact ⟨fun e => (by cases e), fun e => (by cases e)⟩
    | false => rw [if_neg (by simp)]; exact ⟨fun _ => rfl, fun _ => rfl⟩
structure Gr (c d : Ca) : Prop where
  w : d.s.wide = c.s.wide
  h : d.s.high = c.s.high
  f : d.s.far = c.s.far
  x : d.s.x = c.s.x
  y : d.s.y = c.s.y
  fg : d.f = c.f
  p : d.p = c.p
  fl : c.s.flame ≤ d.s.flame
theorem Gr.blur {c d : Ca} (g : Gr c d) (h : 0 ≤ c.p.near) : c.blur ≤ d.blur := by
  unfold Ca.blur; rw [g.p]; exact Int.mul_le_mul_of_nonneg_right g.fl h
theorem Gr.frm {c d : Ca} (g : Gr c d) (k a e : Int) : d.frm k a e = c.frm k a e := by unfold Ca.frm; rw [g.f, g.p]
theorem Gr.acr {c d : Ca} (g : Gr c d) (h : Good c) (k i : Int) (hi : i ∈ rng (c.mts (c.acr k)).1 (c.mts (c.acr k)).2) : i ∈ rng (d.mts (d.acr k)).1 (d.mts (d.acr k)).2 := by
  have hb := g.blur h.pos
  have h1 := (mem_mts h.far).1 hi
  have hf : 0 < d.s.far := by rw [g.f]; exact h.far
  refine (mem_mts hf).2 ?_
  unfold Ca.acr at h1 ⊢
  rw [g.frm, g.frm, g.x, g.p, g.f]
  simp only at h1 ⊢
  omega
theorem Gr.dwn {c d : Ca} (g : Gr c d) (h : Good c) (k i : Int) (hi : i ∈ rng (c.mts (c.dwn k)).1 (c.mts (c.dwn k)).2) : i ∈ rng (d.mts (d.dwn k)).1 (d.mts (d.dwn k)).2 := by
  have hb := g.blur h.pos
  have h1 := (mem_mts h.far).1 hi
  have hf : 0 < d.s.far := by rw [g.f]; exact h.far
  refine (mem_mts hf).2 ?_
  unfold Ca.dwn at h1 ⊢
  rw [g.frm, g.frm, g.y, g.p, g.f]
  simp only at h1 ⊢
  omega
theorem Gr.fits {c d : Ca} (g : Gr c d) (h : Good c) (e : d.fits = true) : c.fits = true := by
  have hb := g.blur h.pos
  unfold Ca.fits Ca.fitsD at e ⊢
  rw [g.f, g.p, g.x, g.y, g.w, g.h, g.fg] at e
  simp only [Bool.and_eq_true, Bool.not_eq_true', Bool.or_eq_false_iff, decide_eq_false_iff_not] at e ⊢
  omega
end Ol
namespace Ol
open Ni (inn)
theorem cell_ch3 (c : Ca) (k m : Int) : c.cell k m = 35 ∨ c.cell k m = 43 ∨ c.cell k m = 46 := by
  unfold Ca.cell Ca.cellAt
  split
  · exact .inl rfl
  · split
    · exact .inr (.inl rfl)
    · exact .inr (.inr rfl)
def chF (f : Fg) (i j : Int) : UInt8 := if 0 ≤ j ∧ j < f.length ∧ 0 ≤ i ∧ i < ((f.getD j.toNat []).length : Int) then (f.getD j.toNat []).getD i.toNat 0 else 46
end Ol
namespace Ol
open Ni (inn)
theorem seenF_sub {l m : List Th} (h : ∀ t ∈ l, t ∈ m) : ∀ n ∈ seenF l, n ∈ seenF m := by
  have key : ∀ (l : List Th) (n : Int), n ∈ seenF l ↔ ∃ t ∈ l, (t.rd.fig : Int) = n := fun l n => by
    have gen : ∀ (l : List Th) (a : List Int), n ∈ l.foldl (fun a t => addF a t.rd.fig) a ↔ n ∈ a ∨ ∃ t ∈ l, (t.rd.fig : Int) = n := fun l => by
      induction l with
      | nil => intro a; simp
      | cons t l ih =>
        intro a
        rw [List.foldl_cons, ih]
        have e : n ∈ addF a t.rd.fig ↔ n ∈ a ∨ (t.rd.fig : Int) = n := by
          unfold addF; split
          · rename_i hm; exact ⟨.inl, fun h => h.elim id fun e => e ▸ hm⟩
          · rw [List.mem_append, List.mem_singleton, eq_comm]
        rw [e]; simp only [List.mem_cons, exists_eq_or_imp, or_assoc]
    rw [seenF, gen]; simp
  intro n hn
  rw [key] at hn ⊢
  obtain ⟨t, ht, e⟩ := hn
  exact ⟨t, h t ht, e⟩
theorem nodup_le {l m : List Int} (hl : l.Nodup) (h : ∀ n ∈ l, n ∈ m) : l.length ≤ m.length := by
  induction l generalizing m with
  | nil => simp
  | cons x l ih =>
    have hx := List.nodup_cons.1 hl
    have := ih (m := m.erase x) hx.2 fun n hn => (List.mem_erase_of_ne (fun e => hx.1 (by rw [e] at hn; exact hn))).2 (h n (by simp [hn]))
    rw [List.length_erase_of_mem (h x (by simp))] at this
    have := List.length_pos_of_mem (h x (by simp))
    rw [List.length_cons]; omega
theorem lenS_mono {l m : List Th} (h : ∀ t ∈ l, t ∈ m) : lenS l ≤ lenS m := by
  have := nodup_le (seenF_nodup l) (seenF_sub h)
  unfold lenS; omega
theorem lenS_pos {l : List Th} (h : 0 < l.length) : 1 ≤ lenS l := by
  cases l with
  | nil => simp at h
  | cons t l =>
    have h1 := lenS_mono (l := [t]) (m := t :: l) (by simp)
    have h2 : lenS [t] = 1 := by unfold lenS seenF addF; simp
    omega
end Ol
namespace Ol
open Ni (inn)
namespace Ca
def ln (c : Ca) (axis x : Int) : Int := axis * (c.s.far - c.p.near) + (x - axis) * c.s.far
def eL (c : Ca) (k : Int) : Int := k * (c.s.far - c.p.near) - c.s.flame * c.p.near
def eR (c : Ca) (k : Int) : Int := (k + 1) * (c.s.far - c.p.near) + c.s.flame * c.p.near
def skp (c : Ca) (k m : Int) (j i : Nat) : Bool := decide (c.ln c.s.x (c.p.x + i) ≥ c.eR k) || (decide (c.ln c.s.x (c.p.x + i + 1) ≤ c.eL k) || (decide (c.ln c.s.y (c.p.y + j) ≥ c.eR m) || decide (c.ln c.s.y (c.p.y + j + 1) ≤ c.eL m)))
def chD (c : Ca) (j i : Nat) : Bool := decide ((c.f.getD j []).getD i 0 = 35)
def dk0 (c : Ca) (k m : Int) : Bool := decide (c.ln c.s.x c.p.x ≤ c.eL k) && (decide (c.ln c.s.x (c.p.x + (w0 c.f : Nat)) ≥ c.eR k) && (decide (c.ln c.s.y c.p.y ≤ c.eL m) && decide (c.ln c.s.y (c.p.y + (c.f.length : Nat)) ≥ c.eR m)))
def dkR (c : Ca) (k m : Int) (j n : Nat) : Bool := (List.range n).all fun i => c.skp k m j i || c.chD j i
def ltR (c : Ca) (k m : Int) (j n : Nat) : Bool := (List.range n).all fun i => c.skp k m j i || !c.chD j i
def dkA (c : Ca) (k m : Int) (n : Nat) : Bool := (List.range n).all fun j => c.dkR k m j (w0 c.f)
def ltA (c : Ca) (k m : Int) (n : Nat) : Bool := (List.range n).all fun j => c.ltR k m j (w0 c.f)
def shade (c : Ca) (k m : Int) : UInt8 := if (c.dk0 k m && c.dkA k m c.f.length) = true then 35 else if c.ltA k m c.f.length = true then 46 else 43
theorem dkR_succ (c : Ca) (k m : Int) (j n : Nat) : c.dkR k m j (n + 1) = (c.dkR k m j n && (c.skp k m j n || c.chD j n)) := by unfold dkR; rw [List.range_succ, List.all_append]; simp
theorem ltR_succ (c : Ca) (k m : Int) (j n : Nat) : c.ltR k m j (n + 1) = (c.ltR k m j n && (c.skp k m j n || !c.chD j n)) := by unfold ltR; rw [List.range_succ, List.all_append]; simp
theorem dkA_succ (c : Ca) (k m : Int) (n : Nat) : c.dkA k m (n + 1) = (c.dkA k m n && c.dkR k m n (w0 c.f)) := by unfold dkA; rw [List.range_succ, List.all_append]; simp
theorem ltA_succ (c : Ca) (k m : Int) (n : Nat) : c.ltA k m (n + 1) = (c.ltA k m n && c.ltR k m n (w0 c.f)) := by unfold ltA; rw [List.range_succ, List.all_append]; simp
theorem ln_R (c : Ca) (k a e i : Int) : c.ln a (e + i) ≥ c.eR k ↔ ¬ i * c.s.far < c.frm (k + 1) a e + c.blur := by
  unfold ln eR frm blur
  have q1 : (e + i - a) * c.s.far = (e - a) * c.s.far + i * c.s.far := by rw [show e + i - a = (e - a) + i by omega, Int.add_mul]
  have q2 : (a - e) * c.s.far = -((e - a) * c.s.far) := by rw [show a - e = -(e - a) by omega, Int.neg_mul]
  have q3 := Int.sub_mul (k + 1) a (c.s.far - c.p.near)
  omega
theorem ln_L (c : Ca) (k a e i : Int) : c.ln a (e + i) ≤ c.eL k ↔ ¬ c.frm k a e - c.blur < i * c.s.far := by
  unfold ln eL frm blur
  have q1 : (e + i - a) * c.s.far = (e - a) * c.s.far + i * c.s.far := by rw [show e + i - a = (e - a) + i by omega, Int.add_mul]
  have q2 : (a - e) * c.s.far = -((e - a) * c.s.far) := by rw [show a - e = -(e - a) by omega, Int.neg_mul]
  have q3 := Int.sub_mul k a (c.s.far - c.p.near)
  omega
theorem skp_iff {c : Ca} (hF : 0 < c.s.far) {k m : Int} {j i : Nat} : c.skp k m j i = false ↔ (i : Int) ∈ rng (c.mts (c.acr k)).1 (c.mts (c.acr k)).2 ∧ (j : Int) ∈ rng (c.mts (c.dwn m)).1 (c.mts (c.dwn m)).2 := by
  rw [mem_mts hF, mem_mts hF]
  unfold skp acr dwn
  simp only [Bool.or_eq_false_iff, decide_eq_false_iff_not, Int.add_assoc]
  rw [ln_R, ln_L, ln_R, ln_L]
  simp only [Decidable.not_not]
  constructor
  · rintro ⟨h1, h2, h3, h4⟩; exact ⟨⟨h2, h1⟩, h4, h3⟩
  · rintro ⟨⟨h2, h1⟩, h4, h3⟩; exact ⟨h1, h2, h3, h4⟩
theorem chD_hide {c : Ca} (B : CaB c) {j i : Nat} (hj : j < c.f.length) (hi : i < w0 c.f) : c.hide j i = c.chD j i := by
  have hw := B.row j hj
  rw [hide_in B hj (by omega)]
  unfold chD
  rw [getD_get hj, getD_get (by omega)]
theorem within_iff {F L R : Int} {n : Nat} (hF : 0 < F) (hLR : L < R) : (∀ i : Int, L < (i + 1) * F → i * F < R → 0 ≤ i ∧ i < n) ↔ (0 ≤ L ∧ R ≤ n * F) := by
  constructor
  · intro h
    constructor
    · apply Int.not_lt.1
      intro hl
      have h1 := Int.ediv_mul_le L (show F ≠ 0 by omega)
      have h2 := Int.lt_ediv_add_one_mul_self L hF
      have := (h (L / F) h2 (by omega)).1
      have h3 : L / F < 0 := Int.ediv_neg_of_neg_of_pos hl hF
      omega
    · apply Int.not_lt.1
      intro hl
      by_cases hm : L < (n + 1 : Int) * F
      · have := (h n hm hl).2; omega
      · have h1 := Int.ediv_mul_le L (show F ≠ 0 by omega)
        have h2 := Int.lt_ediv_add_one_mul_self L hF
        have := (h (L / F) h2 (by omega)).2
        have h3 : (n + 1 : Int) ≤ L / F := (Int.le_ediv_iff_mul_le hF).2 (by omega)
        omega
  · rintro ⟨h1, h2⟩ i h3 h4
    constructor
    · apply Int.not_lt.1
      intro hn
      have : (i + 1) * F ≤ 0 * F := Int.mul_le_mul_of_nonneg_right (by omega) (by omega)
      omega
    · apply Int.not_le.1
      intro hn
      have : (n : Int) * F ≤ i * F := Int.mul_le_mul_of_nonneg_right hn (by omega)
      omega
theorem dk0_iff {c : Ca} (B : CaB c) (k m : Int) : c.dk0 k m = true ↔ (∀ i ∈ rng (c.mts (c.acr k)).1 (c.mts (c.acr k)).2, 0 ≤ i ∧ i < (w0 c.f : Int)) ∧ ∀ j ∈ rng (c.mts (c.dwn m)).1 (c.mts (c.dwn m)).2, 0 ≤ j ∧ j < (c.f.length : Int) := by
  have g := B.good
  have e1 := within_iff (n := w0 c.f) g.far (acr_lt g k)
  have e2 := within_iff (n := c.f.length) g.far (dwn_lt g m)
  have r1 : (∀ i ∈ rng (c.mts (c.acr k)).1 (c.mts (c.acr k)).2, 0 ≤ i ∧ i < (w0 c.f : Int)) ↔ 0 ≤ (c.acr k).1 ∧ (c.acr k).2 ≤ (w0 c.f : Int) * c.s.far := by
    rw [← e1]
    exact ⟨fun h i a b => h i ((mem_mts g.far).2 ⟨a, b⟩), fun h i hi => h i ((mem_mts g.far).1 hi).1 ((mem_mts g.far).1 hi).2⟩
  have r2 : (∀ i ∈ rng (c.mts (c.dwn m)).1 (c.mts (c.dwn m)).2, 0 ≤ i ∧ i < (c.f.length : Int)) ↔ 0 ≤ (c.dwn m).1 ∧ (c.dwn m).2 ≤ (c.f.length : Int) * c.s.far := by
    rw [← e2]
    exact ⟨fun h i a b => h i ((mem_mts g.far).2 ⟨a, b⟩), fun h i hi => h i ((mem_mts g.far).1 hi).1 ((mem_mts g.far).1 hi).2⟩
  rw [r1, r2]
  unfold dk0
  simp only [Bool.and_eq_true, decide_eq_true_eq]
  have l1 := ln_L c k c.s.x c.p.x 0
  have l2 := ln_L c m c.s.y c.p.y 0
  rw [Int.add_zero, Int.zero_mul] at l1 l2
  rw [l1, l2, ln_R, ln_R]
  unfold acr dwn
  simp only [Int.not_lt]
  constructor
  · rintro ⟨a, b, c, d⟩; exact ⟨⟨a, b⟩, c, d⟩
  · rintro ⟨⟨a, b⟩, c, d⟩; exact ⟨a, b, c, d⟩
theorem shade_cell {c : Ca} (B : CaB c) (k m : Int) : c.shade k m = c.cell k m := by
  have g := B.good
  have hA : (c.dk0 k m && c.dkA k m c.f.length) = true ↔ c.cell k m = 35 := by
    rw [Bool.and_eq_true, dk0_iff B, cell_35]
    unfold dkA dkR
    simp only [List.all_eq_true, List.mem_range, Bool.or_eq_true]
    constructor
    · rintro ⟨⟨h1, h2⟩, h3⟩ j hj i hi
      obtain ⟨i', rfl⟩ : ∃ n : Nat, i = n := ⟨i.toNat, by have := h1 i hi; omega⟩
      obtain ⟨j', rfl⟩ : ∃ n : Nat, j = n := ⟨j.toNat, by have := h2 j hj; omega⟩
      have a1 := h1 _ hi; have a2 := h2 _ hj
      rw [chD_hide B (by omega) (by omega)]
      rcases h3 j' (by omega) i' (by omega) with h | h
      · rw [(skp_iff g.far).2 ⟨hi, hj⟩] at h; cases h
      · exact h
    · intro h
      obtain ⟨i0, hi0⟩ := mts_ex g.far (acr_lt g k)
      obtain ⟨j0, hj0⟩ := mts_ex g.far (dwn_lt g m)
      have inb : ∀ j i, c.hide j i = true → (0 ≤ j ∧ j < (c.f.length : Int)) ∧ (0 ≤ i ∧ i < (w0 c.f : Int)) := fun j i hh => by
        unfold hide inn at hh
        simp only [Bool.and_eq_true, decide_eq_true_eq] at hh
        omega
      refine ⟨⟨fun i hi => (inb _ _ (h j0 hj0 i hi)).2, fun j hj => (inb _ _ (h j hj i0 hi0)).1⟩, fun j hj i hi => ?_⟩
      cases hs : c.skp k m j i with
      | true => exact .inl rfl
      | false =>
        have := (skp_iff g.far).1 hs
        right; rw [← chD_hide B hj hi]; exact h _ this.2 _ this.1
  have hB : c.ltA k m c.f.length = true ↔ c.cell k m = 46 := by
    rw [cell_46 g]
    unfold ltA ltR
    simp only [List.all_eq_true, List.mem_range, Bool.or_eq_true, Bool.not_eq_true']
    constructor
    · intro h3 j hj i hi
      by_cases hin : (inn j 0 (c.f.length - 1) && inn i 0 ((w0 c.f : Int) - 1)) = true
      · have hin' := hin
        unfold inn at hin'
        simp only [Bool.and_eq_true, decide_eq_true_eq] at hin'
        obtain ⟨i', rfl⟩ : ∃ n : Nat, i = n := ⟨i.toNat, by omega⟩
        obtain ⟨j', rfl⟩ : ∃ n : Nat, j = n := ⟨j.toNat, by omega⟩
        rw [chD_hide B (by omega) (by omega)]
        rcases h3 j' (by omega) i' (by omega) with h | h
        · rw [(skp_iff g.far).2 ⟨hi, hj⟩] at h; cases h
        · exact h
      · exact hide_out (by simpa using hin)
    · intro h j hj i hi
      cases hs : c.skp k m j i with
      | true => exact .inl rfl
      | false =>
        have := (skp_iff g.far).1 hs
        right; rw [← chD_hide B hj hi]; exact h _ this.2 _ this.1
  unfold shade
  by_cases h1 : (c.dk0 k m && c.dkA k m c.f.length) = true
  · rw [if_pos h1, hA.1 h1]
  · rw [if_neg h1]
    by_cases h2 : c.ltA k m c.f.length = true
    · rw [if_pos h2, hB.1 h2]
    · rw [if_neg h2]
      rcases cell_ch3 c k m with e | e | e
      · exact absurd (hA.2 e) h1
      · exact e.symm
      · exact absurd (hB.2 e) h2
end Ca
end Ol
namespace Ol
open Ni (inn)
theorem seenF_mem' {l : List Th} {n : Int} : n ∈ seenF l ↔ ∃ t ∈ l, (t.rd.fig : Int) = n := by
  have gen : ∀ (l : List Th) (a : List Int), n ∈ l.foldl (fun a t => addF a t.rd.fig) a ↔ n ∈ a ∨ ∃ t ∈ l, (t.rd.fig : Int) = n := fun l => by
    induction l with
    | nil => intro a; simp
    | cons t l ih =>
      intro a
      rw [List.foldl_cons, ih]
      have e : n ∈ addF a t.rd.fig ↔ n ∈ a ∨ (t.rd.fig : Int) = n := by
        unfold addF; split
        · rename_i hm; exact ⟨.inl, fun h => h.elim id fun e => e ▸ hm⟩
        · rw [List.mem_append, List.mem_singleton, eq_comm]
      rw [e]; simp only [List.mem_cons, exists_eq_or_imp, or_assoc]
  rw [seenF, gen]; simp
theorem seen_range {x : Sn} {sight : List (List UInt8)} : ∀ k ∈ seenF (agrees x sight), 0 ≤ k ∧ k < (x.l.length : Int) := fun k hk => by
  obtain ⟨t, ht, e⟩ := seenF_mem'.1 hk
  obtain ⟨i, n, q, hi, _, _, rfl⟩ := rdgs_mem (List.mem_filter.1 ht).1
  have e2 : (thrown x i n q).rd.fig = i := rfl
  rw [e2] at e
  omega
end Ol
namespace Go.Proofs.YtmbknoaneglilaaGreatDoor
open Go Go.Ab Ni Ol
abbrev rdC (t : Rd) : List AV := [I t.fig, I t.p.near, I t.p.x, I t.p.y]
theorem rin_pure (n lo hi : Int) : APure Tryz.prog 89 [I n, I lo, I hi] (B (inn n lo hi)) := by
 refine apure_of (rs := [.tmp 6]) Tryz.func89 rfl rfl (Nat.le_of_ble_eq_true rfl) (by simp [AV.pureL, AV.pureB, AV.pureE, pureE_map]) (by first | rfl | (simp [AV.pureL, AV.pureB, AV.pureE, pureE_map])) fun e0 he0 => ?_
 refine W 5 ?_
 refine sq_split 10 J (fun g1 => ?_) (fun g1 => ?_)
 ·
  have g1' := g1
  try simp only [qq] at g1'
  refine W 5 ?_
  exact retQ_pure (v := .raw _) rfl rfl (Less.eq (by simp [inn, *]))
 have g1' := g1
 try simp only [qq] at g1'
 refine W 5 ?_
 exact retQ_pure (v := .raw _) rfl rfl (Less.eq (by simp [inn, *]))
theorem rstage_pure (s : Sg) : APure Tryz.prog 24 [stA s] (B (stOK s)) := by
 refine apure_of (rs := [.tmp 2]) Tryz.func24 rfl rfl (Nat.le_of_ble_eq_true rfl) (by simp [AV.pureL, AV.pureB, AV.pureE, pureE_map]) (by first | rfl | (simp [AV.pureL, AV.pureB, AV.pureE, pureE_map])) fun e0 he0 => ?_
 refine W 4 ?_
 refine cl A (rin_pure _ _ _) ?_
 refine W 1 ?_
 refine sq_split 6 J (fun g1 => ?_) (fun g1 => ?_)
 ·
  have g1' := g1
  try simp only [qq] at g1'
  refine W 2 ?_
  refine cy A (rin_pure _ _ _) ?_
  refine W 2 ?_
  refine sq_split 11 J (fun g2 => ?_) (fun g2 => ?_)
  ·
   have g2' := g2
   try simp only [qq] at g2'
   refine W 2 ?_
   refine cy A (rin_pure _ _ _) ?_
   refine W 2 ?_
   refine sq_split 16 J (fun g3 => ?_) (fun g3 => ?_)
   ·
    have g3' := g3
    try simp only [qq] at g3'
    refine W 2 ?_
    refine cy A (rin_pure _ _ _) ?_
    refine W 2 ?_
    refine sq_split 21 J (fun g4 => ?_) (fun g4 => ?_)
    ·
     have g4' := g4
     try simp only [qq] at g4'
     refine W 4 ?_
     refine cy A (rin_pure _ _ _) ?_
     refine W 2 ?_
     refine sq_split 28 J (fun g5 => ?_) (fun g5 => ?_)
     ·
      have g5' := g5
      try simp only [qq] at g5'
      refine W 4 ?_
      refine cy A (rin_pure _ _ _) ?_
      refine W 2 ?_
      exact retQ_pure (v := .raw _) rfl rfl (Less.eq (by simp [stOK, *]))
     have g5' := g5
     try simp only [qq] at g5'
     refine W 7 ?_
     exact retQ_pure (v := .raw _) rfl rfl (Less.eq (by simp [stOK, *]))
    have g4' := g4
    try simp only [qq] at g4'
    refine W 14 ?_
    exact retQ_pure (v := .raw _) rfl rfl (Less.eq (by simp [stOK, *]))
   have g3' := g3
   try simp only [qq] at g3'
   refine W 19 ?_
   exact retQ_pure (v := .raw _) rfl rfl (Less.eq (by simp [stOK, *]))
  have g2' := g2
  try simp only [qq] at g2'
  refine W 24 ?_
  exact retQ_pure (v := .raw _) rfl rfl (Less.eq (by simp [stOK, *]))
 have g1' := g1
 try simp only [qq] at g1'
 refine W 29 ?_
 exact retQ_pure (v := .raw _) rfl rfl (Less.eq (by simp [stOK, *]))
theorem rat_pure (x y : Int) : APure Tryz.prog 31 [I x, I y] (B (awayOK x && awayOK y)) := by
 refine apure_of (rs := [.tmp 4]) Tryz.func31 rfl rfl (Nat.le_of_ble_eq_true rfl) (by simp [AV.pureL, AV.pureB, AV.pureE, pureE_map]) (by first | rfl | (simp [AV.pureL, AV.pureB, AV.pureE, pureE_map])) fun e0 he0 => ?_
 refine W 2 ?_
 refine cl A (rin_pure _ _ _) ?_
 refine W 1 ?_
 refine sq_split 7 J (fun g1 => ?_) (fun g1 => ?_)
 ·
  have g1' := g1
  try simp only [qq] at g1'
  refine W 1 ?_
  refine cy A (rin_pure _ _ _) ?_
  refine W 2 ?_
  exact retQ_pure (v := .raw _) rfl rfl (Less.eq (by simp [awayOK, *]))
 have g1' := g1
 try simp only [qq] at g1'
 refine W 4 ?_
 exact retQ_pure (v := .raw _) rfl rfl (Less.eq (by simp [awayOK, *]))
end Go.Proofs.YtmbknoaneglilaaGreatDoor
namespace Go.Proofs.YtmbknoaneglilaaGreatDoor
open Go Go.Ab Ni Ol
theorem ch_ok {c : UInt8} (h : (c.toNat : Int) = 35 ∨ (c.toNat : Int) = 46) : chOK c = true := by
  unfold chOK; simp only [decide_eq_true_eq]
  exact h.imp (fun h => UInt8.toNat_inj.1 (by show c.toNat = 35; omega)) (fun h => UInt8.toNat_inj.1 (by show c.toNat = 46; omega))
theorem ch_no {c : UInt8} (h : (c.toNat : Int) ≠ 35) (k : (c.toNat : Int) ≠ 46) : chOK c = false := by
  rw [Bool.eq_false_iff]; intro ho; unfold chOK at ho; simp only [decide_eq_true_eq] at ho
  rcases ho with e | e <;> (subst e; first | exact h rfl | exact k rfl)
theorem rfigure_pure (f : Fg) : APure Tryz.prog 25 [fgA f] (B (fgOK f)) := by
  refine apure_of (rs := [.tmp 2]) Tryz.func25 rfl rfl (Nat.le_of_ble_eq_true rfl) (by simp [AV.pureL, AV.pureB, AV.pureE, pureE_map]) (by first | rfl | (simp [AV.pureL, AV.pureB, AV.pureE, pureE_map])) fun e0 he0 => ?_
  refine W 5 ?_
  refine cl A (rin_pure _ _ _) ?_
  refine W 2 ?_
  refine sq_split 11 J (fun g1_5 => ?_) (fun g1_5 => ?_)
  · skip
    have g1_5' := g1_5
    try simp only [qq] at g1_5'
    refine W 10 ?_
    exact retQ_pure (v := .raw _) rfl rfl (Less.eq (by unfold fgOK; simp_all))
  · skip
    have g1_5' := g1_5
    try simp only [qq] at g1_5'
    have h1 : inn f.length 1 6 = true := by simpa using g1_5
    have hlen : 1 ≤ f.length ∧ f.length ≤ 6 := by simp only [inn, Bool.and_eq_true, decide_eq_true_eq] at h1; omega
    have hw0 := w0_eq (f := f) (by omega)
    refine W 2 ?_
    refine sq_yes rfl rfl (less_b g1_5) rfl (ev_index_map (k := 0) sl24.h J J rfl (by omega)) ?_
    refine W 2 ?_
    refine cy A (rin_pure _ _ _) ?_
    refine W 2 ?_
    refine aw_cond J (fun c_19 => ?_) (fun c_19 => ?_)
    · skip
      have c_19' := c_19
      try simp only [qq] at c_19'
      refine W 1 ?_
      exact retQ_pure (v := .raw _) rfl rfl (Less.eq (by unfold fgOK; rw [hw0]; simp_all))
    · skip
      have c_19' := c_19
      try simp only [qq] at c_19'
      have h2 : inn (w0 f) 1 6 = true := by rw [hw0]; simpa using c_19
      refine W 2 ?_
      refine aw_loopk (ι := { k : Nat // k ≤ f.length ∧ ∀ i, (h : i < f.length) → i < k → fgRow (w0 f) f[i] = true }) [1] (fun i => [(3, B ((f.take i.1).any hasH)), (4, I i.1)]) (fun H i => H) (fun i => f.length - i.1) (⟨0, Nat.zero_le _, by omega⟩) ⟨J, J, J, trivial⟩ rfl ?_
      rintro ⟨k, hk, hok⟩
      dsimp only [keepS, St.put, sget, slotsOf, nn1, nn2, nn3, nn4, nn5, nn6, Nat.reduceBEq, Nat.reduceAdd, nn7, nn8]
      refine W 5 ?_
      refine iff (fun c_24 c_24' => ?_) (fun c_24 c_24' => ?_)
      · skip
        refine W 0 ?_
        refine aw_draw 12 mo (by kernel_rfl) ?_
        refine WD 8 ?_
        refine dr_ev rfl (ev_index_map (k := 0) sl24.h J J rfl (by omega)) ?_
        refine WD 3 ?_
        refine W 0 ?_
        refine ifn (fun c_38 c_38' => ?_) (fun c_38 c_38' => ?_)
        · skip
          refine W 1 ?_
          exact retQ_pure (v := .raw _) rfl rfl (Less.eq (by rw [fg_row_bad (k := k) (by omega) (fgRow_len (by rw [hw0]; omega))]))
        · skip
          have hlk : f[k].length ≤ 6 := by simp only [inn, Bool.and_eq_true, decide_eq_true_eq] at h2; omega
          refine W 1 ?_
          refine aw_loopk (ι := { j : Nat // j ≤ f[k].length ∧ ∀ i, (h : i < f[k].length) → i < j → chOK f[k][i] = true }) [1, 4] (fun q => [(3, B ((f.take k).any hasH || (f[k].take q.1).any fun c => decide (c = 35))), (5, I q.1)]) (fun H q => H) (fun q => f[k].length - q.1) (⟨0, Nat.zero_le _, by omega⟩) ⟨(Less.eq (by show B ((f.take k).any hasH) = _; simp)), J, J, J, trivial⟩ rfl ?_
          rintro ⟨j, hj, hoj⟩
          dsimp only [keepS, St.put, sget, slotsOf, nn1, nn2, nn3, nn4, nn5, nn6, Nat.reduceBEq, Nat.reduceAdd, nn7, nn8]
          refine W 8 ?_
          refine iff (fun c_46 c_46' => ?_) (fun c_46 c_46' => ?_)
          · skip
            have hk' : j < f[k].length := by omega
            have eC := any_take (q := fun c => decide (c = 35)) (l := f[k]) (k := j) hk'
            refine W 9 ?_
            refine sq_split 57 J (fun g12_8 => ?_) (fun g12_8 => ?_)
            · skip
              have g12_8' := g12_8
              try simp only [qq] at g12_8'
              refine W 9 ?_
              refine aw_cond J (fun c_66 => ?_) (fun c_66 => ?_)
              · skip
                have c_66' := c_66
                try simp only [qq] at c_66'
                refine W 1 ?_
                exact retQ_pure (v := .raw _) rfl rfl (Less.eq (by rw [fg_row_bad (k := k) (by omega) (fgRow_ch (j := j) hk' (ch_no g12_8' c_66'))]))
              · skip
                have c_66' := c_66
                try simp only [qq] at c_66'
                have hch : chOK f[k][j] = true := ch_ok (.inr (by simpa using c_66))
                refine W 2 ?_
                refine sq_split 68 J (fun g14_1 => ?_) (fun g14_1 => ?_)
                · skip
                  have g14_1' := g14_1
                  try simp only [qq] at g14_1'
                  have eF : B true = B ((f.take k).any hasH || (f[k].take (j + 1)).any fun c => decide (c = 35)) := by rw [eC, ← Bool.or_assoc, g14_1]; rfl
                  refine W 13 ?_
                  exact ⟨⟨j + 1, by omega, fun i h hi => (by by_cases e : i = j; (subst e; exact hch); exact hoj i h (by omega))⟩, by simp only; omega, Sub.slots ⟨(Less.eq eF), J, J, J, trivial⟩⟩
                · skip
                  have g14_1' := g14_1
                  try simp only [qq] at g14_1'
                  have eF : B (decide (((f[k][j]).toNat : Int) = 35)) = B ((f.take k).any hasH || (f[k].take (j + 1)).any fun c => decide (c = 35)) := by rw [eC, ← Bool.or_assoc, g14_1, dec35]; rfl
                  refine W 13 ?_
                  exact ⟨⟨j + 1, by omega, fun i h hi => (by by_cases e : i = j; (subst e; exact hch); exact hoj i h (by omega))⟩, by simp only; omega, Sub.slots ⟨(Less.eq eF), J, J, J, trivial⟩⟩
            · skip
              have g12_8' := g12_8
              try simp only [qq] at g12_8'
              have hch : chOK f[k][j] = true := ch_ok (.inl (by simpa using g12_8))
              refine W 12 ?_
              refine sq_split 68 J (fun g14_1 => ?_) (fun g14_1 => ?_)
              · skip
                have g14_1' := g14_1
                try simp only [qq] at g14_1'
                have eF : B true = B ((f.take k).any hasH || (f[k].take (j + 1)).any fun c => decide (c = 35)) := by rw [eC, ← Bool.or_assoc, g14_1]; rfl
                refine W 13 ?_
                exact ⟨⟨j + 1, by omega, fun i h hi => (by by_cases e : i = j; (subst e; exact hch); exact hoj i h (by omega))⟩, by simp only; omega, Sub.slots ⟨(Less.eq eF), J, J, J, trivial⟩⟩
              · skip
                have g14_1' := g14_1
                try simp only [qq] at g14_1'
                have eF : B (decide (((f[k][j]).toNat : Int) = 35)) = B ((f.take k).any hasH || (f[k].take (j + 1)).any fun c => decide (c = 35)) := by rw [eC, ← Bool.or_assoc, g14_1, dec35]; rfl
                refine W 13 ?_
                exact ⟨⟨j + 1, by omega, fun i h hi => (by by_cases e : i = j; (subst e; exact hch); exact hoj i h (by omega))⟩, by simp only; omega, Sub.slots ⟨(Less.eq eF), J, J, J, trivial⟩⟩
          · skip
            refine V 3 ?_
            refine sq_nil ?_
            have hgood : fgRow (w0 f) f[k] = true := fgRow_ok (by omega) (fun i h => hoj i h (by omega))
            have eA := any_take (q := hasH) (l := f) (k := k) (by omega)
            have eB : hasH f[k] = (f[k].take j).any (fun c => decide (c = 35)) := by unfold hasH; rw [List.take_of_length_le (by omega)]
            exact ⟨⟨k + 1, by omega, fun i h hi => (by by_cases e : i = k; (subst e; exact hgood); exact hok i h (by omega))⟩, by simp only; omega, Sub.slots ⟨(Less.eq (show B ((f.take k).any hasH || (f[k].take j).any fun c => decide (c = 35)) = _ by rw [eA, eB])), J, J, trivial⟩⟩
      · skip
        refine W 2 ?_
        exact retQ_pure (v := .raw _) rfl rfl (Less.eq (by rw [fg_end h1 h2 (fun i h => hok i h (by omega)), show k = f.length by omega, List.take_length]))
end Go.Proofs.YtmbknoaneglilaaGreatDoor
namespace Go.Proofs.YtmbknoaneglilaaGreatDoor
open Go Go.Ab Ni Ol
abbrev rds (l : List Th) : AV := .sl 4 (l.map fun t => rdC t.rd)
theorem inE_rds (n : Nat) (l : List Th) : AV.inE n (l.map fun t => rdC t.rd) = true := inE_map fun x _ => by simp [AV.inL, AV.inB]
theorem pureE_rds (l : List Th) : AV.pureE (l.map fun t => rdC t.rd) = true := pureE_map fun x _ => by simp [AV.pureL, AV.pureB]
theorem reads_pure (x : Sn) (sight : List (List UInt8)) (hl : x.l.length ≤ 1000000) (hs : shp sight) : APure Tryz.prog 78 [stA x.s, figs x.l, rcA x.r, strs sight] (.tup [rds (if askOK x sight = true then agrees x sight else []), I (er (askOK x sight))]) := by
  refine apure_of_marks (rs := [.tmp 8, .tmp 9]) Tryz.func78 rfl rfl (Nat.le_of_ble_eq_true rfl) (by simp [AV.pureL, AV.pureB, AV.pureE, pureE_map]) (by simp [AV.pureL, AV.pureB, AV.pureE, pureE_rds]) fun e0 he0 => ?_
  refine W 12 ?_
  refine cl A (isscene_pure x hl) ?_
  refine W 2 ?_
  refine sq_split 20 J (fun g2_3 => ?_) (fun g2_3 => ?_)
  · skip
    have g2_3' := g2_3
    try simp only [qq] at g2_3'
    refine W 8 ?_
    exact retQM_pure (v := .tup [.raw _, .raw _]) rfl rfl (less_tup ⟨Less.trans (less_nil 4) (Less.eq (by rw [ask_f1 g2_3']; rfl)), Less.eq (by rw [ask_f1 g2_3']; rfl), trivial⟩)
  · skip
    have g2_3' := g2_3
    try simp only [qq] at g2_3'
    refine W 2 ?_
    refine cy A (issight_pure x.s sight hs) ?_
    refine W 2 ?_
    refine aw_cond J (fun c_25 => ?_) (fun c_25 => ?_)
    · skip
      have c_25' := c_25
      try simp only [qq] at c_25'
      refine W 2 ?_
      exact retQM_pure (v := .tup [.raw _, .raw _]) rfl rfl (less_tup ⟨Less.trans (less_nil 4) (Less.eq (by rw [ask_f2 (by simpa using c_25)]; rfl)), Less.eq (by rw [ask_f2 (by simpa using c_25)]; rfl), trivial⟩)
    · skip
      have c_25' := c_25
      try simp only [qq] at c_25'
      have hxo : snOK x = true := by cases h : snOK x <;> simp_all
      have hso : siOK x.s sight = true := by cases h : siOK x.s sight <;> simp_all
      have hst := (sn_facts hxo).2.1
      have hsi := sight_clo hst hso
      refine W 2 ?_
      refine cl A (readings_pure x) ?_
      refine sq_nil (aw_block ?_)
      refine aw_sub (sub_token_box 4 4 rfl) ?_
      refine aw_rangeFuncB [7, 11] (xs := (rdgs x).map thA) (cl := clOf) (fun k => [.cells (stC x.s), .cells (rcC x.r), .cells [strs sight], .cells (snC x), .cells [.own 5 4 ((((rdgs x).take k).filter fun t => agree t.sh sight).map (fun t => rdC t.rd))], .tok ((((rdgs x).take k).filter fun t => agree t.sh sight).map (fun t => rdC t.rd)).length]) ((rdgs x).map thA).length none (Nat.le_refl _) (fun _ => rfl) (fun h => absurd rfl h) rfl rfl J en169.h (readings_iter hxo) rfl (fun _ => rfl) (fun k hk => by show objsIn 6 _ = true; simp [objsIn, AObj.inB, AV.inB, AV.inL, inE_rds, inE_figs, inE_strs]) (fun x hx => th_pure hx) rfl rfl (by decide) rfl rfl z152.h rfl ty152.h (fun x hx => th_cl _ hx) (by decide) (by show slotsIn 6 [(7, AV.ptr 2 0), (11, AV.ptr 4 0)] = true; rfl) ?_ ?_
      · intro l i x e0 hi hx he0
        obtain ⟨hk, rfl⟩ := ths_get hx
        have hfit := clo_fit hst (rdgs_clo hxo (List.getElem_mem hk)) hsi
        have hal := rdgs_mx hxo
        have hfl : (((rdgs x).take i).filter fun t => agree t.sh sight).length ≤ i := Nat.le_trans (List.length_filter_le _ _) (by rw [List.length_take]; omega)
        dsimp only [keepS, St.put, sget, slotsOf, nn1, nn2, nn3, nn4, nn5, nn6, Nat.reduceBEq, Nat.reduceAdd, nn7, nn8]
        refine W 3 ?_
        refine cl A (agree_pure hfit) ?_
        refine W 0 ?_
        refine aw_cond J (fun c_32 => ?_) (fun c_32 => ?_)
        · skip
          have c_32' := c_32
          try simp only [qq] at c_32'
          have eS : (((rdgs x).take (i + 1)).filter fun t => agree t.sh sight).map (fun t => rdC t.rd) = (((rdgs x).take i).filter fun t => agree t.sh sight).map (fun t => rdC t.rd) ++ [rdC (rdgs x)[i].rd] := by rw [fl_yes hk (by exact c_32), List.map_append]; rfl
          refine W 3 ?_
          refine sq_ev rfl (ev_buildSlice (es := [[_, _, _, _]]) sf53.h rfl rfl rfl rfl) ?_
          first | refine sq_append rfl sf53.h Tryz.underlying53 rfl rfl J (Nat.succ_pos _) (by simp; omega) (by simp; omega) ?_ | refine sq_append rfl sf53.h Tryz.underlying53 rfl rfl (less_slx _ _) (Nat.succ_pos _) (by simp; omega) (by simp; omega) ?_
          refine W 1 ?_
          exact ⟨⟨[], congrArg (fun L => [AObj.cells (stC x.s), .cells (rcC x.r), .cells [strs sight], .cells (snC x), .cells [.own 5 4 L], .tok L.length]) eS.symm⟩, rfl, by split <;> rfl⟩
        · skip
          have c_32' := c_32
          try simp only [qq] at c_32'
          have eS : (((rdgs x).take (i + 1)).filter fun t => agree t.sh sight).map (fun t => rdC t.rd) = (((rdgs x).take i).filter fun t => agree t.sh sight).map (fun t => rdC t.rd) := by rw [fl_no hk (by exact c_32)]
          refine W 0 ?_
          exact ⟨⟨[], congrArg (fun L => [AObj.cells (stC x.s), .cells (rcC x.r), .cells [strs sight], .cells (snC x), .cells [.own 5 4 L], .tok L.length]) eS.symm⟩, rfl, by split <;> rfl⟩
      · rintro _ rfl
        have hfull : ((rdgs x).map thA).length = (rdgs x).length := by simp
        rw [hfull, List.take_length]
        refine W 3 ?_
        exact retQM_pure (v := .tup [.own _ _ _, .raw _]) rfl rfl (less_tup ⟨Less.trans (less_own _ _ _) (Less.eq (by rw [if_pos (ask_t hxo hso)] <;> rfl)), Less.eq (by rw [ask_t hxo hso] <;> rfl), trivial⟩)
end Go.Proofs.YtmbknoaneglilaaGreatDoor
namespace Go.Proofs.YtmbknoaneglilaaGreatDoor
open Go Go.Ab Ni Ol
instance en111 : EnT Tryz.prog 111 := ⟨Ent.of Tryz.func111 (by kernel_rfl) rfl⟩
instance en112 : EnT Tryz.prog 112 := ⟨Ent.of Tryz.func112 (by kernel_rfl) rfl⟩
instance en154 : EnT Tryz.prog 154 := ⟨Ent.of Tryz.func154 (by kernel_rfl) rfl⟩
instance en23 : EnT Tryz.prog 23 := ⟨Ent.of Tryz.func23 (by kernel_rfl) rfl⟩
instance en24 : EnT Tryz.prog 24 := ⟨Ent.of Tryz.func24 (by kernel_rfl) rfl⟩
instance en25 : EnT Tryz.prog 25 := ⟨Ent.of Tryz.func25 (by kernel_rfl) rfl⟩
instance en34 : EnT Tryz.prog 34 := ⟨Ent.of Tryz.func34 (by kernel_rfl) rfl⟩
instance en36 : EnT Tryz.prog 36 := ⟨Ent.of Tryz.func36 (by kernel_rfl) rfl⟩
instance en37 : EnT Tryz.prog 37 := ⟨Ent.of Tryz.func37 (by kernel_rfl) rfl⟩
instance en50 : EnT Tryz.prog 50 := ⟨Ent.of Tryz.func50 (by kernel_rfl) rfl⟩
instance en72 : EnT Tryz.prog 72 := ⟨Ent.of Tryz.func72 (by kernel_rfl) rfl⟩
instance en85 : EnT Tryz.prog 85 := ⟨Ent.of Tryz.func85 (by kernel_rfl) rfl⟩
theorem allT_no {α : Type} {q : α → Bool} {l : List α} {n i : Nat} (hi : i < l.length) (hn : i < n) (h : q l[i] = false) : (l.take n).all q = false := by
  rw [List.all_eq_false]
  have hm : i < (l.take n).length := by rw [List.length_take]; omega
  exact ⟨(l.take n)[i], List.getElem_mem hm, by rw [List.getElem_take, h]; simp⟩
theorem allT_yes {α : Type} {q : α → Bool} {l : List α} {n : Nat} (h : ∀ i, (hi : i < l.length) → i < n → q l[i] = true) : (l.take n).all q = true := by
  rw [List.all_eq_true]
  intro x hx
  obtain ⟨i, hi, rfl⟩ := List.getElem_of_mem hx
  rw [List.length_take] at hi
  rw [List.getElem_take]; exact h i (by omega) (by omega)
def shortB (l : List (List UInt8)) : Bool := (l.take 20).all (fun r => decide (r.length ≤ 20)) && decide (l.length ≤ 18)
def fewB (l : List Fg) : Bool := (l.take 9).all shortB && decide (l.length ≤ 8)
theorem shortB_sz {l : List (List UInt8)} (h : shortB l = true) : l.length ≤ 18 ∧ ∀ r ∈ l, r.length ≤ 20 := by
  unfold shortB at h
  simp only [Bool.and_eq_true, decide_eq_true_eq] at h
  rw [List.take_of_length_le (by omega)] at h
  exact ⟨h.2, fun r hr => by have := List.all_eq_true.1 h.1 r hr; simpa using this⟩
theorem fewB_sz {l : List Fg} (h : fewB l = true) : l.length ≤ 8 ∧ ∀ f ∈ l, f.length ≤ 18 ∧ ∀ r ∈ f, r.length ≤ 20 := by
  unfold fewB at h
  simp only [Bool.and_eq_true, decide_eq_true_eq] at h
  rw [List.take_of_length_le (by omega)] at h
  exact ⟨h.2, fun f hf => shortB_sz (List.all_eq_true.1 h.1 f hf)⟩
theorem shortB_shp {l : List (List UInt8)} (h : shortB l = true) : shp l := by
  obtain ⟨h1, h2⟩ := shortB_sz h; exact ⟨by omega, fun r hr => by have := h2 r hr; omega⟩
def spn (lo hi : Int) : Bool := decide (lo ≤ hi) && decide (hi - lo < 6)
theorem rcOK_eq (s : Sg) (r : Rc) : rcOK s r = (inn r.nl 0 (s.far - 1) && (inn r.nh 0 (s.far - 1) && (spn r.nl r.nh && ((awayOK r.xl && awayOK r.y) && ((awayOK r.xh && awayOK r.y) && spn r.xl r.xh))))) := by
  unfold rcOK pcOK spOK spn inn awayOK
  rw [Bool.eq_iff_iff]
  simp only [Bool.and_eq_true, decide_eq_true_eq, inn]
  omega
theorem coOK_ref (l : List Fg) : coOK l = (decide (0 < l.length) && ((l.take 6).all fgOK && decide (l.length ≤ 6))) := by
  rw [coOK_eq, Bool.eq_iff_iff]
  simp only [Bool.and_eq_true, inn, decide_eq_true_eq, Bool.not_eq_true', List.any_eq_false, Bool.not_eq_true, Bool.not_eq_false', List.all_eq_true]
  constructor
  · rintro ⟨h1, h2⟩
    exact ⟨by omega, fun f hf => by have := h2 f (List.mem_of_mem_take hf); simpa using this, by omega⟩
  · rintro ⟨h1, h2, h3⟩
    rw [List.take_of_length_le h3] at h2
    exact ⟨by omega, fun f hf => by have := h2 f hf; simp [this]⟩
def askE (x : Sn) (is : Bool) : Int := if (snOK x && is) = true then 0 else 2
theorem snOK_eq (x : Sn) : snOK x = (stOK x.s && (coOK x.l && rcOK x.s x.r)) := by unfold snOK; rw [Bool.and_assoc]
theorem short_pure (l : List (List UInt8)) : APure Tryz.prog 23 [strs l] (B (shortB l)) := by
  refine apure_of (rs := [.tmp 2]) Tryz.func23 rfl rfl (Nat.le_of_ble_eq_true rfl) (by simp [AV.pureL, AV.pureB, AV.pureE, pureE_map]) (by first | rfl | (simp [AV.pureL, AV.pureB, AV.pureE, pureE_map])) fun e0 he0 => ?_
  refine W 2 ?_
  refine aw_loopk (ι := { k : Nat // k ≤ l.length ∧ k ≤ 20 ∧ ∀ i, (h : i < l.length) → i < k → decide (l[i].length ≤ 20) = true }) [0] (fun g => [(3, I g.1)]) (fun H g => H) (fun g => 20 - g.1) (⟨0, Nat.zero_le _, by omega, by omega⟩) ⟨J, J, trivial⟩ rfl ?_
  rintro ⟨k, hk, hok⟩
  dsimp only [keepS, St.put, sget, slotsOf, nn1, nn2, nn3, nn4, nn5, nn6, Nat.reduceBEq, Nat.reduceAdd, nn7, nn8]
  refine W 5 ?_
  refine sq_split 8 J (fun g2_4 => ?_) (fun g2_4 => ?_)
  · skip
    have g2_4' := g2_4
    try simp only [qq] at g2_4'
    have hkL : k < l.length := by omega
    refine W 3 ?_
    refine aw_cond J (fun c_11 => ?_) (fun c_11 => ?_)
    · skip
      have c_11' := c_11
      try simp only [qq] at c_11'
      refine W 6 ?_
      refine iff (fun c_19 c_19' => ?_) (fun c_19 c_19' => ?_)
      · skip
        refine W 1 ?_
        exact retQ_pure (v := .raw _) rfl rfl (Less.eq (by rw [shortB, allT_no (i := k) (n := 20) hkL (by omega) (by simp only [decide_eq_false_iff_not]; omega)]; rfl))
      · skip
        refine V 3 ?_
        refine sq_nil ?_
        have hgood : decide (l[k].length ≤ 20) = true := by simp only [decide_eq_true_eq]; omega
        exact ⟨⟨k + 1, by omega, by omega, fun i h hi => (by by_cases e : i = k; (subst e; exact hgood); exact hok.2 i h (by omega))⟩, by simp only; omega, Sub.slots ⟨J, J, trivial⟩⟩
    · skip
      have c_11' := c_11
      try simp only [qq] at c_11'
      refine W 4 ?_
      exact retQ_pure (v := .raw _) rfl rfl (Less.eq (by rw [shortB, allT_yes (n := 20) (fun i h hi => hok.2 i h (by omega))]; simp; omega))
  · skip
    have g2_4' := g2_4
    try simp only [qq] at g2_4'
    refine W 8 ?_
    exact retQ_pure (v := .raw _) rfl rfl (Less.eq (by rw [shortB, allT_yes (n := 20) (fun i h hi => hok.2 i h (by omega))]; simp; omega))
theorem few_pure (l : List Fg) : APure Tryz.prog 34 [figs l] (B (fewB l)) := by
 refine apure_of (rs := [.tmp 2]) Tryz.func34 rfl rfl (Nat.le_of_ble_eq_true rfl) (by simp [AV.pureL, AV.pureB, AV.pureE, pureE_map]) (by first | rfl | (simp [AV.pureL, AV.pureB, AV.pureE, pureE_map])) fun e0 he0 => ?_
 refine W 2 ?_
 refine aw_loopk (ι := { k : Nat // k ≤ l.length ∧ k ≤ 9 ∧ ∀ i, (h : i < l.length) → i < k → shortB l[i] = true }) [0] (fun g => [(3, I g.1)]) (fun H g => H) (fun g => 9 - g.1) (⟨0, Nat.zero_le _, by omega, by omega⟩) ⟨J, J, trivial⟩ rfl ?_
 rintro ⟨k, hk, hok⟩
 dsimp only [keepS, St.put, sget, slotsOf, nn1, nn2, nn3, nn4, nn5, nn6, Nat.reduceBEq, Nat.reduceAdd, nn7, nn8]
 refine W 5 ?_
 refine sq_split 8 J (fun g2_4 => ?_) (fun g2_4 => ?_)
 ·
  have g2_4' := g2_4
  try simp only [qq] at g2_4'
  have hkL : k < l.length := by omega
  refine W 3 ?_
  refine aw_cond J (fun c_11 => ?_) (fun c_11 => ?_)
  ·
   have c_11' := c_11
   try simp only [qq] at c_11'
   refine W 5 ?_
   refine cl A (short_pure _) ?_
   refine W 1 ?_
   refine aw_cond J (fun c_20 => ?_) (fun c_20 => ?_)
   ·
    have c_20' := c_20
    try simp only [qq] at c_20'
    refine W 1 ?_
    exact retQ_pure (v := .raw _) rfl rfl (Less.eq (by rw [fewB, allT_no (i := k) (n := 9) hkL (by omega) (by simpa using c_20)]; rfl))
   have c_20' := c_20
   try simp only [qq] at c_20'
   refine V 3 ?_
   refine sq_nil ?_
   have hgood : shortB l[k] = true := by simpa using c_20
   exact ⟨⟨k + 1, by omega, by omega, fun i h hi => (by by_cases e : i = k; (subst e; exact hgood); exact hok.2 i h (by omega))⟩, by simp only; omega, Sub.slots ⟨J, J, trivial⟩⟩
  have c_11' := c_11
  try simp only [qq] at c_11'
  refine W 4 ?_
  exact retQ_pure (v := .raw _) rfl rfl (Less.eq (by rw [fewB, allT_yes (n := 9) (fun i h hi => hok.2 i h (by omega))]; simp; omega))
 have g2_4' := g2_4
 try simp only [qq] at g2_4'
 refine W 8 ?_
 exact retQ_pure (v := .raw _) rfl rfl (Less.eq (by rw [fewB, allT_yes (n := 9) (fun i h hi => hok.2 i h (by omega))]; simp; omega))
theorem rfigures_pure (l : List Fg) : APure Tryz.prog 85 [figs l] (B ((l.take 6).all fgOK && decide (l.length ≤ 6))) := by
 refine apure_of (rs := [.tmp 2]) Tryz.func85 rfl rfl (Nat.le_of_ble_eq_true rfl) (by simp [AV.pureL, AV.pureB, AV.pureE, pureE_map]) (by first | rfl | (simp [AV.pureL, AV.pureB, AV.pureE, pureE_map])) fun e0 he0 => ?_
 refine W 2 ?_
 refine aw_loopk (ι := { k : Nat // k ≤ l.length ∧ k ≤ 6 ∧ ∀ i, (h : i < l.length) → i < k → fgOK l[i] = true }) [0] (fun g => [(3, I g.1)]) (fun H g => H) (fun g => 6 - g.1) (⟨0, Nat.zero_le _, by omega, by omega⟩) ⟨J, J, trivial⟩ rfl ?_
 rintro ⟨k, hk, hok⟩
 dsimp only [keepS, St.put, sget, slotsOf, nn1, nn2, nn3, nn4, nn5, nn6, Nat.reduceBEq, Nat.reduceAdd, nn7, nn8]
 refine W 5 ?_
 refine sq_split 8 J (fun g2_4 => ?_) (fun g2_4 => ?_)
 ·
  have g2_4' := g2_4
  try simp only [qq] at g2_4'
  have hkL : k < l.length := by omega
  refine W 3 ?_
  refine aw_cond J (fun c_11 => ?_) (fun c_11 => ?_)
  ·
   have c_11' := c_11
   try simp only [qq] at c_11'
   refine W 4 ?_
   refine cl A (rfigure_pure _) ?_
   refine W 1 ?_
   refine aw_cond J (fun c_19 => ?_) (fun c_19 => ?_)
   ·
    have c_19' := c_19
    try simp only [qq] at c_19'
    refine W 1 ?_
    exact retQ_pure (v := .raw _) rfl rfl (Less.eq (by rw [allT_no (i := k) (n := 6) hkL (by omega) (by simpa using c_19)]; rfl))
   have c_19' := c_19
   try simp only [qq] at c_19'
   refine V 3 ?_
   refine sq_nil ?_
   have hgood : fgOK l[k] = true := by simpa using c_19
   exact ⟨⟨k + 1, by omega, by omega, fun i h hi => (by by_cases e : i = k; (subst e; exact hgood); exact hok.2 i h (by omega))⟩, by simp only; omega, Sub.slots ⟨J, J, trivial⟩⟩
  have c_11' := c_11
  try simp only [qq] at c_11'
  refine W 4 ?_
  exact retQ_pure (v := .raw _) rfl rfl (Less.eq (by rw [allT_yes (n := 6) (fun i h hi => hok.2 i h (by omega))]; simp; omega))
 have g2_4' := g2_4
 try simp only [qq] at g2_4'
 refine W 8 ?_
 exact retQ_pure (v := .raw _) rfl rfl (Less.eq (by rw [allT_yes (n := 6) (fun i h hi => hok.2 i h (by omega))]; simp; omega))
theorem rcompany_pure (l : List Fg) : APure Tryz.prog 111 [figs l] (B (coOK l)) := by
 refine apure_of (rs := [.tmp 2]) Tryz.func111 rfl rfl (Nat.le_of_ble_eq_true rfl) (by simp [AV.pureL, AV.pureB, AV.pureE, pureE_map]) (by first | rfl | (simp [AV.pureL, AV.pureB, AV.pureE, pureE_map])) fun e0 he0 => ?_
 refine W 5 ?_
 refine sq_split 6 J (fun g1_3 => ?_) (fun g1_3 => ?_)
 ·
  have g1_3' := g1_3
  try simp only [qq] at g1_3'
  refine W 1 ?_
  refine cy A (rfigures_pure l) ?_
  refine W 2 ?_
  exact retQ_pure (v := .raw _) rfl rfl (Less.eq (by rw [coOK_ref]; simp [*] <;> (intros; omega)))
 have g1_3' := g1_3
 try simp only [qq] at g1_3'
 refine W 4 ?_
 exact retQ_pure (v := .raw _) rfl rfl (Less.eq (by rw [coOK_ref]; simp [*] <;> (intros; omega)))
theorem rspan_pure (a b : Int) (h1 : -1000 ≤ a ∧ a ≤ 1000) (h2 : -1000 ≤ b ∧ b ≤ 1000) : APure Tryz.prog 154 [.agg [I a, I b]] (B (spn a b)) := by
 refine apure_of (rs := [.tmp 2]) Tryz.func154 rfl rfl (Nat.le_of_ble_eq_true rfl) (by simp [AV.pureL, AV.pureB, AV.pureE, pureE_map]) (by first | rfl | (simp [AV.pureL, AV.pureB, AV.pureE, pureE_map])) fun e0 he0 => ?_
 refine W 8 ?_
 refine sq_split 8 J (fun g1_5 => ?_) (fun g1_5 => ?_)
 ·
  have g1_5' := g1_5
  try simp only [qq] at g1_5'
  refine W 8 ?_
  exact retQ_pure (v := .raw _) rfl rfl (Less.eq (by unfold spn; simp [*]))
 have g1_5' := g1_5
 try simp only [qq] at g1_5'
 refine W 8 ?_
 exact retQ_pure (v := .raw _) rfl rfl (Less.eq (by unfold spn; simp [*]))
theorem rreach_pure (s : Sg) (r : Rc) (h : 2 ≤ s.far ∧ s.far ≤ 40) : APure Tryz.prog 112 [stA s, rcA r] (B (rcOK s r)) := by
 refine apure_of (rs := [.tmp 4]) Tryz.func112 rfl rfl (Nat.le_of_ble_eq_true rfl) (by simp [AV.pureL, AV.pureB, AV.pureE, pureE_map]) (by first | rfl | (simp [AV.pureL, AV.pureB, AV.pureE, pureE_map])) fun e0 he0 => ?_
 refine W 9 ?_
 refine cl A (rin_pure _ _ _) ?_
 refine W 1 ?_
 refine sq_split 12 J (fun g1_7 => ?_) (fun g1_7 => ?_)
 ·
  have g1_7' := g1_7
  try simp only [qq] at g1_7'
  refine W 6 ?_
  refine cy A (rin_pure _ _ _) ?_
  refine W 2 ?_
  refine sq_split 21 J (fun g1_16 => ?_) (fun g1_16 => ?_)
  ·
   have g1_16' := g1_16
   try simp only [qq] at g1_16'
   refine W 2 ?_
   refine cy A (rspan_pure r.nl r.nh (by have := g1_7; unfold inn at this; simp only [Bool.and_eq_true, decide_eq_true_eq] at this; omega) (by have := g1_16; unfold inn at this; simp only [Bool.and_eq_true, decide_eq_true_eq] at this; omega)) ?_
   refine W 2 ?_
   refine sq_split 26 J (fun g1_21 => ?_) (fun g1_21 => ?_)
   ·
    have g1_21' := g1_21
    try simp only [qq] at g1_21'
    refine W 5 ?_
    refine cy A (rat_pure _ _) ?_
    refine W 2 ?_
    refine sq_split 34 J (fun g1_29 => ?_) (fun g1_29 => ?_)
    ·
     have g1_29' := g1_29
     try simp only [qq] at g1_29'
     refine W 5 ?_
     refine cy A (rat_pure _ _) ?_
     refine W 2 ?_
     refine sq_split 42 J (fun g1_37 => ?_) (fun g1_37 => ?_)
     ·
      have g1_37' := g1_37
      try simp only [qq] at g1_37'
      refine W 2 ?_
      refine cy A (rspan_pure r.xl r.xh (by have := g1_29; unfold awayOK inn at this; simp only [Bool.and_eq_true, decide_eq_true_eq] at this; omega) (by have := g1_37; unfold awayOK inn at this; simp only [Bool.and_eq_true, decide_eq_true_eq] at this; omega)) ?_
      refine W 2 ?_
      exact retQ_pure (v := .raw _) rfl rfl (Less.eq (by rw [rcOK_eq]; first | (simp [*]; done) | (cases hq : awayOK r.xh <;> cases hq2 : awayOK r.y <;> simp_all)))
     have g1_37' := g1_37
     try simp only [qq] at g1_37'
     refine W 5 ?_
     exact retQ_pure (v := .raw _) rfl rfl (Less.eq (by rw [rcOK_eq]; first | (simp [*]; done) | (cases hq : awayOK r.xh <;> cases hq2 : awayOK r.y <;> simp_all)))
    have g1_29' := g1_29
    try simp only [qq] at g1_29'
    refine W 13 ?_
    exact retQ_pure (v := .raw _) rfl rfl (Less.eq (by rw [rcOK_eq]; first | (simp [*]; done) | (cases hq : awayOK r.xh <;> cases hq2 : awayOK r.y <;> simp_all)))
   have g1_21' := g1_21
   try simp only [qq] at g1_21'
   refine W 21 ?_
   exact retQ_pure (v := .raw _) rfl rfl (Less.eq (by rw [rcOK_eq]; first | (simp [*]; done) | (cases hq : awayOK r.xh <;> cases hq2 : awayOK r.y <;> simp_all)))
  have g1_16' := g1_16
  try simp only [qq] at g1_16'
  refine W 26 ?_
  exact retQ_pure (v := .raw _) rfl rfl (Less.eq (by rw [rcOK_eq]; first | (simp [*]; done) | (cases hq : awayOK r.xh <;> cases hq2 : awayOK r.y <;> simp_all)))
 have g1_7' := g1_7
 try simp only [qq] at g1_7'
 refine W 35 ?_
 exact retQ_pure (v := .raw _) rfl rfl (Less.eq (by rw [rcOK_eq]; first | (simp [*]; done) | (cases hq : awayOK r.xh <;> cases hq2 : awayOK r.y <;> simp_all)))
theorem asked_pure (x : Sn) (is : Bool) : APure Tryz.prog 36 [stA x.s, figs x.l, rcA x.r, B is] (I (askE x is)) := by
 refine apure_of (rs := [.tmp 8]) Tryz.func36 rfl rfl (Nat.le_of_ble_eq_true rfl) (by simp [AV.pureL, AV.pureB, AV.pureE, pureE_map]) (by first | rfl | (simp [AV.pureL, AV.pureB, AV.pureE, pureE_map])) fun e0 he0 => ?_
 refine W 4 ?_
 refine cl A (rstage_pure x.s) ?_
 refine W 2 ?_
 refine sq_split 12 J (fun g1_3 => ?_) (fun g1_3 => ?_)
 ·
  have g1_3' := g1_3
  try simp only [qq] at g1_3'
  refine W 16 ?_
  exact retQ_pure (v := .raw _) rfl rfl (Less.eq (by unfold askE; rw [snOK_eq]; simp_all))
 have g1_3' := g1_3
 try simp only [qq] at g1_3'
 refine W 1 ?_
 refine cy A (rcompany_pure x.l) ?_
 refine W 3 ?_
 refine sq_split 17 J (fun g1_8 => ?_) (fun g1_8 => ?_)
 ·
  have g1_8' := g1_8
  try simp only [qq] at g1_8'
  refine W 11 ?_
  exact retQ_pure (v := .raw _) rfl rfl (Less.eq (by unfold askE; rw [snOK_eq]; simp_all))
 have g1_8' := g1_8
 try simp only [qq] at g1_8'
 refine W 2 ?_
 refine cy A (rreach_pure x.s x.r (stOK_iff.1 (by simpa using g1_3)).2.2.1) ?_
 refine W 3 ?_
 refine sq_split 23 J (fun g1_14 => ?_) (fun g1_14 => ?_)
 ·
  have g1_14' := g1_14
  try simp only [qq] at g1_14'
  refine W 5 ?_
  exact retQ_pure (v := .raw _) rfl rfl (Less.eq (by unfold askE; rw [snOK_eq]; simp_all))
 have g1_14' := g1_14
 try simp only [qq] at g1_14'
 refine W 3 ?_
 refine aw_cond J (fun c_26 => ?_) (fun c_26 => ?_)
 ·
  have c_26' := c_26
  try simp only [qq] at c_26'
  refine W 1 ?_
  exact retQ_pure (v := .raw _) rfl rfl (Less.eq (by unfold askE; rw [snOK_eq]; simp_all))
 have c_26' := c_26
 try simp only [qq] at c_26'
 refine W 1 ?_
 exact retQ_pure (v := .raw _) rfl rfl (Less.eq (by unfold askE; rw [snOK_eq]; simp_all))
theorem rsight_pure (s : Sg) (l : List (List UInt8)) (hs : shp l) : APure Tryz.prog 37 [stA s, strs l] (B (siOK s l)) := by
 refine apure_of (rs := [.tmp 4]) Tryz.func37 rfl rfl (Nat.le_of_ble_eq_true rfl) (by simp [AV.pureL, AV.pureB, AV.pureE, pureE_map]) (by first | rfl | (simp [AV.pureL, AV.pureB, AV.pureE, pureE_map])) fun e0 he0 => ?_
 refine W 7 ?_
 refine ifn (fun c_12 c_12' => ?_) (fun c_12 c_12' => ?_)
 ·
  refine W 1 ?_
  exact retQ_pure (v := .raw _) rfl rfl (Less.eq (by unfold siOK; rw [decide_eq_false c_12']; rfl))
 have hlen : (l.length : Int) = s.high := by omega
 refine W 1 ?_
 refine aw_loopk (ι := { m : Nat // m ≤ l.length ∧ ∀ i, (h : i < l.length) → i < m → siRow s.wide l[i] = true }) [1, 2] (fun g => [(5, I g.1)]) (fun H g => H) (fun g => l.length - g.1) (⟨0, Nat.zero_le _, by omega⟩) ⟨J, J, J, trivial⟩ rfl ?_
 rintro ⟨m, hm, hok⟩
 dsimp only [keepS, St.put, sget, slotsOf, nn1, nn2, nn3, nn4, nn5, nn6, Nat.reduceBEq, Nat.reduceAdd, nn7, nn8]
 have hs1 := hs.1
 refine W 4 ?_
 refine iff (fun c_16 c_16' => ?_) (fun c_16 c_16' => ?_)
 ·
  have hmL : m < l.length := by omega
  have hrl := hs.2 _ (List.getElem_mem hmL)
  refine W 0 ?_
  refine aw_draw 8 mo (by kernel_rfl) ?_
  refine WD 8 ?_
  refine W 0 ?_
  refine ifn (fun c_26 c_26' => ?_) (fun c_26 c_26' => ?_)
  ·
   refine W 1 ?_
   exact retQ_pure (v := .raw _) rfl rfl (Less.eq (by rw [siOK_bad hmL (by rw [siRow_eq, decide_eq_false (by simpa using c_26')]; rfl)]))
  refine W 1 ?_
  refine aw_loopk (ι := { k : Nat // k ≤ l[m].length ∧ ∀ i, (h : i < l[m].length) → i < k → sBad l[m][i] = false }) [1, 2, 5] (fun g => [(6, I g.1)]) (fun H g => H) (fun g => l[m].length - g.1) (⟨0, Nat.zero_le _, by omega⟩) ⟨J, J, J, J, trivial⟩ rfl ?_
  rintro ⟨k, hk, hok2⟩
  dsimp only [keepS, St.put, sget, slotsOf, nn1, nn2, nn3, nn4, nn5, nn6, Nat.reduceBEq, Nat.reduceAdd, nn7, nn8]
  refine W 7 ?_
  refine iff (fun c_33 c_33' => ?_) (fun c_33 c_33' => ?_)
  ·
   have hkL : k < l[m].length := by omega
   refine W 10 ?_
   refine sq_split 44 J (fun g12_2 => ?_) (fun g12_2 => ?_)
   ·
    have g12_2' := g12_2
    try simp only [qq] at g12_2'
    refine W 4 ?_
    refine sq_split 48 J (fun g12_6 => ?_) (fun g12_6 => ?_)
    ·
     have g12_6' := g12_6
     try simp only [qq] at g12_6'
     refine W 4 ?_
     refine sq_split 52 J (fun g12_10 => ?_) (fun g12_10 => ?_)
     ·
      have g12_10' := g12_10
      try simp only [qq] at g12_10'
      refine W 3 ?_
      refine aw_cond J (fun c_55 => ?_) (fun c_55 => ?_)
      ·
       have c_55' := c_55
       try simp only [qq] at c_55'
       refine W 1 ?_
       exact retQ_pure (v := .raw _) rfl rfl (Less.eq (by rw [siOK_bad hmL (by rw [siRow_eq, List.any_eq_true.2 ⟨_, List.getElem_mem hkL, by rw [sBad_eq]; simp only [dec35n, dec43n, dec46n, dec63n] at *; simp_all⟩]; simp)]))
      have c_55' := c_55
      try simp only [qq] at c_55'
      refine V 3 ?_
      refine sq_nil ?_
      have hgood2 : sBad l[m][k] = false := by rw [sBad_eq]; simp only [dec35n, dec43n, dec46n, dec63n] at *; simp_all
      exact ⟨⟨k + 1, by omega, fun i h hi => (by by_cases e : i = k; (subst e; exact hgood2); exact hok2 i h (by omega))⟩, by simp only; omega, Sub.slots ⟨J, J, J, J, trivial⟩⟩
     have g12_10' := g12_10
     try simp only [qq] at g12_10'
     refine V 7 ?_
     refine sq_nil ?_
     have hgood2 : sBad l[m][k] = false := by rw [sBad_eq]; simp only [dec35n, dec43n, dec46n, dec63n] at *; simp_all
     exact ⟨⟨k + 1, by omega, fun i h hi => (by by_cases e : i = k; (subst e; exact hgood2); exact hok2 i h (by omega))⟩, by simp only; omega, Sub.slots ⟨J, J, J, J, trivial⟩⟩
    have g12_6' := g12_6
    try simp only [qq] at g12_6'
    refine V 11 ?_
    refine sq_nil ?_
    have hgood2 : sBad l[m][k] = false := by rw [sBad_eq]; simp only [dec35n, dec43n, dec46n, dec63n] at *; simp_all
    exact ⟨⟨k + 1, by omega, fun i h hi => (by by_cases e : i = k; (subst e; exact hgood2); exact hok2 i h (by omega))⟩, by simp only; omega, Sub.slots ⟨J, J, J, J, trivial⟩⟩
   have g12_2' := g12_2
   try simp only [qq] at g12_2'
   refine V 15 ?_
   refine sq_nil ?_
   have hgood2 : sBad l[m][k] = false := by rw [sBad_eq]; simp only [dec35n, dec43n, dec46n, dec63n] at *; simp_all
   exact ⟨⟨k + 1, by omega, fun i h hi => (by by_cases e : i = k; (subst e; exact hgood2); exact hok2 i h (by omega))⟩, by simp only; omega, Sub.slots ⟨J, J, J, J, trivial⟩⟩
  refine V 3 ?_
  refine sq_nil ?_
  have hgood : siRow s.wide l[m] = true := by rw [siRow_eq, decide_eq_true (by simpa using c_26'), List.any_eq_false.2 (fun q hq => by obtain ⟨i, hi, rfl⟩ := List.getElem_of_mem hq; simp [hok2 i hi (by omega)])]; rfl
  exact ⟨⟨m + 1, by omega, fun i h hi => (by by_cases e : i = m; (subst e; exact hgood); exact hok i h (by omega))⟩, by simp only; omega, Sub.slots ⟨J, J, J, trivial⟩⟩
 refine W 1 ?_
 exact retQ_pure (v := .raw _) rfl rfl (Less.eq (by rw [siOK_end hlen (fun i hi => hok i hi (by omega))]))
end Go.Proofs.YtmbknoaneglilaaGreatDoor
namespace Go.Proofs.YtmbknoaneglilaaGreatDoor
open Go Go.Ab Ni Ol
instance en99 : EnT Tryz.prog 99 := ⟨Ent.of Tryz.func99 (by kernel_rfl) rfl⟩
def beyE (num den : Int) : Int := if num.tdiv den * den > num then num.tdiv den - 1 else num.tdiv den
theorem ropposed_pure (a b : UInt8) : APure Tryz.prog 72 [C a, C b] (B (opp a b)) := by
 refine apure_of (rs := [.tmp 4]) Tryz.func72 rfl rfl (Nat.le_of_ble_eq_true rfl) (by simp [AV.pureL, AV.pureB, AV.pureE, pureE_map]) (by first | rfl | (simp [AV.pureL, AV.pureB, AV.pureE, pureE_map])) fun e0 he0 => ?_
 refine W 4 ?_
 refine sq_split 7 J (fun g1_2 => ?_) (fun g1_2 => ?_)
 ·
  have g1_2' := g1_2
  try simp only [qq] at g1_2'
  refine W 4 ?_
  refine sq_split 11 J (fun g1_6 => ?_) (fun g1_6 => ?_)
  ·
   have g1_6' := g1_6
   try simp only [qq] at g1_6'
   refine W 8 ?_
   exact retQ_pure (v := .raw _) rfl rfl (Less.eq (by unfold opp; simp only [dec35, dec46] at *; simp [*]))
  have g1_6' := g1_6
  try simp only [qq] at g1_6'
  refine W 3 ?_
  refine sq_split 14 J (fun g1_9 => ?_) (fun g1_9 => ?_)
  ·
   have g1_9' := g1_9
   try simp only [qq] at g1_9'
   refine W 5 ?_
   exact retQ_pure (v := .raw _) rfl rfl (Less.eq (by unfold opp; simp only [dec35, dec46] at *; simp [*]))
  have g1_9' := g1_9
  try simp only [qq] at g1_9'
  refine W 5 ?_
  exact retQ_pure (v := .raw _) rfl rfl (Less.eq (by unfold opp; simp only [dec35, dec46] at *; simp [*]))
 have g1_2' := g1_2
 try simp only [qq] at g1_2'
 refine W 7 ?_
 refine sq_split 14 J (fun g1_9 => ?_) (fun g1_9 => ?_)
 ·
  have g1_9' := g1_9
  try simp only [qq] at g1_9'
  refine W 5 ?_
  exact retQ_pure (v := .raw _) rfl rfl (Less.eq (by unfold opp; simp only [dec35, dec46] at *; simp [*]))
 have g1_9' := g1_9
 try simp only [qq] at g1_9'
 refine W 5 ?_
 exact retQ_pure (v := .raw _) rfl rfl (Less.eq (by unfold opp; simp only [dec35, dec46] at *; simp [*]))
theorem ragree_pure {a b : List (List UInt8)} (hf : Fit a b) : APure Tryz.prog 50 [strs a, strs b] (B (agree a b)) := by
 refine apure_of (rs := [.tmp 4]) Tryz.func50 rfl rfl (Nat.le_of_ble_eq_true rfl) (by simp [AV.pureL, AV.pureB, AV.pureE, pureE_map]) (by first | rfl | (simp [AV.pureL, AV.pureB, AV.pureE, pureE_map])) fun e0 he0 => ?_
 refine W 2 ?_
 refine aw_loopk (ι := { m : Nat // m ≤ a.length ∧ ∀ i, i < m → agRow a b i }) [0, 1] (fun g => [(5, I g.1)]) (fun H g => H) (fun g => a.length - g.1) (⟨0, Nat.zero_le _, by omega⟩) ⟨J, J, J, trivial⟩ rfl ?_
 rintro ⟨m, hm, hok⟩
 dsimp only [keepS, St.put, sget, slotsOf, nn1, nn2, nn3, nn4, nn5, nn6, Nat.reduceBEq, Nat.reduceAdd, nn7, nn8]
 have h1 := hf.len
 have h2 := hf.many
 refine W 4 ?_
 refine iff (fun c_10 c_10' => ?_) (fun c_10 c_10' => ?_)
 ·
  have hma : m < a.length := by omega
  have h3 := hf.row m hma (by omega)
  have h4 := hf.wide m (by omega)
  refine W 1 ?_
  refine aw_loopk (ι := { k : Nat // k ≤ a[m].length ∧ ∀ i, i < k → (p3 : i < a[m].length) → (p4 : i < b[m].length) → opp a[m][i] b[m][i] = false }) [0, 1, 5] (fun g => [(6, I g.1)]) (fun H g => H) (fun g => a[m].length - g.1) (⟨0, Nat.zero_le _, by omega⟩) ⟨J, J, J, J, trivial⟩ rfl ?_
  rintro ⟨k, hk, hin⟩
  dsimp only [keepS, St.put, sget, slotsOf, nn1, nn2, nn3, nn4, nn5, nn6, Nat.reduceBEq, Nat.reduceAdd, nn7, nn8]
  refine W 7 ?_
  refine iff (fun c_19 c_19' => ?_) (fun c_19 c_19' => ?_)
  ·
   have hkL : k < a[m].length := by omega
   refine W 0 ?_
   refine aw_draw 13 mo (by kernel_rfl) ?_
   refine WD 12 ?_
   refine dcl A (ropposed_pure _ _) ?_
   refine dr_end ?_
   refine W 0 ?_
   refine aw_cond J (fun c_34 => ?_) (fun c_34 => ?_)
   ·
    have c_34' := c_34
    try simp only [qq] at c_34'
    refine W 1 ?_
    exact retQ_pure (v := .raw _) rfl rfl (Less.eq (by rw [agree_no (m := m) (k := k) hma (by omega) (by omega) (by omega) (by simpa using c_34)]))
   have c_34' := c_34
   try simp only [qq] at c_34'
   refine W 3 ?_
   exact ⟨⟨k + 1, by omega, fun i hi p3 p4 => (by by_cases e : i = k; (subst e; simpa using c_34); exact hin i (by omega) p3 p4)⟩, by simp only; omega, Sub.slots ⟨J, J, J, J, trivial⟩⟩
  refine V 3 ?_
  refine sq_nil ?_
  have hrow : agRow a b m := fun i p1 p2 p3 p4 => hin i (by omega) p3 p4
  exact ⟨⟨m + 1, by omega, fun i hi => (by by_cases e : i = m; (subst e; exact hrow); exact hok i (by omega))⟩, by simp only; omega, Sub.slots ⟨J, J, J, trivial⟩⟩
 refine W 1 ?_
 exact retQ_pure (v := .raw _) rfl rfl (Less.eq (by rw [agree_yes fun i => (by by_cases e : i < a.length; exact hok i (by omega); exact fun k p1 => absurd p1 e)]))
end Go.Proofs.YtmbknoaneglilaaGreatDoor
namespace Go.Proofs.YtmbknoaneglilaaGreatDoor
open Go Go.Ab Ni Ol
instance en27 : EnT Tryz.prog 27 := ⟨Ent.of Tryz.func27 (by kernel_rfl) rfl⟩
end Go.Proofs.YtmbknoaneglilaaGreatDoor
namespace Go.Proofs.YtmbknoaneglilaaGreatDoor
open Go Go.Ab Ni Ol
theorem askE_0 {x : Sn} {is : Bool} : askE x is = 0 ↔ snOK x = true ∧ is = true := by
  unfold askE
  by_cases h : (snOK x && is) = true
  · rw [if_pos h]; simp only [Bool.and_eq_true] at h; simp [h]
  · rw [if_neg h]; simp only [Bool.and_eq_true] at h
    exact ⟨(fun e => by cases e), fun e => absurd e h⟩
abbrev one (x : Sn) : Sn := ⟨x.s, x.l.take 1, x.r⟩
end Go.Proofs.YtmbknoaneglilaaGreatDoor
namespace Go.Proofs.YtmbknoaneglilaaGreatDoor
open Go Go.Ab Ni Ol
instance en80 : EnT Tryz.prog 80 := ⟨Ent.of Tryz.func80 (by kernel_rfl) rfl⟩
instance sl53 : SlE Tryz.prog 53 73 4 := ⟨by kernel_rfl⟩
theorem tdiv_bd {a b N : Int} (ha : -N ≤ a ∧ a ≤ N) (hb : 0 < b) : (-N ≤ a.tdiv b ∧ a.tdiv b ≤ N) ∧ (-N ≤ a.tdiv b * b ∧ a.tdiv b * b ≤ N) := by
  have key : ∀ a : Int, 0 ≤ a → 0 ≤ a.tdiv b ∧ a.tdiv b ≤ a ∧ 0 ≤ a.tdiv b * b ∧ a.tdiv b * b ≤ a := fun a h => by
    rw [Int.tdiv_eq_ediv_of_nonneg h]
    have h1 := Int.ediv_nonneg h (show 0 ≤ b by omega)
    have h2 := Int.ediv_mul_le a (show b ≠ 0 by omega)
    have h3 := Int.mul_nonneg h1 (show 0 ≤ b by omega)
    exact ⟨h1, Int.ediv_le_self _ h, h3, h2⟩
  rcases Int.le_total 0 a with h | h
  · have := key a h; omega
  · have := key (-a) (by omega)
    rw [Int.neg_tdiv, Int.neg_mul] at this; omega
theorem beyE_eq {a b : Int} (hb : 0 < b) : beyE a b = a / b := by
  unfold beyE
  rcases Int.le_total 0 a with h | h
  · rw [Int.tdiv_eq_ediv_of_nonneg h, if_neg (by have := Int.ediv_mul_le a (show b ≠ 0 by omega); omega)]
  · have h1 : a.tdiv b = -((-a) / b) := by rw [← Int.tdiv_eq_ediv_of_nonneg (show 0 ≤ -a by omega), Int.neg_tdiv, Int.neg_neg]
    have e1 := Int.ediv_mul_le (-a) (show b ≠ 0 by omega)
    have e2 := Int.lt_ediv_add_one_mul_self (-a) hb
    rw [Int.add_mul] at e2
    rw [h1, Int.neg_mul]
    by_cases hd : (-a) / b * b = -a
    · rw [if_neg (by omega)]
      have : a / b = -((-a) / b) := by
        have : a = -((-a) / b) * b := by rw [Int.neg_mul]; omega
        conv => lhs; rw [this]
        rw [Int.mul_ediv_cancel _ (by omega)]
      omega
    · rw [if_pos (by omega)]
      apply Int.le_antisymm
      · apply (Int.le_ediv_iff_mul_le hb).2
        rw [Int.sub_mul, Int.neg_mul]; omega
      · apply Int.lt_add_one_iff.1
        apply (Int.ediv_lt_iff_lt_mul hb).2
        rw [show -((-a) / b) - 1 + 1 = -((-a) / b) by omega, Int.neg_mul]; omega
theorem fieldsOf_st {P : Program} {t : TypeId} {fs : Array Field} (h : P.underlying t = some (.struct fs)) : P.fieldsOf t = fs := by unfold Program.fieldsOf; rw [h]
theorem pcEq (n : Nat) (a b : Pc) (w : World) : (Op.equalIn (n + 2) 28 (.agg #[.int .i64 a.near, .int .i64 a.x, .int .i64 a.y]) (.agg #[.int .i64 b.near, .int .i64 b.x, .int .i64 b.y])).run Tryz.prog w = .ok (decide (a = b)) w := by
  have h3 : Tryz.prog.underlying 3 = some (.int .i64) := Tryz.underlying3
  rw [run_equalIn_struct w (n + 1) 28 _ _ (by rw [fieldsOf_st Tryz.underlying28]; exact Tryz.underlying28) (by kernel_rfl), fieldsOf_st Tryz.underlying28]
  have q0 : ∀ (x : Pc) (w : World), (part 3 #[.int .i64 x.near, .int .i64 x.x, .int .i64 x.y] 0).run Tryz.prog w = .ok (.int .i64 x.near) w := fun x w => by simp [part, Tryz.isAgg3]
  have q1 : ∀ (x : Pc) (w : World), (part 3 #[.int .i64 x.near, .int .i64 x.x, .int .i64 x.y] 1).run Tryz.prog w = .ok (.int .i64 x.x) w := fun x w => by simp [part, Tryz.isAgg3]
  have q2 : ∀ (x : Pc) (w : World), (part 3 #[.int .i64 x.near, .int .i64 x.x, .int .i64 x.y] 2).run Tryz.prog w = .ok (.int .i64 x.y) w := fun x w => by simp [part, Tryz.isAgg3]
  simp [Op.eqFields, q0, q1, q2, run_equalIn_int _ _ _ _ _ _ _ h3]
  obtain ⟨a1, a2, a3⟩ := a
  obtain ⟨b1, b2, b3⟩ := b
  simp only [Pc.mk.injEq]
  by_cases e1 : a1 = b1 <;> by_cases e2 : a2 = b2 <;> by_cases e3 : a3 = b3 <;> simp [e1, e2, e3]
structure Rz where
  fig : Int
  p : Pc
  deriving DecidableEq
abbrev rzC (t : Rz) : List AV := [I t.fig, I t.p.near, I t.p.x, I t.p.y]
abbrev rzVals (x : Rz) : Array Value := #[.int .i64 x.fig, .int .i64 x.p.near, .int .i64 x.p.x, .int .i64 x.p.y]
theorem rzEq (a b : Rz) (w : World) : (Op.equalIn 10000 73 (.agg (rzVals a)) (.agg (rzVals b))).run Tryz.prog w = .ok (decide (a = b)) w := by
  have h3 : Tryz.prog.underlying 3 = some (.int .i64) := Tryz.underlying3
  rw [run_equalIn_struct w 9999 73 _ _ (by rw [fieldsOf_st Tryz.underlying73]; exact Tryz.underlying73) (by kernel_rfl), fieldsOf_st Tryz.underlying73]
  have q0 : ∀ (x : Rz) (w : World), (part 3 (rzVals x) 0).run Tryz.prog w = .ok (.int .i64 x.fig) w := fun x w => by simp [part, Tryz.isAgg3]
  have q1 : ∀ (x : Rz) (w : World), (part 28 (rzVals x) 1).run Tryz.prog w = .ok (.agg #[.int .i64 x.p.near, .int .i64 x.p.x, .int .i64 x.p.y]) w := fun x w => by simp [part, Tryz.isAgg28, Tryz.sizeOf28]
  obtain ⟨a1, a2⟩ := a
  obtain ⟨b1, b2⟩ := b
  simp only [Rz.mk.injEq]
  by_cases e1 : a1 = b1 <;> by_cases e2 : a2 = b2 <;> simp [Op.eqFields, q0, q1, run_equalIn_int _ _ _ _ _ _ _ h3, pcEq 9997, e1, e2]
section
variable {r : Option Nat} {H : List AObj} {ρ : Operand → AV} {d : Option Tmp} {t : TypeId} {p : String} {af : Array Edge} {g : Option (Nat × Bool)} {x y : Operand} {yt : TypeId}
theorem ev_rz_neq {a b : Rz} (hx : Less (ρ x) (.agg (rzC a))) (hy : Less (ρ y) (.agg (rzC b))) : Ev Tryz.prog r ⟨d, .binOp .neq 73 x y yt, t, p, af, g⟩ H ρ (B (!decide (a = b))) :=
  ev_neq_agg (by kernel_rfl) (rzEq a b) (Less.trans hx (less_agg_raw (vs := [.int .i64 a.fig, .int .i64 a.p.near, .int .i64 a.p.x, .int .i64 a.p.y]) rfl)) (Less.trans hy (less_agg_raw (vs := [.int .i64 b.fig, .int .i64 b.p.near, .int .i64 b.p.x, .int .i64 b.p.y]) rfl))
end
abbrev rzs (l : List Rz) : AV := .sl 4 (l.map rzC)
theorem beyond_pure {a b : Int} (ha : -1000000000 ≤ a ∧ a ≤ 1000000000) (hb : 0 < b ∧ b ≤ 1000000) : APure Tryz.prog 99 [I a, I b] (I (a / b)) := by
  refine apure_of (rs := [.tmp 4]) Tryz.func99 rfl rfl (Nat.le_of_ble_eq_true rfl) (by simp [AV.pureL, AV.pureB, AV.pureE, pureE_map]) (by first | rfl | (simp [AV.pureL, AV.pureB, AV.pureE, pureE_map])) fun e0 he0 => ?_
  have htd := tdiv_bd ha hb.1
  refine W 3 ?_
  refine sq_ev rfl (ev_quo (q := a.tdiv b) J J (by omega) (wr (by have := (tdiv_bd ha hb.1).1; omega) (by have := (tdiv_bd ha hb.1).1; omega))) ?_
  refine W 6 ?_
  refine iff (fun c_13 c_13' => ?_) (fun c_13 c_13' => ?_)
  · skip
    refine W 5 ?_
    exact retQ_pure (v := .raw _) rfl rfl (Less.eq (by rw [← beyE_eq hb.1]; unfold beyE; rw [if_pos (by simpa using c_13)]))
  · skip
    refine W 2 ?_
    exact retQ_pure (v := .raw _) rfl rfl (Less.eq (by rw [← beyE_eq hb.1]; unfold beyE; rw [if_neg (by simpa using c_13)]))
theorem lhide_pure (f : Fg) {x y den : Int} (hx : -1000000000 ≤ x ∧ x ≤ 1000000000) (hy : -1000000000 ≤ y ∧ y ≤ 1000000000) (hd : 0 < den ∧ den ≤ 1000000) : APure Tryz.prog 30 [fgA f, I x, I y, I den] (C (chF f (x / den) (y / den))) := by
 refine apure_of (rs := [.tmp 8]) Tryz.func30 rfl rfl (Nat.le_of_ble_eq_true rfl) (by simp [AV.pureL, AV.pureB, AV.pureE, pureE_map]) (by first | rfl | (simp [AV.pureL, AV.pureB, AV.pureE, pureE_map])) fun e0 he0 => ?_
 refine W 4 ?_
 refine cl A (beyond_pure hx hd) ?_
 refine W 2 ?_
 refine cl A (beyond_pure hy hd) ?_
 refine W 5 ?_
 refine sq_split 19 J (fun g2_2 => ?_) (fun g2_2 => ?_)
 ·
  have g2_2' := g2_2
  try simp only [qq] at g2_2'
  refine W 22 ?_
  exact retQ_pure (v := .raw _) rfl rfl (Less.eq (by unfold chF; rw [if_neg (by omega)]; rfl))
 have g2_2' := g2_2
 try simp only [qq] at g2_2'
 have j0 : 0 ≤ y / den := by omega
 refine W 7 ?_
 refine sq_split 26 J (fun g2_9 => ?_) (fun g2_9 => ?_)
 ·
  have g2_9' := g2_9
  try simp only [qq] at g2_9'
  refine W 15 ?_
  exact retQ_pure (v := .raw _) rfl rfl (Less.eq (by unfold chF; rw [if_neg (by omega)]; rfl))
 have g2_9' := g2_9
 try simp only [qq] at g2_9'
 have j1 : (y / den).toNat < f.length := by first | omega | (simp_all; done) | (simp_all; omega)
 refine W 4 ?_
 refine sq_split 30 J (fun g2_13 => ?_) (fun g2_13 => ?_)
 ·
  have g2_13' := g2_13
  try simp only [qq] at g2_13'
  refine W 11 ?_
  exact retQ_pure (v := .raw _) rfl rfl (Less.eq (by unfold chF; rw [if_neg (by omega)]; rfl))
 have g2_13' := g2_13
 try simp only [qq] at g2_13'
 have i0 : 0 ≤ x / den := by first | omega | (simp_all; done) | (simp_all; omega)
 refine W 4 ?_
 refine sq_yes rfl rfl (less_b g2_13) rfl (ev_index_map (k := (y / den).toNat) sl24.h J J (by omega) (by omega)) ?_
 refine W 4 ?_
 refine aw_cond J (fun c_39 => ?_) (fun c_39 => ?_)
 ·
  have c_39' := c_39
  try simp only [qq] at c_39'
  refine W 1 ?_
  exact retQ_pure (v := .raw _) rfl rfl (Less.eq (by unfold chF; rw [if_neg (fun h => by rw [getD_get j1] at h; omega)]; rfl))
 have c_39' := c_39
 try simp only [qq] at c_39'
 have i1 : (x / den).toNat < f[(y / den).toNat].length := by first | omega | (simp_all; done) | (simp_all; omega)
 refine W 3 ?_
 refine sq_ev rfl (ev_index_map (k := (y / den).toNat) sl24.h J J (by omega) (by omega)) ?_
 refine W 2 ?_
 refine sq_ev rfl (ev_idxS (k := (x / den).toNat) Tryz.underlying9 J J (by omega) (by omega)) ?_
 refine W 1 ?_
 exact retQ_pure (v := .raw _) rfl rfl (Less.eq (by unfold chF; rw [if_pos ⟨j0, by omega, i0, by rw [getD_get j1]; omega⟩, getD_get j1, getD_get i1]))
theorem rsamer_pure (a b : List Rz) (ha : a.length ≤ 1000000) (hb : b.length ≤ 1000000) : APure Tryz.prog 80 [rzs a, rzs b] (B (decide (a = b))) := by
 refine apure_of (rs := [.tmp 4]) Tryz.func80 rfl rfl (Nat.le_of_ble_eq_true rfl) (by simp [AV.pureL, AV.pureB, AV.pureE, pureE_map]) (by first | rfl | (simp [AV.pureL, AV.pureB, AV.pureE, pureE_map])) fun e0 he0 => ?_
 refine W 6 ?_
 refine ifn (fun c_10 c_10' => ?_) (fun c_10 c_10' => ?_)
 ·
  refine W 1 ?_
  exact retQ_pure (v := .raw _) rfl rfl (Less.eq (by rw [decide_eq_false (fun h => by rw [h] at c_10'; exact c_10' rfl)]))
 have hlen : a.length = b.length := by omega
 refine W 1 ?_
 refine aw_loopk (ι := { k : Nat // k ≤ a.length ∧ ∀ i, (h1 : i < a.length) → (h2 : i < b.length) → i < k → a[i] = b[i] }) [0, 1] (fun g => [(5, I g.1)]) (fun H g => H) (fun g => a.length - g.1) (⟨0, Nat.zero_le _, by omega⟩) ⟨J, J, J, trivial⟩ rfl ?_
 rintro ⟨k, hk, hok⟩
 dsimp only [keepS, St.put, sget, slotsOf, nn1, nn2, nn3, nn4, nn5, nn6, Nat.reduceBEq, Nat.reduceAdd, nn7, nn8]
 refine W 4 ?_
 refine iff (fun c_14 c_14' => ?_) (fun c_14 c_14' => ?_)
 ·
  have hkL : k < a.length := by omega
  refine W 0 ?_
  refine aw_draw 9 mo (by kernel_rfl) ?_
  refine WD 8 ?_
  refine dr_ev rfl (ev_rz_neq (a := a[k]) (b := b[k]) J J) ?_
  refine dr_end ?_
  refine W 0 ?_
  refine aw_cond J (fun c_25 => ?_) (fun c_25 => ?_)
  ·
   have c_25' := c_25
   try simp only [qq] at c_25'
   refine W 1 ?_
   exact retQ_pure (v := .raw _) rfl rfl (Less.eq (by rw [decide_eq_false (fun h => by subst h; simp at c_25')]))
  have c_25' := c_25
  try simp only [qq] at c_25'
  refine W 3 ?_
  exact ⟨⟨k + 1, by omega, fun i h1 h2 h => (by by_cases e : i = k; (subst e; simpa using c_25'); exact hok i h1 h2 (by omega))⟩, by simp only; omega, Sub.slots ⟨J, J, J, trivial⟩⟩
 have heq : a = b := same_ext hlen fun i h1 h2 => hok i h1 h2 (by omega)
 refine W 1 ?_
 exact retQ_pure (v := .raw _) rfl rfl (Less.eq (by rw [decide_eq_true heq]))
end Go.Proofs.YtmbknoaneglilaaGreatDoor
namespace Go.Proofs.YtmbknoaneglilaaGreatDoor
open Go Go.Ab Ni Ol
theorem gate_bool {a b : Bool} (h : (a && b) = true) : a = true ∧ b = true := by simpa using h
end Go.Proofs.YtmbknoaneglilaaGreatDoor
namespace Go.Proofs.YtmbknoaneglilaaGreatDoor
open Go Go.Ab Ni Ol
theorem less_bo {a b : Bool} (h : a = b) : Less (B a) (B b) := Less.eq (by rw [h])
end Go.Proofs.YtmbknoaneglilaaGreatDoor
namespace Go.Proofs.YtmbknoaneglilaaGreatDoor
open Go Go.Ab Ni Ol
instance en130 : EnT Tryz.prog 130 := ⟨Ent.of Tryz.func130 (by kernel_rfl) rfl⟩
instance en139 : EnT Tryz.prog 139 := ⟨Ent.of Tryz.func139 (by kernel_rfl) rfl⟩
instance en76 : EnT Tryz.prog 76 := ⟨Ent.of Tryz.func76 (by kernel_rfl) rfl⟩
theorem aw_join {c : Ctx} {Q : AExit → St → Prop} {s : St} (V : List (Nat × AV)) (ks : List Nat) {a b : Code} (ha : AWP c a (AExit.then (fun s' => LessS s'.sl (V ++ keepS s.sl ks) ∧ s'.H = s.H ∧ s'.df = s.df) Q) s)
    (hb : AWP c b Q ⟨V ++ keepS s.sl ks, s.H, s.df⟩) : AWP c a (AExit.then (AWP c b Q) Q) s := by
  refine AWP.mono ha fun ax s' h => ?_
  cases ax with
  | normal =>
    obtain ⟨h1, h2, h3⟩ := h
    have h4 := aw_less (s := s') (Q := Q) (code := b) _ h1.all (by rw [h2, h3]; exact hb)
    exact h4
  | _ => exact h
theorem mul2 {a b A B : Int} (h1 : -A ≤ a ∧ a ≤ A) (h2 : -B ≤ b ∧ b ≤ B) : -(A * B) ≤ a * b ∧ a * b ≤ A * B := mulb h1.1 h1.2 h2.1 h2.2
theorem dkR_succ' {c : Ca} {k m : Int} {j n : Nat} : c.dkR k m j (n + 1) = (c.dkR k m j n && (c.skp k m j n || c.chD j n)) := c.dkR_succ k m j n
theorem ltR_succ' {c : Ca} {k m : Int} {j n : Nat} : c.ltR k m j (n + 1) = (c.ltR k m j n && (c.skp k m j n || !c.chD j n)) := c.ltR_succ k m j n
theorem inE_bys (n : Nat) (l : List UInt8) : AV.inE n (l.map fun x => [C x]) = true := inE_map fun x _ => by simp [AV.inL, AV.inB]
theorem bys_back (l : List UInt8) : ((l.map fun x => ((x.toNat : Nat) : Int)).map fun n => UInt8.ofNat n.toNat) = l := by
  rw [List.map_map]
  conv => rhs; rw [← List.map_id l]
  exact List.map_congr_left fun x _ => by simp
theorem bys_ints (l : List UInt8) : AV.sl 1 (l.map fun x => [C x]) = AV.sl 1 ((l.map fun x => ((x.toNat : Nat) : Int)).map fun n => [.raw (.int .u8 n)]) := by rw [List.map_map]; rfl
theorem rline_pure {c : Ca} (hc : CaB c) {a x : Int} (ha : 0 ≤ a ∧ a ≤ 16) (hx : -40 ≤ x ∧ x ≤ 40) : APure Tryz.prog 130 [I a, I c.s.far, I c.p.near, I x] (I (c.ln a x)) := by
  refine apure_of (rs := [.tmp 8]) Tryz.func130 rfl rfl (Nat.le_of_ble_eq_true rfl) (by simp [AV.pureL, AV.pureB, AV.pureE, pureE_map]) (by first | rfl | (simp [AV.pureL, AV.pureB, AV.pureE, pureE_map])) fun e0 he0 => ?_
  have h1 := hc.st
  have h2 := hc.pc
  have m1 := mul2 (a := a) (b := c.s.far - c.p.near) (A := 16) (B := 40) (by omega) (by omega)
  have m2 := mul2 (a := x - a) (b := c.s.far) (A := 60) (B := 40) (by omega) (by omega)
  refine W 13 ?_
  exact retQ_pure (v := .raw _) rfl rfl J
theorem shade_pure {c : Ca} (hc : CaB c) {k m : Int} (hk : -20 ≤ k ∧ k ≤ 20) (hm : -20 ≤ m ∧ m ≤ 20) : APure Tryz.prog 139 [stA c.s, fgA c.f, pcA c.p, I k, I m] (C (c.cell k m)) := by
 refine apure_of (rs := [.tmp 10]) Tryz.func139 rfl rfl (Nat.le_of_ble_eq_true rfl) (by simp [AV.pureL, AV.pureB, AV.pureE, pureE_map]) (by first | rfl | (simp [AV.pureL, AV.pureB, AV.pureE, pureE_map])) fun e0 he0 => ?_
 have h1 := hc.st
 have h2 := hc.pc
 have h3 := hc.fg
 have h4 := hc.w
 have hb := blur_bd hc
 have hpos : 0 < c.f.length := by omega
 have hw0 := w0_eq hpos
 have m1 := mul2 (a := k) (b := c.s.far - c.p.near) (A := 21) (B := 40) (by omega) (by omega)
 have m2 := mul2 (a := k + 1) (b := c.s.far - c.p.near) (A := 21) (B := 40) (by omega) (by omega)
 have m3 := mul2 (a := m) (b := c.s.far - c.p.near) (A := 21) (B := 40) (by omega) (by omega)
 have m4 := mul2 (a := m + 1) (b := c.s.far - c.p.near) (A := 21) (B := 40) (by omega) (by omega)
 refine W 4 ?_
 refine aw_draw 12 mo (by kernel_rfl) ?_
 refine WD 12 ?_
 refine W 26 ?_
 refine aw_draw 10 mo (by kernel_rfl) ?_
 refine WD 2 ?_
 refine dr_ev rfl (ev_index_map (k := 0) sl24.h J J rfl (by omega)) ?_
 refine WD 1 ?_
 refine dr_ev rfl (ev_less (ev_lenS Tryz.underlying9 J) (Less.eq (b := I ((w0 c.f : Nat) : Int)) (by rw [hw0]))) ?_
 refine WD 5 ?_
 refine sq_nil (aw_seq ?_)
 refine aw_join [(19, B (c.dk0 k m))] [5, 6, 7, 13, 14, 15, 16, 17, 18] ?_ ?_
 ·
  refine W 8 ?_
  refine cl A (rline_pure hc (by omega) (by omega)) ?_
  refine W 3 ?_
  refine sq_split 74 J (fun g5_11 => ?_) (fun g5_11 => ?_)
  ·
   have g5_11' := g5_11
   try simp only [qq] at g5_11'
   refine W 10 ?_
   refine cy A (rline_pure hc (by omega) (by omega)) ?_
   refine W 4 ?_
   refine sq_split 89 J (fun g5_26 => ?_) (fun g5_26 => ?_)
   ·
    have g5_26' := g5_26
    try simp only [qq] at g5_26'
    refine W 8 ?_
    refine cy A (rline_pure hc (by omega) (by omega)) ?_
    refine W 4 ?_
    refine sq_split 102 J (fun g5_39 => ?_) (fun g5_39 => ?_)
    ·
     have g5_39' := g5_39
     try simp only [qq] at g5_39'
     refine W 10 ?_
     refine cy A (rline_pure hc (by omega) (by omega)) ?_
     refine W 4 ?_
     exact ⟨⟨(by exact less_bo (by unfold Ca.dk0 Ca.eL Ca.eR; first | rfl | (simp_all; done) | (simp_all; intros; omega))), J, J, J, J, J, J, J, J, J, trivial⟩, rfl, rfl⟩
    have g5_39' := g5_39
    try simp only [qq] at g5_39'
    refine W 15 ?_
    exact ⟨⟨(by exact less_bo (by unfold Ca.dk0 Ca.eL Ca.eR; first | rfl | (simp_all; done) | (simp_all; intros; omega))), J, J, J, J, J, J, J, J, J, trivial⟩, rfl, rfl⟩
   have g5_26' := g5_26
   try simp only [qq] at g5_26'
   refine W 28 ?_
   exact ⟨⟨(by exact less_bo (by unfold Ca.dk0 Ca.eL Ca.eR; first | rfl | (simp_all; done) | (simp_all; intros; omega))), J, J, J, J, J, J, J, J, J, trivial⟩, rfl, rfl⟩
  have g5_11' := g5_11
  try simp only [qq] at g5_11'
  refine W 43 ?_
  exact ⟨⟨(by exact less_bo (by unfold Ca.dk0 Ca.eL Ca.eR; first | rfl | (simp_all; done) | (simp_all; intros; omega))), J, J, J, J, J, J, J, J, J, trivial⟩, rfl, rfl⟩
 dsimp only [keepS, St.put, sget, slotsOf, nn1, nn2, nn3, nn4, nn5, nn6, Nat.reduceBEq, Nat.reduceAdd, nn7, nn8]
 refine W 2 ?_
 refine aw_loopk (ι := { j : Nat // j ≤ c.f.length }) [5, 6, 7, 13, 14, 15, 16, 17, 18] (fun g => [(19, B (c.dk0 k m && c.dkA k m g.1)), (20, B (c.ltA k m g.1)), (21, I g.1)]) (fun H g => H) (fun g => c.f.length - g.1) (⟨0, Nat.zero_le _⟩) ⟨(by exact less_bo (by simp [Ca.dkA])), (by exact less_bo (by simp [Ca.ltA])), J, J, J, J, J, J, J, J, J, J, trivial⟩ rfl ?_
 rintro ⟨j, hj⟩
 dsimp only [keepS, St.put, sget, slotsOf, nn1, nn2, nn3, nn4, nn5, nn6, Nat.reduceBEq, Nat.reduceAdd, nn7, nn8]
 refine W 3 ?_
 refine iff (fun c_119 c_119' => ?_) (fun c_119 c_119' => ?_)
 ·
  have hjL : j < c.f.length := by omega
  have hrow := hc.row j hjL
  refine W 1 ?_
  refine aw_loopk (ι := { i : Nat // i ≤ w0 c.f }) [5, 6, 7, 13, 14, 15, 16, 17, 18, 21] (fun g => [(19, B (c.dk0 k m && c.dkA k m j && c.dkR k m j g.1)), (20, B (c.ltA k m j && c.ltR k m j g.1)), (22, I g.1)]) (fun H g => H) (fun g => w0 c.f - g.1) (⟨0, Nat.zero_le _⟩) ⟨(by exact less_bo (by simp [Ca.dkR])), (by exact less_bo (by simp [Ca.ltR])), J, J, J, J, J, J, J, J, J, J, J, trivial⟩ rfl ?_
  rintro ⟨i, hi⟩
  dsimp only [keepS, St.put, sget, slotsOf, nn1, nn2, nn3, nn4, nn5, nn6, Nat.reduceBEq, Nat.reduceAdd, nn7, nn8]
  refine W 3 ?_
  refine iff (fun c_124 c_124' => ?_) (fun c_124 c_124' => ?_)
  ·
   have hiL : i < c.f[j].length := by omega
   have hiw : i < w0 c.f := by omega
   refine W 10 ?_
   refine cl A (rline_pure hc (by omega) (by omega)) ?_
   refine W 3 ?_
   refine sq_split 140 J (fun g13_13 => ?_) (fun g13_13 => ?_)
   ·
    have g13_13' := g13_13
    try simp only [qq] at g13_13'
    have hs : c.skp k m j i = true := by unfold Ca.skp; simp only [Bool.or_eq_true]; exact .inl g13_13
    have eD : (c.dk0 k m && c.dkA k m j && c.dkR k m j i) = (c.dk0 k m && c.dkA k m j && c.dkR k m j (i + 1)) := by rw [dkR_succ', hs]; simp
    have eLt : (c.ltA k m j && c.ltR k m j i) = (c.ltA k m j && c.ltR k m j (i + 1)) := by rw [ltR_succ', hs]; simp
    refine W 50 ?_
    exact ⟨⟨i + 1, by omega⟩, by simp only; omega, Sub.slots ⟨(by exact less_bo eD), (by exact less_bo eLt), J, J, J, J, J, J, J, J, J, J, J, trivial⟩⟩
   have g13_13' := g13_13
   try simp only [qq] at g13_13'
   refine W 11 ?_
   refine cy A (rline_pure hc (by omega) (by omega)) ?_
   refine W 4 ?_
   refine sq_split 156 J (fun g13_29 => ?_) (fun g13_29 => ?_)
   ·
    have g13_29' := g13_29
    try simp only [qq] at g13_29'
    have hs : c.skp k m j i = true := by unfold Ca.skp; simp only [Bool.or_eq_true]; exact .inr (.inl g13_29)
    have eD : (c.dk0 k m && c.dkA k m j && c.dkR k m j i) = (c.dk0 k m && c.dkA k m j && c.dkR k m j (i + 1)) := by rw [dkR_succ', hs]; simp
    have eLt : (c.ltA k m j && c.ltR k m j i) = (c.ltA k m j && c.ltR k m j (i + 1)) := by rw [ltR_succ', hs]; simp
    refine W 34 ?_
    exact ⟨⟨i + 1, by omega⟩, by simp only; omega, Sub.slots ⟨(by exact less_bo eD), (by exact less_bo eLt), J, J, J, J, J, J, J, J, J, J, J, trivial⟩⟩
   have g13_29' := g13_29
   try simp only [qq] at g13_29'
   refine W 10 ?_
   refine cy A (rline_pure hc (by omega) (by omega)) ?_
   refine W 4 ?_
   refine sq_split 171 J (fun g13_44 => ?_) (fun g13_44 => ?_)
   ·
    have g13_44' := g13_44
    try simp only [qq] at g13_44'
    have hs : c.skp k m j i = true := by unfold Ca.skp; simp only [Bool.or_eq_true]; exact .inr (.inr (.inl g13_44))
    have eD : (c.dk0 k m && c.dkA k m j && c.dkR k m j i) = (c.dk0 k m && c.dkA k m j && c.dkR k m j (i + 1)) := by rw [dkR_succ', hs]; simp
    have eLt : (c.ltA k m j && c.ltR k m j i) = (c.ltA k m j && c.ltR k m j (i + 1)) := by rw [ltR_succ', hs]; simp
    refine W 19 ?_
    exact ⟨⟨i + 1, by omega⟩, by simp only; omega, Sub.slots ⟨(by exact less_bo eD), (by exact less_bo eLt), J, J, J, J, J, J, J, J, J, J, J, trivial⟩⟩
   have g13_44' := g13_44
   try simp only [qq] at g13_44'
   refine W 11 ?_
   refine cy A (rline_pure hc (by omega) (by omega)) ?_
   refine W 3 ?_
   refine aw_cond J (fun c_186 => ?_) (fun c_186 => ?_)
   ·
    have c_186' := c_186
    try simp only [qq] at c_186'
    have hs : c.skp k m j i = true := by unfold Ca.skp; simp only [Bool.or_eq_true]; exact .inr (.inr (.inr c_186))
    have eD : (c.dk0 k m && c.dkA k m j && c.dkR k m j i) = (c.dk0 k m && c.dkA k m j && c.dkR k m j (i + 1)) := by rw [dkR_succ', hs]; simp
    have eLt : (c.ltA k m j && c.ltR k m j i) = (c.ltA k m j && c.ltR k m j (i + 1)) := by rw [ltR_succ', hs]; simp
    refine W 3 ?_
    exact ⟨⟨i + 1, by omega⟩, by simp only; omega, Sub.slots ⟨(by exact less_bo eD), (by exact less_bo eLt), J, J, J, J, J, J, J, J, J, J, J, trivial⟩⟩
   have c_186' := c_186
   try simp only [qq] at c_186'
   have hs : c.skp k m j i = false := by unfold Ca.skp; simp only [Bool.or_eq_false_iff]; exact ⟨g13_13, g13_29, g13_44, c_186⟩
   refine W 8 ?_
   refine iff (fun c_194 c_194' => ?_) (fun c_194 c_194' => ?_)
   ·
    have hch : c.chD j i = true := by unfold Ca.chD; rw [getD_get hjL, getD_get hiL]; exact decide_eq_true (UInt8.toNat_inj.1 (by have : (35 : UInt8).toNat = 35 := rfl; omega))
    have eD : (c.dk0 k m && c.dkA k m j && c.dkR k m j i) = (c.dk0 k m && c.dkA k m j && c.dkR k m j (i + 1)) := by rw [dkR_succ', hs, hch]; simp
    have eLt : false = (c.ltA k m j && c.ltR k m j (i + 1)) := by rw [ltR_succ', hs, hch]; simp
    refine W 4 ?_
    exact ⟨⟨i + 1, by omega⟩, by simp only; omega, Sub.slots ⟨(by exact less_bo eD), (by exact less_bo eLt), J, J, J, J, J, J, J, J, J, J, J, trivial⟩⟩
   have hch : c.chD j i = false := by unfold Ca.chD; rw [getD_get hjL, getD_get hiL]; exact decide_eq_false (fun e => c_194' (by rw [e]; rfl))
   have eD : false = (c.dk0 k m && c.dkA k m j && c.dkR k m j (i + 1)) := by rw [dkR_succ', hs, hch]; simp
   have eLt : (c.ltA k m j && c.ltR k m j i) = (c.ltA k m j && c.ltR k m j (i + 1)) := by rw [ltR_succ', hs, hch]; simp
   refine W 4 ?_
   exact ⟨⟨i + 1, by omega⟩, by simp only; omega, Sub.slots ⟨(by exact less_bo eD), (by exact less_bo eLt), J, J, J, J, J, J, J, J, J, J, J, trivial⟩⟩
  obtain rfl : i = w0 c.f := by omega
  have eA : (c.dk0 k m && c.dkA k m j && c.dkR k m j (w0 c.f)) = (c.dk0 k m && c.dkA k m (j + 1)) := by rw [c.dkA_succ k m j, Bool.and_assoc]
  have eB : (c.ltA k m j && c.ltR k m j (w0 c.f)) = c.ltA k m (j + 1) := by rw [c.ltA_succ k m j]
  refine W 3 ?_
  exact ⟨⟨j + 1, by omega⟩, by simp only; omega, Sub.slots ⟨(by exact less_bo eA), (by exact less_bo eB), J, J, J, J, J, J, J, J, J, J, trivial⟩⟩
 obtain rfl : j = c.f.length := by omega
 refine W 1 ?_
 refine aw_cond J (fun c_195 => ?_) (fun c_195 => ?_)
 ·
  have c_195' := c_195
  try simp only [qq] at c_195'
  have hsh : c.shade k m = 35 := by unfold Ca.shade; rw [if_pos c_195]
  refine W 1 ?_
  exact retQ_pure (v := .raw _) rfl rfl (Less.eq (by rw [← Ca.shade_cell hc, hsh]; rfl))
 have c_195' := c_195
 try simp only [qq] at c_195'
 refine W 1 ?_
 refine aw_cond J (fun c_196 => ?_) (fun c_196 => ?_)
 ·
  have c_196' := c_196
  try simp only [qq] at c_196'
  have hsh : c.shade k m = 46 := by unfold Ca.shade; rw [if_neg (by rw [c_195]; simp), if_pos c_196]
  refine W 1 ?_
  exact retQ_pure (v := .raw _) rfl rfl (Less.eq (by rw [← Ca.shade_cell hc, hsh]; rfl))
 have c_196' := c_196
 try simp only [qq] at c_196'
 have hsh : c.shade k m = 43 := by unfold Ca.shade; rw [if_neg (by rw [c_195]; simp), if_neg (by rw [c_196]; simp)]
 refine W 1 ?_
 exact retQ_pure (v := .raw _) rfl rfl (Less.eq (by rw [← Ca.shade_cell hc, hsh]; rfl))
theorem rshadow_pure {c : Ca} (hc : CaB c) : APure Tryz.prog 76 [stA c.s, fgA c.f, pcA c.p] (strs c.shadow) := by
 refine apure_of (rs := [.tmp 6]) Tryz.func76 rfl rfl (Nat.le_of_ble_eq_true rfl) (by simp [AV.pureL, AV.pureB, AV.pureE, pureE_map]) (by first | rfl | (simp [AV.pureL, AV.pureB, AV.pureE, pureE_map])) fun e0 he0 => ?_
 have h1 := hc.st
 refine V 6 ?_
 refine sq_nil (aw_block ?_)
 refine aw_sub (sub_token 7 1 J) ?_
 refine aw_loopk (ι := { k : Nat // k ≤ c.s.high.toNat }) [3, 4, 5] (fun g => [(8, I g.1), (7, .own 3 1 (((List.range g.1).map c.srow).map fun x => [S x]))]) (fun H g => H.set 3 (.tok (((List.range g.1).map c.srow).map fun x => [S x]).length)) (fun g => c.s.high.toNat - g.1) (⟨0, Nat.zero_le _⟩) ⟨J, J, J, J, J, trivial⟩ rfl ?_
 rintro ⟨m, hm⟩
 dsimp only [keepS, St.put, sget, slotsOf, nn1, nn2, nn3, nn4, nn5, nn6, Nat.reduceBEq, Nat.reduceAdd, nn7, nn8]
 refine W 4 ?_
 refine iff (fun c_14 c_14' => ?_) (fun c_14 c_14' => ?_)
 ·
  have hmL : m < c.s.high.toNat := by omega
  refine V 2 ?_
  refine sq_nil (aw_block ?_)
  refine aw_sub (sub_token 9 1 J) ?_
  refine aw_loopk (ι := { k : Nat // k ≤ c.s.wide.toNat }) [3, 4, 5, 7, 8] (fun g => [(10, I g.1), (9, .own 4 1 (((List.range g.1).map fun (i : Nat) => c.cell (i : Int) (m : Int)).map fun x => [C x]))]) (fun H g => H.set 4 (.tok (((List.range g.1).map fun (i : Nat) => c.cell (i : Int) (m : Int)).map fun x => [C x]).length)) (fun g => c.s.wide.toNat - g.1) (⟨0, Nat.zero_le _⟩) ⟨J, J, J, J, J, J, J, trivial⟩ rfl ?_
  rintro ⟨k, hk⟩
  dsimp only [keepS, St.put, sget, slotsOf, nn1, nn2, nn3, nn4, nn5, nn6, Nat.reduceBEq, Nat.reduceAdd, nn7, nn8]
  refine W 4 ?_
  refine iff (fun c_20 c_20' => ?_) (fun c_20 c_20' => ?_)
  ·
   have hkL : k < c.s.wide.toNat := by omega
   have eR : ((List.range (k + 1)).map fun (i : Nat) => c.cell (i : Int) (m : Int)).map (fun x => [C x]) = ((List.range k).map fun (i : Nat) => c.cell (i : Int) (m : Int)).map (fun x => [C x]) ++ [[C (c.cell (k : Int) (m : Int))]] := by rw [List.range_succ]; simp
   refine W 6 ?_
   refine cl A (shade_pure hc (by omega) (by omega)) ?_
   refine sq_ev rfl (ev_buildSlice (es := [[_]]) sf92.h rfl rfl rfl rfl) ?_
   first | refine sq_append rfl sf92.h Tryz.underlying92 rfl rfl J (Nat.succ_pos _) (by simp; omega) (by simp; omega) ?_ | refine sq_append rfl sf92.h Tryz.underlying92 rfl rfl (less_slx _ _) (Nat.succ_pos _) (by simp; omega) (by simp; omega) ?_
   refine W 4 ?_
   exact ⟨⟨k + 1, by omega⟩, by simp only; omega, Sub.fin 5 ⟨J, Less.eq (b := .own 4 1 (((List.range (k + 1)).map fun (i : Nat) => c.cell (i : Int) (m : Int)).map fun x => [C x])) (by rw [eR] <;> rfl), J, J, J, J, J, trivial⟩ (congrArg (fun n => [_, _, _, _, AObj.tok n]) (congrArg List.length eR.symm)) (by simp [slotsIn, objsIn, sget, keepS, AObj.inB, AV.inB, AV.inL, AV.inE, inE_map, inE_bys, inE_ints, inE_strs, inE_figs, inE_cloths, -List.map_append, -List.map_take, -List.map_map]) (by simp [slotsIn, objsIn, sget, keepS, AObj.inB, AV.inB, AV.inL, AV.inE, inE_map, inE_bys, inE_ints, inE_strs, inE_figs, inE_cloths, -List.map_append, -List.map_take, -List.map_map]) (by simp [he0])⟩
  obtain rfl : k = c.s.wide.toNat := by omega
  have eS : ((List.range (m + 1)).map c.srow).map (fun x => [S x]) = ((List.range m).map c.srow).map (fun x => [S x]) ++ [[S (c.srow m)]] := by rw [List.range_succ]; simp
  refine W 2 ?_
  refine sq_ev rfl (ev_less (ev_bytesS (ns := (c.srow m).map fun (x : UInt8) => ((x.toNat : Nat) : Int)) Tryz.underlying92 Tryz.underlying5 Tryz.underlying9 (Less.trans (less_own _ _ _) (Less.eq (bys_ints (c.srow m))))) (Less.eq (congrArg S (bys_back (c.srow m))))) ?_
  refine sq_ev rfl (ev_buildSlice (es := [[_]]) sf24.h rfl rfl rfl rfl) ?_
  first | refine sq_append rfl sf24.h Tryz.underlying24 rfl rfl J (Nat.succ_pos _) (by simp; omega) (by simp; omega) ?_ | refine sq_append rfl sf24.h Tryz.underlying24 rfl rfl (less_slx _ _) (Nat.succ_pos _) (by simp; omega) (by simp; omega) ?_
  refine W 4 ?_
  exact ⟨⟨m + 1, by omega⟩, by simp only; omega, Sub.fin 4 ⟨J, Less.eq (b := .own 3 1 (((List.range (m + 1)).map c.srow).map fun x => [S x])) (by rw [eS] <;> rfl), J, J, J, trivial⟩ (congrArg (fun n => [_, _, _, AObj.tok n]) (congrArg List.length eS.symm)) (by simp [slotsIn, objsIn, sget, keepS, AObj.inB, AV.inB, AV.inL, AV.inE, inE_map, inE_bys, inE_ints, inE_strs, inE_figs, inE_cloths, -List.map_append, -List.map_take, -List.map_map]) (by simp [slotsIn, objsIn, sget, keepS, AObj.inB, AV.inB, AV.inL, AV.inE, inE_map, inE_bys, inE_ints, inE_strs, inE_figs, inE_cloths, -List.map_append, -List.map_take, -List.map_map]) (by simp [he0])⟩
 obtain rfl : m = c.s.high.toNat := by omega
 refine W 2 ?_
 exact retQ_pure (v := .own _ _ _) rfl rfl (Less.trans (less_own _ _ _) (Less.eq (by simp [Ca.shadow])))
end Go.Proofs.YtmbknoaneglilaaGreatDoor
namespace Go.Proofs.YtmbknoaneglilaaGreatDoor
open Go Go.Ab Ni Ol
instance en113 : EnT Tryz.prog 113 := ⟨Ent.of Tryz.func113 (by kernel_rfl) rfl⟩
instance en142 : EnT Tryz.prog 142 := ⟨Ent.of Tryz.func142 (by kernel_rfl) rfl⟩
instance en143 : EnT Tryz.prog 143 := ⟨Ent.of Tryz.func143 (by kernel_rfl) rfl⟩
instance en38 : EnT Tryz.prog 38 := ⟨Ent.of Tryz.func38 (by kernel_rfl) rfl⟩
instance en81 : EnT Tryz.prog 81 := ⟨Ent.of Tryz.func81 (by kernel_rfl) rfl⟩
theorem rd_step {x : Sn} {i d e : Nat} (hi : i < x.l.length) (hd : d < nN x) (he : e < nX x) : ((rdgs x).take (pos x i d (e + 1))).map (fun t => rdC t.rd) = ((rdgs x).take (pos x i d e)).map (fun t => rdC t.rd) ++ [[I i, I (x.r.nl + d), I (x.r.xl + e), I x.r.y]] := by
  rw [show pos x i d (e + 1) = pos x i d e + 1 from rfl, List.take_add_one, rdgs_get hi hd he, List.map_append]; rfl
theorem th_facts {x : Sn} {t : Th} (hx : snOK x = true) (ht : t ∈ rdgs x) : ∃ h : t.rd.fig < x.l.length, CaB ⟨x.s, x.l[t.rd.fig], t.rd.p⟩ ∧ t.sh = (Ca.mk x.s x.l[t.rd.fig] t.rd.p).shadow := by
  obtain ⟨i, n, k, hi, hn, hk, rfl⟩ := rdgs_mem ht
  refine ⟨hi, ca_of hx hi hn hk, ?_⟩
  unfold thrown
  simp only
  rw [getD_get hi]
def hasF (l : List Th) (n : Int) : Bool := l.any fun t => decide ((t.rd.fig : Int) = n)
def figN (l : List Th) (k : Nat) : Int := (((List.range k).filter fun (i : Nat) => hasF l i).length : Int)
theorem figN_succ (l : List Th) (k : Nat) : figN l (k + 1) = figN l k + (if hasF l k = true then 1 else 0) := by
  unfold figN
  rw [List.range_succ, List.filter_append]
  by_cases h : hasF l k = true
  · rw [if_pos h, List.filter_cons_of_pos (by exact h)]; simp
  · rw [if_neg h, List.filter_cons_of_neg (by simpa using h)]; simp
theorem figN_bd (l : List Th) (k : Nat) : 0 ≤ figN l k ∧ figN l k ≤ k := by
  unfold figN
  have := List.length_filter_le (fun (i : Nat) => hasF l i) (List.range k)
  rw [List.length_range] at this; omega
theorem hasF_iff {l : List Th} {n : Int} : hasF l n = true ↔ n ∈ seenF l := by
  unfold hasF
  rw [seenF_mem', List.any_eq_true]
  simp only [decide_eq_true_eq]
theorem figN_len {l : List Th} {k : Nat} (h : ∀ n ∈ seenF l, 0 ≤ n ∧ n < k) : figN l k = lenS l := by
  unfold figN lenS
  congr 1
  apply Nat.le_antisymm
  · have h1 := nodup_le (l := ((List.range k).filter fun (i : Nat) => hasF l i).map fun (i : Nat) => (i : Int)) (m := seenF l)
      (List.pairwise_map.2 (List.Pairwise.imp (fun {a b} (h : a ≠ b) => fun e => h (by omega)) (List.Pairwise.filter _ List.nodup_range)))
      (fun n hn => by obtain ⟨i, hi, rfl⟩ := List.mem_map.1 hn; exact hasF_iff.1 (List.mem_filter.1 hi).2)
    rwa [List.length_map] at h1
  · have h1 := nodup_le (seenF_nodup l) (m := ((List.range k).filter fun (i : Nat) => hasF l i).map fun (i : Nat) => (i : Int)) (fun n hn => by
      have := h n hn
      exact List.mem_map.2 ⟨n.toNat, List.mem_filter.2 ⟨List.mem_range.2 (by omega), by rw [show ((n.toNat : Nat) : Int) = n by omega]; exact hasF_iff.2 hn⟩, by omega⟩)
    rwa [List.length_map] at h1
theorem whoF (l : List Th) (i : Nat) : wordOf (seenF l) i = if hasF l i = true then (if lenS l = 1 then 3 else 2) else 1 := by
  unfold wordOf lenS
  by_cases h : (i : Int) ∈ seenF l
  · rw [if_pos h, if_pos (hasF_iff.2 h)]
    by_cases h1 : (seenF l).length = 1
    · rw [if_pos h1, if_pos (by omega)]
    · rw [if_neg h1, if_neg (by omega)]
  · rw [if_neg h, if_neg (fun e => h (hasF_iff.1 e))]
theorem rreadings_pure {x : Sn} (hx : snOK x = true) : APure Tryz.prog 113 [I (x.l.length : Int), rcA x.r] (rds (rdgs x)) := by
  refine apure_of (rs := [.tmp 4]) Tryz.func113 rfl rfl (Nat.le_of_ble_eq_true rfl) (by simp [AV.pureL, AV.pureB, AV.pureE, pureE_map]) (by first | rfl | (simp [AV.pureL, AV.pureB, AV.pureE, pureE_map])) fun e0 he0 => ?_
  have hfx := sn_facts hx
  have hrc := rcOK_facts hfx.2.2.1
  have hsb := stOK_iff.1 hfx.2.1
  refine V 4 ?_
  refine sq_nil (aw_block ?_)
  refine aw_sub (sub_token 5 4 J) ?_
  refine aw_loopk (ι := { i : Nat // i ≤ x.l.length }) [0, 3] (fun g => [(5, .own 1 4 (((rdgs x).take (pos x g.1 0 0)).map fun t => rdC t.rd)), (6, I g.1)]) (fun H g => H.set 1 (.tok (((rdgs x).take (pos x g.1 0 0)).map fun t => rdC t.rd).length)) (fun g => x.l.length - g.1) (⟨0, Nat.zero_le _⟩) ⟨Less.eq (by rw [show pos x 0 0 0 = 0 from (by simp [pos])]; rfl), J, J, J, trivial⟩ (by rw [show pos x 0 0 0 = 0 from (by simp [pos])]; rfl) ?_
  rintro ⟨i, hi⟩
  dsimp only [keepS, St.put, sget, slotsOf, nn1, nn2, nn3, nn4, nn5, nn6, Nat.reduceBEq, Nat.reduceAdd, nn7, nn8]
  refine W 3 ?_
  refine iff (fun c_11 c_11' => ?_) (fun c_11 c_11' => ?_)
  · skip
    have hiL : i < x.l.length := by omega
    refine W 4 ?_
    refine aw_loopk (ι := { d : Nat // d ≤ nN x }) [0, 3, 6] (fun g => [(5, .own 1 4 (((rdgs x).take (pos x i g.1 0)).map fun t => rdC t.rd)), (7, I (x.r.nl + (g.1 : Nat)))]) (fun H g => H.set 1 (.tok (((rdgs x).take (pos x i g.1 0)).map fun t => rdC t.rd).length)) (fun g => nN x - g.1) (⟨0, Nat.zero_le _⟩) ⟨J, (by exact less_int (by simp)), J, J, J, trivial⟩ rfl ?_
    rintro ⟨d, hd⟩
    dsimp only [keepS, St.put, sget, slotsOf, nn1, nn2, nn3, nn4, nn5, nn6, Nat.reduceBEq, Nat.reduceAdd, nn7, nn8]
    refine W 5 ?_
    refine iff (fun c_21 c_21' => ?_) (fun c_21 c_21' => ?_)
    · skip
      have hdL : d < nN x := by unfold nN at *; omega
      refine W 4 ?_
      refine aw_loopk (ι := { e : Nat // e ≤ nX x }) [0, 3, 6, 7] (fun g => [(5, .own 1 4 (((rdgs x).take (pos x i d g.1)).map fun t => rdC t.rd)), (8, I (x.r.xl + (g.1 : Nat)))]) (fun H g => H.set 1 (.tok (((rdgs x).take (pos x i d g.1)).map fun t => rdC t.rd).length)) (fun g => nX x - g.1) (⟨0, Nat.zero_le _⟩) ⟨J, (by exact less_int (by simp)), J, J, J, J, trivial⟩ rfl ?_
      rintro ⟨e, he⟩
      dsimp only [keepS, St.put, sget, slotsOf, nn1, nn2, nn3, nn4, nn5, nn6, Nat.reduceBEq, Nat.reduceAdd, nn7, nn8]
      have hmx := rdgs_mx hx
      refine W 5 ?_
      refine iff (fun c_31 c_31' => ?_) (fun c_31 c_31' => ?_)
      · skip
        have heL : e < nX x := by unfold nX at *; omega
        have eS := rd_step hiL hdL heL
        refine W 8 ?_
        refine sq_ev rfl (ev_buildSlice (es := [[_, _, _, _]]) sf53.h rfl rfl rfl rfl) ?_
        first | refine sq_append rfl sf53.h Tryz.underlying53 rfl rfl J (Nat.succ_pos _) (by simp; omega) (by simp; omega) ?_ | refine sq_append rfl sf53.h Tryz.underlying53 rfl rfl (less_slx _ _) (Nat.succ_pos _) (by simp; omega) (by simp; omega) ?_
        refine W 4 ?_
        exact ⟨⟨e + 1, by omega⟩, by simp only; omega, Sub.fin 2 ⟨Less.eq (b := .own 1 4 (((rdgs x).take (pos x i d (e + 1))).map fun t => rdC t.rd)) (by rw [eS] <;> rfl), (by exact less_int (by show _ = x.r.xl + ((e + 1 : Nat) : Int); omega)), J, J, J, J, trivial⟩ (congrArg (fun n => [_, AObj.tok n]) (congrArg List.length eS.symm)) (by simp [slotsIn, objsIn, sget, keepS, AObj.inB, AV.inB, AV.inL, AV.inE, inE_map, inE_rds, inE_ints, inE_strs, inE_figs, inE_cloths, -List.map_append, -List.map_take, -List.map_map]) (by simp [slotsIn, objsIn, sget, keepS, AObj.inB, AV.inB, AV.inL, AV.inE, inE_map, inE_rds, inE_ints, inE_strs, inE_figs, inE_cloths, -List.map_append, -List.map_take, -List.map_map]) (by simp [he0])⟩
      · skip
        obtain rfl : e = nX x := by unfold nX at *; omega
        have eX : ((rdgs x).take (pos x i d (nX x))).map (fun t => rdC t.rd) = ((rdgs x).take (pos x i (d + 1) 0)).map (fun t => rdC t.rd) := by rw [pos_x]
        refine W 3 ?_
        exact ⟨⟨d + 1, by omega⟩, by simp only; omega, Sub.fin 2 ⟨Less.eq (b := .own 1 4 (((rdgs x).take (pos x i (d + 1) 0)).map fun t => rdC t.rd)) (by rw [eX] <;> rfl), (by exact less_int (by show _ = x.r.nl + ((d + 1 : Nat) : Int); omega)), J, J, J, trivial⟩ (congrArg (fun n => [_, AObj.tok n]) (congrArg List.length eX)) (by simp [slotsIn, objsIn, sget, keepS, AObj.inB, AV.inB, AV.inL, AV.inE, inE_map, inE_rds, inE_ints, inE_strs, inE_figs, inE_cloths, -List.map_append, -List.map_take, -List.map_map]) (by simp [slotsIn, objsIn, sget, keepS, AObj.inB, AV.inB, AV.inL, AV.inE, inE_map, inE_rds, inE_ints, inE_strs, inE_figs, inE_cloths, -List.map_append, -List.map_take, -List.map_map]) (by simp [he0])⟩
    · skip
      obtain rfl : d = nN x := by unfold nN at *; omega
      have eN : ((rdgs x).take (pos x i (nN x) 0)).map (fun t => rdC t.rd) = ((rdgs x).take (pos x (i + 1) 0 0)).map (fun t => rdC t.rd) := by rw [pos_n]
      refine W 3 ?_
      exact ⟨⟨i + 1, by omega⟩, by simp only; omega, Sub.fin 2 ⟨Less.eq (b := .own 1 4 (((rdgs x).take (pos x (i + 1) 0 0)).map fun t => rdC t.rd)) (by rw [eN] <;> rfl), J, J, J, trivial⟩ (congrArg (fun n => [_, AObj.tok n]) (congrArg List.length eN)) (by simp [slotsIn, objsIn, sget, keepS, AObj.inB, AV.inB, AV.inL, AV.inE, inE_map, inE_rds, inE_ints, inE_strs, inE_figs, inE_cloths, -List.map_append, -List.map_take, -List.map_map]) (by simp [slotsIn, objsIn, sget, keepS, AObj.inB, AV.inB, AV.inL, AV.inE, inE_map, inE_rds, inE_ints, inE_strs, inE_figs, inE_cloths, -List.map_append, -List.map_take, -List.map_map]) (by simp [he0])⟩
  · skip
    obtain rfl : i = x.l.length := by omega
    refine W 2 ?_
    exact retQ_pure (v := .own _ _ _) rfl rfl (Less.trans (less_own _ _ _) (Less.eq (by rw [show pos x x.l.length 0 0 = (rdgs x).length from (rdgs_len x).symm, List.take_length])))
theorem rreads_pure {x : Sn} {sight : List (List UInt8)} (hx : snOK x = true) (hsi : Clo x.s sight) : APure Tryz.prog 38 [stA x.s, figs x.l, rcA x.r, strs sight] (rds (agrees x sight)) := by
 refine apure_of (rs := [.tmp 8]) Tryz.func38 rfl rfl (Nat.le_of_ble_eq_true rfl) (by simp [AV.pureL, AV.pureB, AV.pureE, pureE_map]) (by first | rfl | (simp [AV.pureL, AV.pureB, AV.pureE, pureE_map])) fun e0 he0 => ?_
 have hst := (sn_facts hx).2.1
 refine W 6 ?_
 refine cl A (rreadings_pure hx) ?_
 refine V 3 ?_
 refine sq_nil (aw_block ?_)
 refine aw_sub (sub_token 10 4 J) ?_
 refine aw_loopk (ι := { k : Nat // k ≤ (rdgs x).length }) [1, 3, 4, 9] (fun g => [(10, .own 2 4 ((((rdgs x).take g.1).filter fun t => agree t.sh sight).map fun t => rdC t.rd)), (11, I g.1)]) (fun H g => H.set 2 (.tok ((((rdgs x).take g.1).filter fun t => agree t.sh sight).map fun t => rdC t.rd).length)) (fun g => (rdgs x).length - g.1) (⟨0, Nat.zero_le _⟩) ⟨J, J, J, J, J, J, trivial⟩ rfl ?_
 rintro ⟨k, hk⟩
 dsimp only [keepS, St.put, sget, slotsOf, nn1, nn2, nn3, nn4, nn5, nn6, Nat.reduceBEq, Nat.reduceAdd, nn7, nn8]
 have hmx := rdgs_mx hx
 have hfl : (((rdgs x).take k).filter fun t => agree t.sh sight).length ≤ k := Nat.le_trans (List.length_filter_le _ _) (by rw [List.length_take]; omega)
 refine W 4 ?_
 refine iff (fun c_19 c_19' => ?_) (fun c_19 c_19' => ?_)
 ·
  have hkL : k < (rdgs x).length := by omega
  obtain ⟨hf, hB, hs⟩ := th_facts hx (List.getElem_mem hkL)
  have k76 := rshadow_pure hB
  rw [← hs] at k76
  have hfit := clo_fit hst (rdgs_clo hx (List.getElem_mem hkL)) hsi
  refine W 0 ?_
  refine aw_draw 17 mo (by kernel_rfl) ?_
  refine WD 7 ?_
  refine dr_ev rfl (ev_index_map (k := (rdgs x)[k].rd.fig) sl45.h J J rfl hf) ?_
  refine WD 6 ?_
  refine dcl A (k76) ?_
  refine WD 1 ?_
  refine dcl A (ragree_pure hfit) ?_
  refine dr_end ?_
  refine W 0 ?_
  refine aw_cond J (fun c_38 => ?_) (fun c_38 => ?_)
  ·
   have c_38' := c_38
   try simp only [qq] at c_38'
   have eS : (((rdgs x).take (k + 1)).filter fun t => agree t.sh sight).map (fun t => rdC t.rd) = (((rdgs x).take k).filter fun t => agree t.sh sight).map (fun t => rdC t.rd) ++ [rdC (rdgs x)[k].rd] := by rw [fl_yes hkL (by exact c_38), List.map_append]; rfl
   refine W 5 ?_
   refine sq_ev rfl (ev_buildSlice (es := [[_, _, _, _]]) sf53.h rfl rfl rfl rfl) ?_
   first | refine sq_append rfl sf53.h Tryz.underlying53 rfl rfl J (Nat.succ_pos _) (by simp; omega) (by simp; omega) ?_ | refine sq_append rfl sf53.h Tryz.underlying53 rfl rfl (less_slx _ _) (Nat.succ_pos _) (by simp; omega) (by simp; omega) ?_
   refine W 4 ?_
   exact ⟨⟨k + 1, by omega⟩, by simp only; omega, Sub.fin 3 ⟨Less.eq (b := .own 2 4 ((((rdgs x).take (k + 1)).filter fun t => agree t.sh sight).map fun t => rdC t.rd)) (by rw [eS] <;> rfl), J, J, J, J, J, trivial⟩ (congrArg (fun n => [_, _, AObj.tok n]) (congrArg List.length eS.symm)) (by simp [slotsIn, objsIn, sget, keepS, AObj.inB, AV.inB, AV.inL, AV.inE, inE_map, inE_rds, inE_ints, inE_strs, inE_figs, inE_cloths, -List.map_append, -List.map_take, -List.map_map]) (by simp [slotsIn, objsIn, sget, keepS, AObj.inB, AV.inB, AV.inL, AV.inE, inE_map, inE_rds, inE_ints, inE_strs, inE_figs, inE_cloths, -List.map_append, -List.map_take, -List.map_map]) (by simp [he0])⟩
  have c_38' := c_38
  try simp only [qq] at c_38'
  have eS : (((rdgs x).take (k + 1)).filter fun t => agree t.sh sight).map (fun t => rdC t.rd) = (((rdgs x).take k).filter fun t => agree t.sh sight).map (fun t => rdC t.rd) := by rw [fl_no hkL (by exact c_38)]
  refine W 3 ?_
  exact ⟨⟨k + 1, by omega⟩, by simp only; omega, Sub.fin 3 ⟨Less.eq (b := .own 2 4 ((((rdgs x).take (k + 1)).filter fun t => agree t.sh sight).map fun t => rdC t.rd)) (by rw [eS] <;> rfl), J, J, J, J, J, trivial⟩ (congrArg (fun n => [_, _, AObj.tok n]) (congrArg List.length eS.symm)) (by simp [slotsIn, objsIn, sget, keepS, AObj.inB, AV.inB, AV.inL, AV.inE, inE_map, inE_rds, inE_ints, inE_strs, inE_figs, inE_cloths, -List.map_append, -List.map_take, -List.map_map]) (by simp [slotsIn, objsIn, sget, keepS, AObj.inB, AV.inB, AV.inL, AV.inE, inE_map, inE_rds, inE_ints, inE_strs, inE_figs, inE_cloths, -List.map_append, -List.map_take, -List.map_map]) (by simp [he0])⟩
 obtain rfl : k = (rdgs x).length := by omega
 refine W 2 ?_
 exact retQ_pure (v := .own _ _ _) rfl rfl (Less.trans (less_own _ _ _) (Less.eq (by rw [List.take_length]; rfl)))
theorem rhas_pure (l : List Th) (n : Int) (hl : l.length ≤ 1000000) : APure Tryz.prog 143 [rds l, I n] (B (hasF l n)) := by
 refine apure_of (rs := [.tmp 4]) Tryz.func143 rfl rfl (Nat.le_of_ble_eq_true rfl) (by simp [AV.pureL, AV.pureB, AV.pureE, pureE_map]) (by first | rfl | (simp [AV.pureL, AV.pureB, AV.pureE, pureE_map])) fun e0 he0 => ?_
 refine W 2 ?_
 refine aw_loopk (ι := { k : Nat // k ≤ l.length ∧ ∀ i, (h : i < l.length) → i < k → ¬ (l[i].rd.fig : Int) = n }) [0, 1] (fun g => [(5, I g.1)]) (fun H g => H) (fun g => l.length - g.1) (⟨0, Nat.zero_le _, by omega⟩) ⟨J, J, J, trivial⟩ rfl ?_
 rintro ⟨k, hk, hok⟩
 dsimp only [keepS, St.put, sget, slotsOf, nn1, nn2, nn3, nn4, nn5, nn6, Nat.reduceBEq, Nat.reduceAdd, nn7, nn8]
 refine W 4 ?_
 refine iff (fun c_9 c_9' => ?_) (fun c_9 c_9' => ?_)
 ·
  have hkL : k < l.length := by omega
  refine W 7 ?_
  refine iff (fun c_18 c_18' => ?_) (fun c_18 c_18' => ?_)
  ·
   refine W 1 ?_
   exact retQ_pure (v := .raw _) rfl rfl (Less.eq (by rw [show hasF l n = true from List.any_eq_true.2 ⟨_, List.getElem_mem hkL, by simpa using c_18'⟩]))
  refine W 3 ?_
  exact ⟨⟨k + 1, by omega, fun i h hi => (by by_cases e : i = k; (subst e; exact c_18'); exact hok i h (by omega))⟩, by simp only; omega, Sub.slots ⟨J, J, J, trivial⟩⟩
 refine W 1 ?_
 exact retQ_pure (v := .raw _) rfl rfl (Less.eq (by rw [show hasF l n = false from List.any_eq_false.2 (fun t ht => by obtain ⟨i, hi, rfl⟩ := List.getElem_of_mem ht; simpa using hok i hi (by omega))]))
theorem rfigures2_pure (l : List Th) (m : Nat) (hl : l.length ≤ 1000000) (hm : m ≤ 1000000) : APure Tryz.prog 142 [rds l, I (m : Int)] (I (figN l m)) := by
 refine apure_of (rs := [.tmp 4]) Tryz.func142 rfl rfl (Nat.le_of_ble_eq_true rfl) (by simp [AV.pureL, AV.pureB, AV.pureE, pureE_map]) (by first | rfl | (simp [AV.pureL, AV.pureB, AV.pureE, pureE_map])) fun e0 he0 => ?_
 refine W 3 ?_
 refine aw_loopk (ι := { k : Nat // k ≤ m }) [0, 1] (fun g => [(5, I (figN l g.1)), (6, I g.1)]) (fun H g => H) (fun g => m - g.1) (⟨0, Nat.zero_le _⟩) ⟨J, J, J, J, trivial⟩ rfl ?_
 rintro ⟨k, hk⟩
 dsimp only [keepS, St.put, sget, slotsOf, nn1, nn2, nn3, nn4, nn5, nn6, Nat.reduceBEq, Nat.reduceAdd, nn7, nn8]
 have hfb := figN_bd l k
 refine W 3 ?_
 refine iff (fun c_9 c_9' => ?_) (fun c_9 c_9' => ?_)
 ·
  have hkL : k < m := by omega
  refine W 2 ?_
  refine cl A (rhas_pure l _ hl) ?_
  refine W 0 ?_
  refine aw_cond J (fun c_14 => ?_) (fun c_14 => ?_)
  ·
   have c_14' := c_14
   try simp only [qq] at c_14'
   have eF : figN l k + 1 = figN l (k + 1) := by rw [figN_succ, if_pos c_14]
   refine W 6 ?_
   exact ⟨⟨k + 1, by omega⟩, by simp only; omega, Sub.slots ⟨(by exact less_int eF), J, J, J, trivial⟩⟩
  have c_14' := c_14
  try simp only [qq] at c_14'
  have eF : figN l k = figN l (k + 1) := by rw [figN_succ, if_neg (by rw [c_14]; simp)]; omega
  refine W 3 ?_
  exact ⟨⟨k + 1, by omega⟩, by simp only; omega, Sub.slots ⟨(by exact less_int eF), J, J, J, trivial⟩⟩
 obtain rfl : k = m := by omega
 refine W 2 ?_
 exact retQ_pure (v := .raw _) rfl rfl J
end Go.Proofs.YtmbknoaneglilaaGreatDoor
namespace Go.Proofs.YtmbknoaneglilaaGreatDoor
open Go Go.Ab Ni Ol
instance en78 : EnT Tryz.prog 78 := ⟨Ent.of Tryz.func78 (by kernel_rfl) rfl⟩
theorem has_pos {l : List Th} {n : Int} (h : hasF l n = true) : 1 ≤ lenS l := by
  have h1 := hasF_iff.1 h
  have := List.length_pos_of_mem h1
  unfold lenS; omega
def rwhoL (x : Sn) (sight : List (List UInt8)) : List Int := if lenS (agrees x sight) = 0 then [] else whoOf x sight
theorem rds_rz (l : List Th) : rds l = rzs (l.map fun t => (⟨t.rd.fig, t.rd.p⟩ : Rz)) := by unfold rds rzs; rw [List.map_map]; rfl
theorem rwho_pure {x : Sn} {sight : List (List UInt8)} (hx : snOK x = true) (hsi : Clo x.s sight) : APure Tryz.prog 81 [stA x.s, figs x.l, rcA x.r, strs sight] (.tup [ints (rwhoL x sight), B (!decide (lenS (agrees x sight) = 0))]) := by
  refine apure_of (rs := [.tmp 8, .tmp 9]) Tryz.func81 rfl rfl (Nat.le_of_ble_eq_true rfl) (by simp [AV.pureL, AV.pureB, AV.pureE, pureE_map]) (by first | rfl | (simp [AV.pureL, AV.pureB, AV.pureE, pureE_map])) fun e0 he0 => ?_
  have hfx := sn_facts hx
  have hal : (agrees x sight).length ≤ 1000000 := by have := agrees_len (sight := sight) hx; omega
  have k142 := rfigures2_pure (agrees x sight) x.l.length hal (by omega)
  rw [figN_len seen_range] at k142
  refine W 8 ?_
  refine cl A (rreads_pure hx hsi) ?_
  refine W 4 ?_
  refine cl A (k142) ?_
  refine V 3 ?_
  refine sq_nil (aw_block ?_)
  refine aw_sub (sub_token 12 1 J) ?_
  refine aw_loopk (ι := { k : Nat // k ≤ x.l.length }) [1, 10, 11] (fun i => [(13, I i.1), (12, .own 2 1 ((((List.range i.1).map (wordOf (seenF (agrees x sight))))).map fun x => [I x]))]) (fun H i => H.set 2 (.tok ((((List.range i.1).map (wordOf (seenF (agrees x sight))))).map fun x => [I x]).length)) (fun i => x.l.length - i.1) (⟨0, Nat.zero_le _⟩) ⟨J, J, J, J, J, trivial⟩ rfl ?_
  rintro ⟨k, hk⟩
  dsimp only [keepS, St.put, sget, slotsOf, nn1, nn2, nn3, nn4, nn5, nn6, Nat.reduceBEq, Nat.reduceAdd, nn7, nn8]
  refine W 4 ?_
  refine iff (fun c_27 c_27' => ?_) (fun c_27 c_27' => ?_)
  · skip
    have hkL : k < x.l.length := by omega
    refine W 3 ?_
    refine cl A (rhas_pure _ _ hal) ?_
    refine W 1 ?_
    refine sq_split 33 J (fun g8_3 => ?_) (fun g8_3 => ?_)
    · skip
      have g8_3' := g8_3
      try simp only [qq] at g8_3'
      have hone := has_pos g8_3
      refine W 3 ?_
      refine aw_cond J (fun c_36 => ?_) (fun c_36 => ?_)
      · skip
        have c_36' := c_36
        try simp only [qq] at c_36'
        refine W 3 ?_
        refine cl A (rhas_pure _ _ hal) ?_
        refine W 1 ?_
        refine sq_split 40 J (fun g10_3 => ?_) (fun g10_3 => ?_)
        · skip
          have g10_3' := g10_3
          try simp only [qq] at g10_3'
          refine W 3 ?_
          refine aw_cond J (fun c_43 => ?_) (fun c_43 => ?_)
          · skip
            have c_43' := c_43
            try simp only [qq] at c_43'
            have hw : wordOf (seenF (agrees x sight)) k = 3 := by rw [whoF, if_pos g8_3, if_pos c_43']
            have eS : (((List.range (k + 1)).map (wordOf (seenF (agrees x sight))))).map (fun x => [I x]) = (((List.range k).map (wordOf (seenF (agrees x sight))))).map (fun x => [I x]) ++ [[I 3]] := by rw [List.range_succ, List.map_append, List.map_append]; simp only [List.map_cons, List.map_nil]; rw [hw]
            exfalso; omega
          · skip
            have c_43' := c_43
            try simp only [qq] at c_43'
            have hw : wordOf (seenF (agrees x sight)) k = 2 := by rw [whoF, if_pos g8_3, if_neg (by omega)]
            have eS : (((List.range (k + 1)).map (wordOf (seenF (agrees x sight))))).map (fun x => [I x]) = (((List.range k).map (wordOf (seenF (agrees x sight))))).map (fun x => [I x]) ++ [[I 2]] := by rw [List.range_succ, List.map_append, List.map_append]; simp only [List.map_cons, List.map_nil]; rw [hw]
            refine W 2 ?_
            refine sq_ev rfl (ev_buildSlice (es := [[_]]) sf117.h rfl rfl rfl rfl) ?_
            first | refine sq_append rfl sf117.h Tryz.underlying117 rfl rfl J (Nat.succ_pos _) (by simp; omega) (by simp; omega) ?_ | refine sq_append rfl sf117.h Tryz.underlying117 rfl rfl (less_slx _ _) (Nat.succ_pos _) (by simp; omega) (by simp; omega) ?_
            refine W 4 ?_
            exact ⟨⟨k + 1, by omega⟩, by simp only; omega, Sub.fin 3 ⟨J, Less.eq (b := .own 2 1 ((((List.range (k + 1)).map (wordOf (seenF (agrees x sight))))).map fun x => [I x])) (by rw [eS] <;> rfl), J, J, J, trivial⟩ (congrArg (fun n => [_, _, AObj.tok n]) (congrArg List.length eS.symm)) (by simp [slotsIn, objsIn, sget, keepS, AObj.inB, AV.inB, AV.inL, AV.inE, inE_map, inE_ints, inE_strs, inE_figs, inE_cloths, -List.map_append, -List.map_take, -List.map_map]) (by simp [slotsIn, objsIn, sget, keepS, AObj.inB, AV.inB, AV.inL, AV.inE, inE_map, inE_ints, inE_strs, inE_figs, inE_cloths, -List.map_append, -List.map_take, -List.map_map]) (by simp [he0])⟩
        · skip
          have g10_3' := g10_3
          try simp only [qq] at g10_3'
          have hw : wordOf (seenF (agrees x sight)) k = 1 := by rw [whoF, if_neg (by rw [g10_3]; simp)]
          have eS : (((List.range (k + 1)).map (wordOf (seenF (agrees x sight))))).map (fun x => [I x]) = (((List.range k).map (wordOf (seenF (agrees x sight))))).map (fun x => [I x]) ++ [[I 1]] := by rw [List.range_succ, List.map_append, List.map_append]; simp only [List.map_cons, List.map_nil]; rw [hw]
          exact absurd (g10_3.symm.trans g8_3) (by decide)
      · skip
        have c_36' := c_36
        try simp only [qq] at c_36'
        refine W 2 ?_
        refine cl A (rhas_pure _ _ hal) ?_
        refine W 1 ?_
        refine sq_split 40 J (fun g10_3 => ?_) (fun g10_3 => ?_)
        · skip
          have g10_3' := g10_3
          try simp only [qq] at g10_3'
          refine W 3 ?_
          refine aw_cond J (fun c_43 => ?_) (fun c_43 => ?_)
          · skip
            have c_43' := c_43
            try simp only [qq] at c_43'
            have hw : wordOf (seenF (agrees x sight)) k = 3 := by rw [whoF, if_pos g8_3, if_pos c_43']
            have eS : (((List.range (k + 1)).map (wordOf (seenF (agrees x sight))))).map (fun x => [I x]) = (((List.range k).map (wordOf (seenF (agrees x sight))))).map (fun x => [I x]) ++ [[I 3]] := by rw [List.range_succ, List.map_append, List.map_append]; simp only [List.map_cons, List.map_nil]; rw [hw]
            refine W 3 ?_
            refine sq_ev rfl (ev_buildSlice (es := [[_]]) sf117.h rfl rfl rfl rfl) ?_
            first | refine sq_append rfl sf117.h Tryz.underlying117 rfl rfl J (Nat.succ_pos _) (by simp; omega) (by simp; omega) ?_ | refine sq_append rfl sf117.h Tryz.underlying117 rfl rfl (less_slx _ _) (Nat.succ_pos _) (by simp; omega) (by simp; omega) ?_
            refine W 4 ?_
            exact ⟨⟨k + 1, by omega⟩, by simp only; omega, Sub.fin 3 ⟨J, Less.eq (b := .own 2 1 ((((List.range (k + 1)).map (wordOf (seenF (agrees x sight))))).map fun x => [I x])) (by rw [eS] <;> rfl), J, J, J, trivial⟩ (congrArg (fun n => [_, _, AObj.tok n]) (congrArg List.length eS.symm)) (by simp [slotsIn, objsIn, sget, keepS, AObj.inB, AV.inB, AV.inL, AV.inE, inE_map, inE_ints, inE_strs, inE_figs, inE_cloths, -List.map_append, -List.map_take, -List.map_map]) (by simp [slotsIn, objsIn, sget, keepS, AObj.inB, AV.inB, AV.inL, AV.inE, inE_map, inE_ints, inE_strs, inE_figs, inE_cloths, -List.map_append, -List.map_take, -List.map_map]) (by simp [he0])⟩
          · skip
            have c_43' := c_43
            try simp only [qq] at c_43'
            have hw : wordOf (seenF (agrees x sight)) k = 2 := by rw [whoF, if_pos g8_3, if_neg (by omega)]
            have eS : (((List.range (k + 1)).map (wordOf (seenF (agrees x sight))))).map (fun x => [I x]) = (((List.range k).map (wordOf (seenF (agrees x sight))))).map (fun x => [I x]) ++ [[I 2]] := by rw [List.range_succ, List.map_append, List.map_append]; simp only [List.map_cons, List.map_nil]; rw [hw]
            exfalso; omega
        · skip
          have g10_3' := g10_3
          try simp only [qq] at g10_3'
          have hw : wordOf (seenF (agrees x sight)) k = 1 := by rw [whoF, if_neg (by rw [g10_3]; simp)]
          have eS : (((List.range (k + 1)).map (wordOf (seenF (agrees x sight))))).map (fun x => [I x]) = (((List.range k).map (wordOf (seenF (agrees x sight))))).map (fun x => [I x]) ++ [[I 1]] := by rw [List.range_succ, List.map_append, List.map_append]; simp only [List.map_cons, List.map_nil]; rw [hw]
          exact absurd (g10_3.symm.trans g8_3) (by decide)
    · skip
      have g8_3' := g8_3
      try simp only [qq] at g8_3'
      refine W 6 ?_
      refine cl A (rhas_pure _ _ hal) ?_
      refine W 1 ?_
      refine sq_split 40 J (fun g10_3 => ?_) (fun g10_3 => ?_)
      · skip
        have g10_3' := g10_3
        try simp only [qq] at g10_3'
        exact absurd (g10_3.symm.trans g8_3) (by decide)
      · skip
        have g10_3' := g10_3
        try simp only [qq] at g10_3'
        have hw : wordOf (seenF (agrees x sight)) k = 1 := by rw [whoF, if_neg (by rw [g10_3]; simp)]
        have eS : (((List.range (k + 1)).map (wordOf (seenF (agrees x sight))))).map (fun x => [I x]) = (((List.range k).map (wordOf (seenF (agrees x sight))))).map (fun x => [I x]) ++ [[I 1]] := by rw [List.range_succ, List.map_append, List.map_append]; simp only [List.map_cons, List.map_nil]; rw [hw]
        refine W 6 ?_
        refine sq_ev rfl (ev_buildSlice (es := [[_]]) sf117.h rfl rfl rfl rfl) ?_
        first | refine sq_append rfl sf117.h Tryz.underlying117 rfl rfl J (Nat.succ_pos _) (by simp; omega) (by simp; omega) ?_ | refine sq_append rfl sf117.h Tryz.underlying117 rfl rfl (less_slx _ _) (Nat.succ_pos _) (by simp; omega) (by simp; omega) ?_
        refine W 4 ?_
        exact ⟨⟨k + 1, by omega⟩, by simp only; omega, Sub.fin 3 ⟨J, Less.eq (b := .own 2 1 ((((List.range (k + 1)).map (wordOf (seenF (agrees x sight))))).map fun x => [I x])) (by rw [eS] <;> rfl), J, J, J, trivial⟩ (congrArg (fun n => [_, _, AObj.tok n]) (congrArg List.length eS.symm)) (by simp [slotsIn, objsIn, sget, keepS, AObj.inB, AV.inB, AV.inL, AV.inE, inE_map, inE_ints, inE_strs, inE_figs, inE_cloths, -List.map_append, -List.map_take, -List.map_map]) (by simp [slotsIn, objsIn, sget, keepS, AObj.inB, AV.inB, AV.inL, AV.inE, inE_map, inE_ints, inE_strs, inE_figs, inE_cloths, -List.map_append, -List.map_take, -List.map_map]) (by simp [he0])⟩
  · skip
    obtain rfl : k = x.l.length := by omega
    refine W 2 ?_
    refine iff (fun c_49 c_49' => ?_) (fun c_49 c_49' => ?_)
    · skip
      refine W 2 ?_
      exact retQ_pure (v := .tup [.raw _, .raw _]) rfl rfl (less_tup ⟨Less.trans (less_nil 1) (Less.eq (by unfold rwhoL; rw [if_pos c_49']; rfl)), Less.eq (by rw [decide_eq_true c_49']; rfl), trivial⟩)
    · skip
      refine W 3 ?_
      exact retQ_pure (v := .tup [.own _ _ _, .raw _]) rfl rfl (less_tup ⟨Less.trans (less_own _ _ _) (Less.eq (by unfold rwhoL; rw [if_neg c_49']; rfl)), Less.eq (by rw [decide_eq_false c_49']; rfl), trivial⟩)
theorem reads_gate (x : Sn) (sight : List (List UInt8)) (hg : (fewB x.l && shortB sight) = false) : APure Tryz.prog 19 [stA x.s, figs x.l, rcA x.r, strs sight] (B true) := by
 refine apure_of (rs := [.tmp 8]) Tryz.func19 rfl rfl (Nat.le_of_ble_eq_true rfl) (by simp [AV.pureL, AV.pureB, AV.pureE, pureE_map]) (by first | rfl | (simp [AV.pureL, AV.pureB, AV.pureE, pureE_map])) fun e0 he0 => ?_
 refine W 4 ?_
 refine cl A (few_pure x.l) ?_
 refine W 2 ?_
 refine sq_split 18 J (fun g1_3 => ?_) (fun g1_3 => ?_)
 ·
  have g1_3' := g1_3
  try simp only [qq] at g1_3'
  refine W 5 ?_
  refine cl A (known_pure) ?_
  refine W 1 ?_
  exact retQ_pure (v := .raw _) rfl rfl J
 have g1_3' := g1_3
 try simp only [qq] at g1_3'
 refine W 1 ?_
 refine cy A (short_pure sight) ?_
 refine W 2 ?_
 refine aw_cond J (fun c_22 => ?_) (fun c_22 => ?_)
 ·
  have c_22' := c_22
  try simp only [qq] at c_22'
  refine W 0 ?_
  refine cl A (known_pure) ?_
  refine W 1 ?_
  exact retQ_pure (v := .raw _) rfl rfl J
 have c_22' := c_22
 try simp only [qq] at c_22'
 first | (exfalso; simp_all; done) | (exfalso; simp_all; omega)
theorem reads_bad0 {x : Sn} {sight : List (List UInt8)} (k34 : APure Tryz.prog 34 [figs x.l] (B true)) (k23 : APure Tryz.prog 23 [strs sight] (B true)) (k24 : APure Tryz.prog 24 [stA x.s] (B false)) (k36 : APure Tryz.prog 36 [stA x.s, figs x.l, rcA x.r, B false] (I 2)) (k78 : APure Tryz.prog 78 [stA x.s, figs x.l, rcA x.r, strs sight] (.tup [rds [], I 2])) (k79 : APure Tryz.prog 79 [stA x.s, figs x.l, rcA x.r, strs sight] (.tup [ints [], I 2])) : APure Tryz.prog 19 [stA x.s, figs x.l, rcA x.r, strs sight] (B true) := by
  refine apure_of (rs := [.tmp 8]) Tryz.func19 rfl rfl (Nat.le_of_ble_eq_true rfl) (by simp [AV.pureL, AV.pureB, AV.pureE, pureE_map]) (by first | rfl | (simp [AV.pureL, AV.pureB, AV.pureE, pureE_map])) fun e0 he0 => ?_
  refine W 4 ?_
  refine cl A (k34) ?_
  refine W 3 ?_
  refine cy A (k23) ?_
  refine W 2 ?_
  refine aw_cond J (fun c_22 => ?_) (fun c_22 => ?_)
  · skip
    have c_22' := c_22
    try simp only [qq] at c_22'
    first | exact absurd c_22 (by decide) | (exfalso; simp at c_22; done) | (exfalso; simp at c_22; omega) | (exfalso; simp_all; done) | (exfalso; simp_all; omega)
  · skip
    have c_22' := c_22
    try simp only [qq] at c_22'
    refine W 4 ?_
    refine cl A (k78) ?_
    refine W 9 ?_
    refine cl A (k79) ?_
    refine W 5 ?_
    refine aw_draw 12 mo (by kernel_rfl) ?_
    refine WD 4 ?_
    refine dcl A (k24) ?_
    refine WD 5 ?_
    refine dcl A (k36) ?_
    refine WD 1 ?_
    refine W 0 ?_
    refine ifn (fun c_51 c_51' => ?_) (fun c_51 c_51' => ?_)
    · skip
      refine W 17 ?_
      refine cy A (known_pure) ?_
      refine W 2 ?_
      exact retQ_pure (v := .raw _) rfl rfl J
    · skip
      first | exact absurd c_51 (by decide) | (exfalso; simp at c_51; done) | (exfalso; simp at c_51; omega) | (exfalso; simp_all; done) | (exfalso; simp_all; omega)
theorem reads_bad1 {x : Sn} {sight : List (List UInt8)} (k34 : APure Tryz.prog 34 [figs x.l] (B true)) (k23 : APure Tryz.prog 23 [strs sight] (B true)) (k24 : APure Tryz.prog 24 [stA x.s] (B true)) {si : Bool} (k37 : APure Tryz.prog 37 [stA x.s, strs sight] (B si)) (k36 : APure Tryz.prog 36 [stA x.s, figs x.l, rcA x.r, B si] (I 2)) (k78 : APure Tryz.prog 78 [stA x.s, figs x.l, rcA x.r, strs sight] (.tup [rds [], I 2])) (k79 : APure Tryz.prog 79 [stA x.s, figs x.l, rcA x.r, strs sight] (.tup [ints [], I 2])) : APure Tryz.prog 19 [stA x.s, figs x.l, rcA x.r, strs sight] (B true) := by
  refine apure_of (rs := [.tmp 8]) Tryz.func19 rfl rfl (Nat.le_of_ble_eq_true rfl) (by simp [AV.pureL, AV.pureB, AV.pureE, pureE_map]) (by first | rfl | (simp [AV.pureL, AV.pureB, AV.pureE, pureE_map])) fun e0 he0 => ?_
  refine W 4 ?_
  refine cl A (k34) ?_
  refine W 3 ?_
  refine cy A (k23) ?_
  refine W 2 ?_
  refine aw_cond J (fun c_22 => ?_) (fun c_22 => ?_)
  · skip
    have c_22' := c_22
    try simp only [qq] at c_22'
    first | exact absurd c_22 (by decide) | (exfalso; simp at c_22; done) | (exfalso; simp at c_22; omega) | (exfalso; simp_all; done) | (exfalso; simp_all; omega)
  · skip
    have c_22' := c_22
    try simp only [qq] at c_22'
    refine W 4 ?_
    refine cl A (k78) ?_
    refine W 9 ?_
    refine cl A (k79) ?_
    refine W 5 ?_
    refine aw_draw 12 mo (by kernel_rfl) ?_
    refine WD 4 ?_
    refine dcl A (k24) ?_
    refine WD 3 ?_
    refine dcy A (k37) ?_
    refine WD 1 ?_
    refine dcl A (k36) ?_
    refine WD 1 ?_
    refine W 0 ?_
    refine ifn (fun c_51 c_51' => ?_) (fun c_51 c_51' => ?_)
    · skip
      refine W 17 ?_
      refine cy A (known_pure) ?_
      refine W 2 ?_
      exact retQ_pure (v := .raw _) rfl rfl J
    · skip
      first | exact absurd c_51 (by decide) | (exfalso; simp at c_51; done) | (exfalso; simp at c_51; omega) | (exfalso; simp_all; done) | (exfalso; simp_all; omega)
theorem reads_none {x : Sn} {sight : List (List UInt8)} (k34 : APure Tryz.prog 34 [figs x.l] (B true)) (k23 : APure Tryz.prog 23 [strs sight] (B true)) (k24 : APure Tryz.prog 24 [stA x.s] (B true)) (k37 : APure Tryz.prog 37 [stA x.s, strs sight] (B true)) (k36 : APure Tryz.prog 36 [stA x.s, figs x.l, rcA x.r, B true] (I 0)) {A : List Th} (k78 : APure Tryz.prog 78 [stA x.s, figs x.l, rcA x.r, strs sight] (.tup [rds A, I 0])) (k38 : APure Tryz.prog 38 [stA x.s, figs x.l, rcA x.r, strs sight] (rds A)) (k80 : APure Tryz.prog 80 [rds A, rds A] (B true)) (k79 : APure Tryz.prog 79 [stA x.s, figs x.l, rcA x.r, strs sight] (.tup [ints [], I 7])) (k81 : APure Tryz.prog 81 [stA x.s, figs x.l, rcA x.r, strs sight] (.tup [ints [], B false])) : APure Tryz.prog 19 [stA x.s, figs x.l, rcA x.r, strs sight] (B true) := by
  refine apure_of (rs := [.tmp 8]) Tryz.func19 rfl rfl (Nat.le_of_ble_eq_true rfl) (by simp [AV.pureL, AV.pureB, AV.pureE, pureE_map]) (by first | rfl | (simp [AV.pureL, AV.pureB, AV.pureE, pureE_map])) fun e0 he0 => ?_
  refine aw_seq (aw_region ?_)
  refine sq_box rfl J rfl (sq_box rfl J rfl (asr J rfl (sq_nil (aw_seq (aw_seq (aw_region ?_))))))
  first | refine mvs rfl J ?_ | refine sq_ev rfl (ev_mv (v := .own _ _ _) J) ?_ | refine mvr J rfl ?_ | refine sq_ev rfl (ev_mv (v := .slx _ _) J) ?_ | refine sq_ev rfl (ev_mv (v := .msl _ _ _ _) J) ?_
  refine sq_ev rfl (ev_call en34.h J (k34) ⟨J, trivial⟩) ?_
  refine sq_ev rfl (ev_not J) ?_
  refine mvr J rfl ?_
  first | refine ysl rfl rfl J rfl J ?_ | refine sq_yes rfl rfl J rfl (ev_mv (v := .own _ _ _) J) ?_ | refine ymr rfl rfl J rfl J ?_ | refine sq_yes rfl rfl J rfl (ev_mv (v := .slx _ _) J) ?_ | refine sq_yes rfl rfl J rfl (ev_mv (v := .msl _ _ _ _) J) ?_
  refine sq_yes rfl rfl J rfl (ev_call en23.h J (k23) ⟨J, trivial⟩) ?_
  refine sq_yes rfl rfl J rfl (ev_not J) ?_
  refine pf rfl J J (sq_nil ?_)
  refine aw_cond J (fun c_22 => ?_) (fun c_22 => ?_)
  · skip
    have c_22' := c_22
    try simp only [qq] at c_22'
    first | exact absurd c_22 (by decide) | (exfalso; simp at c_22; done) | (exfalso; simp at c_22; omega) | (exfalso; simp_all; done) | (exfalso; simp_all; omega)
  · skip
    have c_22' := c_22
    try simp only [qq] at c_22'
    refine aw_skip (aw_seq (aw_region ?_))
    first | refine sq_ev rfl (ev_load_agg J rfl ty23.h rfl) ?_ | refine sq_ev rfl (ev_load_agg_i J ty23.h (by exact Nat.le_of_ble_eq_true rfl)) ?_
    first | refine mvs rfl J ?_ | refine sq_ev rfl (ev_mv (v := .own _ _ _) J) ?_ | refine mvr J rfl ?_ | refine sq_ev rfl (ev_mv (v := .slx _ _) J) ?_ | refine sq_ev rfl (ev_mv (v := .msl _ _ _ _) J) ?_
    first | refine sq_ev rfl (ev_load_agg J rfl ty49.h rfl) ?_ | refine sq_ev rfl (ev_load_agg_i J ty49.h (by exact Nat.le_of_ble_eq_true rfl)) ?_
    first | refine mvs rfl J ?_ | refine sq_ev rfl (ev_mv (v := .own _ _ _) J) ?_ | refine mvr J rfl ?_ | refine sq_ev rfl (ev_mv (v := .slx _ _) J) ?_ | refine sq_ev rfl (ev_mv (v := .msl _ _ _ _) J) ?_
    refine sq_ev rfl (ev_call en78.h J (k78) ⟨J, J, J, J, trivial⟩) ?_
    refine sq_ev rfl (ev_mv (v := .tup _) J) ?_
    refine xtr rfl J rfl (xtr rfl J rfl ?_)
    first | refine ass rfl J ?_ | refine sq_ev rfl (ev_as (v := .own _ _ _) J) ?_ | refine asr J rfl ?_ | refine sq_ev rfl (ev_as (v := .slx _ _) J) ?_ | refine sq_ev rfl (ev_as (v := .msl _ _ _ _) J) ?_
    refine asr J rfl (sq_nil (aw_seq (aw_region ?_)))
    first | refine sq_ev rfl (ev_load_agg J rfl ty23.h rfl) ?_ | refine sq_ev rfl (ev_load_agg_i J ty23.h (by exact Nat.le_of_ble_eq_true rfl)) ?_
    first | refine mvs rfl J ?_ | refine sq_ev rfl (ev_mv (v := .own _ _ _) J) ?_ | refine mvr J rfl ?_ | refine sq_ev rfl (ev_mv (v := .slx _ _) J) ?_ | refine sq_ev rfl (ev_mv (v := .msl _ _ _ _) J) ?_
    first | refine sq_ev rfl (ev_load_agg J rfl ty49.h rfl) ?_ | refine sq_ev rfl (ev_load_agg_i J ty49.h (by exact Nat.le_of_ble_eq_true rfl)) ?_
    first | refine mvs rfl J ?_ | refine sq_ev rfl (ev_mv (v := .own _ _ _) J) ?_ | refine mvr J rfl ?_ | refine sq_ev rfl (ev_mv (v := .slx _ _) J) ?_ | refine sq_ev rfl (ev_mv (v := .msl _ _ _ _) J) ?_
    refine sq_ev rfl (ev_call en79.h J (k79) ⟨J, J, J, J, trivial⟩) ?_
    refine sq_ev rfl (ev_mv (v := .tup _) J) ?_
    refine xtr rfl J rfl (xtr rfl J rfl ?_)
    first | refine ass rfl J ?_ | refine sq_ev rfl (ev_as (v := .own _ _ _) J) ?_ | refine asr J rfl ?_ | refine sq_ev rfl (ev_as (v := .slx _ _) J) ?_ | refine sq_ev rfl (ev_as (v := .msl _ _ _ _) J) ?_
    refine asr J rfl (sq_nil (aw_seq (aw_seq ?_)))
    refine aw_draw 12 mo (by kernel_rfl) ?_
    first | refine dr_ev rfl (ev_load_agg J rfl ty23.h rfl) ?_ | refine dr_ev rfl (ev_load_agg_i J ty23.h (by exact Nat.le_of_ble_eq_true rfl)) ?_
    first | refine dr_ev rfl (ev_mv (v := .sl _ _) J) ?_ | refine dr_ev rfl (ev_mv (v := .own _ _ _) J) ?_ | refine dr_ev rfl (ev_mv (v := .raw _) J) ?_ | refine dr_ev rfl (ev_mv (v := .slx _ _) J) ?_ | refine dr_ev rfl (ev_mv (v := .msl _ _ _ _) J) ?_
    first | refine dr_ev rfl (ev_load_agg J rfl ty49.h rfl) ?_ | refine dr_ev rfl (ev_load_agg_i J ty49.h (by exact Nat.le_of_ble_eq_true rfl)) ?_
    first | refine dr_ev rfl (ev_load_agg J rfl ty23.h rfl) ?_ | refine dr_ev rfl (ev_load_agg_i J ty23.h (by exact Nat.le_of_ble_eq_true rfl)) ?_
    refine dr_ev rfl (ev_call en24.h J (k24) ⟨J, trivial⟩) ?_
    refine dr_ev rfl (ev_mv (v := .raw _) J) ?_
    first | refine dr_yes rfl rfl J rfl (ev_load_agg J rfl ty23.h rfl) ?_ | refine dr_yes rfl rfl J rfl (ev_load_agg_i J ty23.h (by exact Nat.le_of_ble_eq_true rfl)) ?_
    first | refine dr_yes rfl rfl J rfl (ev_mv (v := .sl _ _) J) ?_ | refine dr_yes rfl rfl J rfl (ev_mv (v := .own _ _ _) J) ?_ | refine dr_yes rfl rfl J rfl (ev_mv (v := .raw _) J) ?_ | refine dr_yes rfl rfl J rfl (ev_mv (v := .slx _ _) J) ?_ | refine dr_yes rfl rfl J rfl (ev_mv (v := .msl _ _ _ _) J) ?_
    refine dr_yes rfl rfl J rfl (ev_call en37.h J (k37) ⟨J, J, trivial⟩) ?_
    refine dr_ev rfl (ev_pickT (v := .raw _) J J) ?_
    refine dr_ev rfl (ev_call en36.h J (k36) ⟨J, J, J, J, trivial⟩) ?_
    refine dr_ev rfl (ev_neq J J) ?_
    refine dr_end (sq_nil ?_)
    refine aw_cond J (fun c_51 => ?_) (fun c_51 => ?_)
    · skip
      have c_51' := c_51
      try simp only [qq] at c_51'
      first | exact absurd c_51 (by decide) | (exfalso; simp at c_51; done) | (exfalso; simp at c_51; omega) | (exfalso; simp_all; done) | (exfalso; simp_all; omega)
    · skip
      have c_51' := c_51
      try simp only [qq] at c_51'
      refine aw_skip (aw_seq (aw_seq (aw_region (mvr J rfl (sq_ev rfl (ev_neq J J) ?_)))))
      refine mvr J rfl ?_
      first | refine ysl rfl rfl J rfl J ?_ | refine sq_yes rfl rfl J rfl (ev_mv (v := .own _ _ _) J) ?_ | refine ymr rfl rfl J rfl J ?_ | refine sq_yes rfl rfl J rfl (ev_mv (v := .slx _ _) J) ?_ | refine sq_yes rfl rfl J rfl (ev_mv (v := .msl _ _ _ _) J) ?_
      first | refine sq_yes rfl rfl J rfl (ev_load_agg J rfl ty23.h rfl) ?_ | refine sq_yes rfl rfl J rfl (ev_load_agg_i J ty23.h (by exact Nat.le_of_ble_eq_true rfl)) ?_
      first | refine ysl rfl rfl J rfl J ?_ | refine sq_yes rfl rfl J rfl (ev_mv (v := .own _ _ _) J) ?_ | refine ymr rfl rfl J rfl J ?_ | refine sq_yes rfl rfl J rfl (ev_mv (v := .slx _ _) J) ?_ | refine sq_yes rfl rfl J rfl (ev_mv (v := .msl _ _ _ _) J) ?_
      first | refine sq_yes rfl rfl J rfl (ev_load_agg J rfl ty49.h rfl) ?_ | refine sq_yes rfl rfl J rfl (ev_load_agg_i J ty49.h (by exact Nat.le_of_ble_eq_true rfl)) ?_
      first | refine ysl rfl rfl J rfl J ?_ | refine sq_yes rfl rfl J rfl (ev_mv (v := .own _ _ _) J) ?_ | refine ymr rfl rfl J rfl J ?_ | refine sq_yes rfl rfl J rfl (ev_mv (v := .slx _ _) J) ?_ | refine sq_yes rfl rfl J rfl (ev_mv (v := .msl _ _ _ _) J) ?_
      refine sq_yes rfl rfl J rfl (ev_call en38.h J (k38) ⟨J, J, J, J, trivial⟩) ?_
      refine sq_yes rfl rfl J rfl (ev_call en80.h J (k80) ⟨J, J, trivial⟩) ?_
      refine sq_yes rfl rfl J rfl (ev_not J) ?_
      refine pf rfl J J (sq_nil ?_)
      refine aw_cond J (fun c_82 => ?_) (fun c_82 => ?_)
      · skip
        have c_82' := c_82
        try simp only [qq] at c_82'
        first | exact absurd c_82 (by decide) | (exfalso; simp at c_82; done) | (exfalso; simp at c_82; omega) | (exfalso; simp_all; done) | (exfalso; simp_all; omega)
      · skip
        have c_82' := c_82
        try simp only [qq] at c_82'
        refine aw_skip (aw_seq (aw_region ?_))
        first | refine sq_ev rfl (ev_load_agg J rfl ty23.h rfl) ?_ | refine sq_ev rfl (ev_load_agg_i J ty23.h (by exact Nat.le_of_ble_eq_true rfl)) ?_
        first | refine mvs rfl J ?_ | refine sq_ev rfl (ev_mv (v := .own _ _ _) J) ?_ | refine mvr J rfl ?_ | refine sq_ev rfl (ev_mv (v := .slx _ _) J) ?_ | refine sq_ev rfl (ev_mv (v := .msl _ _ _ _) J) ?_
        first | refine sq_ev rfl (ev_load_agg J rfl ty49.h rfl) ?_ | refine sq_ev rfl (ev_load_agg_i J ty49.h (by exact Nat.le_of_ble_eq_true rfl)) ?_
        first | refine mvs rfl J ?_ | refine sq_ev rfl (ev_mv (v := .own _ _ _) J) ?_ | refine mvr J rfl ?_ | refine sq_ev rfl (ev_mv (v := .slx _ _) J) ?_ | refine sq_ev rfl (ev_mv (v := .msl _ _ _ _) J) ?_
        refine sq_ev rfl (ev_call en81.h J (k81) ⟨J, J, J, J, trivial⟩) ?_
        refine sq_ev rfl (ev_mv (v := .tup _) J) ?_
        refine xtr rfl J rfl (xtr rfl J rfl ?_)
        first | refine ass rfl J ?_ | refine sq_ev rfl (ev_as (v := .own _ _ _) J) ?_ | refine asr J rfl ?_ | refine sq_ev rfl (ev_as (v := .slx _ _) J) ?_ | refine sq_ev rfl (ev_as (v := .msl _ _ _ _) J) ?_
        refine asr J rfl (sq_nil (aw_seq (aw_seq (aw_region (mvr J rfl (sq_ev rfl (ev_not J) ?_))))))
        refine sq_nil ?_
        refine aw_cond J (fun c_92 => ?_) (fun c_92 => ?_)
        · skip
          have c_92' := c_92
          try simp only [qq] at c_92'
          refine aw_seq (aw_region (mvr J rfl (sq_ev rfl (ev_eql J J) ?_)))
          refine mvr J rfl ?_
          first | refine ysl rfl rfl J rfl J ?_ | refine sq_yes rfl rfl J rfl (ev_mv (v := .own _ _ _) J) ?_ | refine ymr rfl rfl J rfl J ?_ | refine sq_yes rfl rfl J rfl (ev_mv (v := .slx _ _) J) ?_ | refine sq_yes rfl rfl J rfl (ev_mv (v := .msl _ _ _ _) J) ?_
          first | refine sq_yes rfl rfl J rfl (ev_len_map sl117.h J) ?_ | refine sq_yes rfl rfl J rfl (ev_len_map sl117.h (less_own _ _ _)) ?_ | refine sq_yes rfl rfl J rfl (ev_len sl117.h J rfl) ?_ | refine sq_yes rfl rfl J rfl (ev_len sl117.h (less_own _ _ _) rfl) ?_ | refine sq_yes rfl rfl J rfl (ev_len sl117.h (less_nil _) rfl) ?_ | refine sq_yes rfl rfl J rfl (ev_len_msl sl117.h J) ?_ | refine sq_yes rfl rfl J rfl (ev_len sl117.h (less_slx _ _) rfl) ?_
          refine sq_yes rfl rfl J rfl (ev_eql J J) ?_
          refine sq_ev rfl (ev_pickT (v := .raw _) J J) ?_
          refine mvr J rfl (sq_yes rfl rfl J rfl (ev_call en27.h J (known_pure) trivial) ?_)
          refine sq_ev rfl (ev_pickT (v := .raw _) J J) ?_
          refine asr J rfl (sq_nil (aw_ret ?_))
          exact retQ_pure (v := .raw _) rfl rfl J
        · skip
          have c_92' := c_92
          try simp only [qq] at c_92'
          first | exact absurd c_92 (by decide) | (exfalso; simp at c_92; done) | (exfalso; simp at c_92; omega) | (exfalso; simp_all; done) | (exfalso; simp_all; omega)
theorem reads_some {x : Sn} {sight : List (List UInt8)} (k34 : APure Tryz.prog 34 [figs x.l] (B true)) (k23 : APure Tryz.prog 23 [strs sight] (B true)) (k24 : APure Tryz.prog 24 [stA x.s] (B true)) (k37 : APure Tryz.prog 37 [stA x.s, strs sight] (B true)) (k36 : APure Tryz.prog 36 [stA x.s, figs x.l, rcA x.r, B true] (I 0)) {A : List Th} (k78 : APure Tryz.prog 78 [stA x.s, figs x.l, rcA x.r, strs sight] (.tup [rds A, I 0])) (k38 : APure Tryz.prog 38 [stA x.s, figs x.l, rcA x.r, strs sight] (rds A)) (k80 : APure Tryz.prog 80 [rds A, rds A] (B true)) {V : List Int} (k79 : APure Tryz.prog 79 [stA x.s, figs x.l, rcA x.r, strs sight] (.tup [ints V, I 0])) (k81 : APure Tryz.prog 81 [stA x.s, figs x.l, rcA x.r, strs sight] (.tup [ints V, B true])) (k82 : APure Tryz.prog 82 [ints V, ints V] (B true)) : APure Tryz.prog 19 [stA x.s, figs x.l, rcA x.r, strs sight] (B true) := by
  refine apure_of (rs := [.tmp 8]) Tryz.func19 rfl rfl (Nat.le_of_ble_eq_true rfl) (by simp [AV.pureL, AV.pureB, AV.pureE, pureE_map]) (by first | rfl | (simp [AV.pureL, AV.pureB, AV.pureE, pureE_map])) fun e0 he0 => ?_
  refine aw_seq (aw_region ?_)
  refine sq_box rfl J rfl (sq_box rfl J rfl (asr J rfl (sq_nil (aw_seq (aw_seq (aw_region ?_))))))
  first | refine mvs rfl J ?_ | refine sq_ev rfl (ev_mv (v := .own _ _ _) J) ?_ | refine mvr J rfl ?_ | refine sq_ev rfl (ev_mv (v := .slx _ _) J) ?_ | refine sq_ev rfl (ev_mv (v := .msl _ _ _ _) J) ?_
  refine sq_ev rfl (ev_call en34.h J (k34) ⟨J, trivial⟩) ?_
  refine sq_ev rfl (ev_not J) ?_
  refine mvr J rfl ?_
  first | refine ysl rfl rfl J rfl J ?_ | refine sq_yes rfl rfl J rfl (ev_mv (v := .own _ _ _) J) ?_ | refine ymr rfl rfl J rfl J ?_ | refine sq_yes rfl rfl J rfl (ev_mv (v := .slx _ _) J) ?_ | refine sq_yes rfl rfl J rfl (ev_mv (v := .msl _ _ _ _) J) ?_
  refine sq_yes rfl rfl J rfl (ev_call en23.h J (k23) ⟨J, trivial⟩) ?_
  refine sq_yes rfl rfl J rfl (ev_not J) ?_
  refine pf rfl J J (sq_nil ?_)
  refine aw_cond J (fun c_22 => ?_) (fun c_22 => ?_)
  · skip
    have c_22' := c_22
    try simp only [qq] at c_22'
    first | exact absurd c_22 (by decide) | (exfalso; simp at c_22; done) | (exfalso; simp at c_22; omega) | (exfalso; simp_all; done) | (exfalso; simp_all; omega)
  · skip
    have c_22' := c_22
    try simp only [qq] at c_22'
    refine aw_skip (aw_seq (aw_region ?_))
    first | refine sq_ev rfl (ev_load_agg J rfl ty23.h rfl) ?_ | refine sq_ev rfl (ev_load_agg_i J ty23.h (by exact Nat.le_of_ble_eq_true rfl)) ?_
    first | refine mvs rfl J ?_ | refine sq_ev rfl (ev_mv (v := .own _ _ _) J) ?_ | refine mvr J rfl ?_ | refine sq_ev rfl (ev_mv (v := .slx _ _) J) ?_ | refine sq_ev rfl (ev_mv (v := .msl _ _ _ _) J) ?_
    first | refine sq_ev rfl (ev_load_agg J rfl ty49.h rfl) ?_ | refine sq_ev rfl (ev_load_agg_i J ty49.h (by exact Nat.le_of_ble_eq_true rfl)) ?_
    first | refine mvs rfl J ?_ | refine sq_ev rfl (ev_mv (v := .own _ _ _) J) ?_ | refine mvr J rfl ?_ | refine sq_ev rfl (ev_mv (v := .slx _ _) J) ?_ | refine sq_ev rfl (ev_mv (v := .msl _ _ _ _) J) ?_
    refine sq_ev rfl (ev_call en78.h J (k78) ⟨J, J, J, J, trivial⟩) ?_
    refine sq_ev rfl (ev_mv (v := .tup _) J) ?_
    refine xtr rfl J rfl (xtr rfl J rfl ?_)
    first | refine ass rfl J ?_ | refine sq_ev rfl (ev_as (v := .own _ _ _) J) ?_ | refine asr J rfl ?_ | refine sq_ev rfl (ev_as (v := .slx _ _) J) ?_ | refine sq_ev rfl (ev_as (v := .msl _ _ _ _) J) ?_
    refine asr J rfl (sq_nil (aw_seq (aw_region ?_)))
    first | refine sq_ev rfl (ev_load_agg J rfl ty23.h rfl) ?_ | refine sq_ev rfl (ev_load_agg_i J ty23.h (by exact Nat.le_of_ble_eq_true rfl)) ?_
    first | refine mvs rfl J ?_ | refine sq_ev rfl (ev_mv (v := .own _ _ _) J) ?_ | refine mvr J rfl ?_ | refine sq_ev rfl (ev_mv (v := .slx _ _) J) ?_ | refine sq_ev rfl (ev_mv (v := .msl _ _ _ _) J) ?_
    first | refine sq_ev rfl (ev_load_agg J rfl ty49.h rfl) ?_ | refine sq_ev rfl (ev_load_agg_i J ty49.h (by exact Nat.le_of_ble_eq_true rfl)) ?_
    first | refine mvs rfl J ?_ | refine sq_ev rfl (ev_mv (v := .own _ _ _) J) ?_ | refine mvr J rfl ?_ | refine sq_ev rfl (ev_mv (v := .slx _ _) J) ?_ | refine sq_ev rfl (ev_mv (v := .msl _ _ _ _) J) ?_
    refine sq_ev rfl (ev_call en79.h J (k79) ⟨J, J, J, J, trivial⟩) ?_
    refine sq_ev rfl (ev_mv (v := .tup _) J) ?_
    refine xtr rfl J rfl (xtr rfl J rfl ?_)
    first | refine ass rfl J ?_ | refine sq_ev rfl (ev_as (v := .own _ _ _) J) ?_ | refine asr J rfl ?_ | refine sq_ev rfl (ev_as (v := .slx _ _) J) ?_ | refine sq_ev rfl (ev_as (v := .msl _ _ _ _) J) ?_
    refine asr J rfl (sq_nil (aw_seq (aw_seq ?_)))
    refine aw_draw 12 mo (by kernel_rfl) ?_
    first | refine dr_ev rfl (ev_load_agg J rfl ty23.h rfl) ?_ | refine dr_ev rfl (ev_load_agg_i J ty23.h (by exact Nat.le_of_ble_eq_true rfl)) ?_
    first | refine dr_ev rfl (ev_mv (v := .sl _ _) J) ?_ | refine dr_ev rfl (ev_mv (v := .own _ _ _) J) ?_ | refine dr_ev rfl (ev_mv (v := .raw _) J) ?_ | refine dr_ev rfl (ev_mv (v := .slx _ _) J) ?_ | refine dr_ev rfl (ev_mv (v := .msl _ _ _ _) J) ?_
    first | refine dr_ev rfl (ev_load_agg J rfl ty49.h rfl) ?_ | refine dr_ev rfl (ev_load_agg_i J ty49.h (by exact Nat.le_of_ble_eq_true rfl)) ?_
    first | refine dr_ev rfl (ev_load_agg J rfl ty23.h rfl) ?_ | refine dr_ev rfl (ev_load_agg_i J ty23.h (by exact Nat.le_of_ble_eq_true rfl)) ?_
    refine dr_ev rfl (ev_call en24.h J (k24) ⟨J, trivial⟩) ?_
    refine dr_ev rfl (ev_mv (v := .raw _) J) ?_
    first | refine dr_yes rfl rfl J rfl (ev_load_agg J rfl ty23.h rfl) ?_ | refine dr_yes rfl rfl J rfl (ev_load_agg_i J ty23.h (by exact Nat.le_of_ble_eq_true rfl)) ?_
    first | refine dr_yes rfl rfl J rfl (ev_mv (v := .sl _ _) J) ?_ | refine dr_yes rfl rfl J rfl (ev_mv (v := .own _ _ _) J) ?_ | refine dr_yes rfl rfl J rfl (ev_mv (v := .raw _) J) ?_ | refine dr_yes rfl rfl J rfl (ev_mv (v := .slx _ _) J) ?_ | refine dr_yes rfl rfl J rfl (ev_mv (v := .msl _ _ _ _) J) ?_
    refine dr_yes rfl rfl J rfl (ev_call en37.h J (k37) ⟨J, J, trivial⟩) ?_
    refine dr_ev rfl (ev_pickT (v := .raw _) J J) ?_
    refine dr_ev rfl (ev_call en36.h J (k36) ⟨J, J, J, J, trivial⟩) ?_
    refine dr_ev rfl (ev_neq J J) ?_
    refine dr_end (sq_nil ?_)
    refine aw_cond J (fun c_51 => ?_) (fun c_51 => ?_)
    · skip
      have c_51' := c_51
      try simp only [qq] at c_51'
      first | exact absurd c_51 (by decide) | (exfalso; simp at c_51; done) | (exfalso; simp at c_51; omega) | (exfalso; simp_all; done) | (exfalso; simp_all; omega)
    · skip
      have c_51' := c_51
      try simp only [qq] at c_51'
      refine aw_skip (aw_seq (aw_seq (aw_region (mvr J rfl (sq_ev rfl (ev_neq J J) ?_)))))
      refine mvr J rfl ?_
      first | refine ysl rfl rfl J rfl J ?_ | refine sq_yes rfl rfl J rfl (ev_mv (v := .own _ _ _) J) ?_ | refine ymr rfl rfl J rfl J ?_ | refine sq_yes rfl rfl J rfl (ev_mv (v := .slx _ _) J) ?_ | refine sq_yes rfl rfl J rfl (ev_mv (v := .msl _ _ _ _) J) ?_
      first | refine sq_yes rfl rfl J rfl (ev_load_agg J rfl ty23.h rfl) ?_ | refine sq_yes rfl rfl J rfl (ev_load_agg_i J ty23.h (by exact Nat.le_of_ble_eq_true rfl)) ?_
      first | refine ysl rfl rfl J rfl J ?_ | refine sq_yes rfl rfl J rfl (ev_mv (v := .own _ _ _) J) ?_ | refine ymr rfl rfl J rfl J ?_ | refine sq_yes rfl rfl J rfl (ev_mv (v := .slx _ _) J) ?_ | refine sq_yes rfl rfl J rfl (ev_mv (v := .msl _ _ _ _) J) ?_
      first | refine sq_yes rfl rfl J rfl (ev_load_agg J rfl ty49.h rfl) ?_ | refine sq_yes rfl rfl J rfl (ev_load_agg_i J ty49.h (by exact Nat.le_of_ble_eq_true rfl)) ?_
      first | refine ysl rfl rfl J rfl J ?_ | refine sq_yes rfl rfl J rfl (ev_mv (v := .own _ _ _) J) ?_ | refine ymr rfl rfl J rfl J ?_ | refine sq_yes rfl rfl J rfl (ev_mv (v := .slx _ _) J) ?_ | refine sq_yes rfl rfl J rfl (ev_mv (v := .msl _ _ _ _) J) ?_
      refine sq_yes rfl rfl J rfl (ev_call en38.h J (k38) ⟨J, J, J, J, trivial⟩) ?_
      refine sq_yes rfl rfl J rfl (ev_call en80.h J (k80) ⟨J, J, trivial⟩) ?_
      refine sq_yes rfl rfl J rfl (ev_not J) ?_
      refine pf rfl J J (sq_nil ?_)
      refine aw_cond J (fun c_82 => ?_) (fun c_82 => ?_)
      · skip
        have c_82' := c_82
        try simp only [qq] at c_82'
        first | exact absurd c_82 (by decide) | (exfalso; simp at c_82; done) | (exfalso; simp at c_82; omega) | (exfalso; simp_all; done) | (exfalso; simp_all; omega)
      · skip
        have c_82' := c_82
        try simp only [qq] at c_82'
        refine aw_skip (aw_seq (aw_region ?_))
        first | refine sq_ev rfl (ev_load_agg J rfl ty23.h rfl) ?_ | refine sq_ev rfl (ev_load_agg_i J ty23.h (by exact Nat.le_of_ble_eq_true rfl)) ?_
        first | refine mvs rfl J ?_ | refine sq_ev rfl (ev_mv (v := .own _ _ _) J) ?_ | refine mvr J rfl ?_ | refine sq_ev rfl (ev_mv (v := .slx _ _) J) ?_ | refine sq_ev rfl (ev_mv (v := .msl _ _ _ _) J) ?_
        first | refine sq_ev rfl (ev_load_agg J rfl ty49.h rfl) ?_ | refine sq_ev rfl (ev_load_agg_i J ty49.h (by exact Nat.le_of_ble_eq_true rfl)) ?_
        first | refine mvs rfl J ?_ | refine sq_ev rfl (ev_mv (v := .own _ _ _) J) ?_ | refine mvr J rfl ?_ | refine sq_ev rfl (ev_mv (v := .slx _ _) J) ?_ | refine sq_ev rfl (ev_mv (v := .msl _ _ _ _) J) ?_
        refine sq_ev rfl (ev_call en81.h J (k81) ⟨J, J, J, J, trivial⟩) ?_
        refine sq_ev rfl (ev_mv (v := .tup _) J) ?_
        refine xtr rfl J rfl (xtr rfl J rfl ?_)
        first | refine ass rfl J ?_ | refine sq_ev rfl (ev_as (v := .own _ _ _) J) ?_ | refine asr J rfl ?_ | refine sq_ev rfl (ev_as (v := .slx _ _) J) ?_ | refine sq_ev rfl (ev_as (v := .msl _ _ _ _) J) ?_
        refine asr J rfl (sq_nil (aw_seq (aw_seq (aw_region (mvr J rfl (sq_ev rfl (ev_not J) ?_))))))
        refine sq_nil ?_
        refine aw_cond J (fun c_92 => ?_) (fun c_92 => ?_)
        · skip
          have c_92' := c_92
          try simp only [qq] at c_92'
          first | exact absurd c_92 (by decide) | (exfalso; simp at c_92; done) | (exfalso; simp at c_92; omega) | (exfalso; simp_all; done) | (exfalso; simp_all; omega)
        · skip
          have c_92' := c_92
          try simp only [qq] at c_92'
          refine aw_skip (aw_seq (aw_region (mvr J rfl (sq_ev rfl (ev_eql J J) ?_))))
          refine mvr J rfl ?_
          first | refine ysl rfl rfl J rfl J ?_ | refine sq_yes rfl rfl J rfl (ev_mv (v := .own _ _ _) J) ?_ | refine ymr rfl rfl J rfl J ?_ | refine sq_yes rfl rfl J rfl (ev_mv (v := .slx _ _) J) ?_ | refine sq_yes rfl rfl J rfl (ev_mv (v := .msl _ _ _ _) J) ?_
          first | refine ysl rfl rfl J rfl J ?_ | refine sq_yes rfl rfl J rfl (ev_mv (v := .own _ _ _) J) ?_ | refine ymr rfl rfl J rfl J ?_ | refine sq_yes rfl rfl J rfl (ev_mv (v := .slx _ _) J) ?_ | refine sq_yes rfl rfl J rfl (ev_mv (v := .msl _ _ _ _) J) ?_
          refine sq_yes rfl rfl J rfl (ev_call en82.h J (k82) ⟨J, J, trivial⟩) ?_
          refine sq_ev rfl (ev_pickT (v := .raw _) J J) ?_
          refine mvr J rfl (sq_yes rfl rfl J rfl (ev_call en27.h J (known_pure) trivial) ?_)
          refine sq_ev rfl (ev_pickT (v := .raw _) J J) ?_
          refine asr J rfl (sq_nil (aw_ret ?_))
          exact retQ_pure (v := .raw _) rfl rfl J
/-- **OutlineReads.** -/
theorem law19 (x : Sn) (sight : List (List UInt8)) : APure Tryz.prog 19 [stA x.s, figs x.l, rcA x.r, strs sight] (B true) := by
  cases hg : (fewB x.l && shortB sight) with
  | false => exact reads_gate x sight hg
  | true =>
    obtain ⟨hfew, hsh⟩ := gate_bool hg
    have hsz := fewB_sz hfew
    have hl : x.l.length ≤ 1000000 := by omega
    have hshp := shortB_shp hsh
    have k34 : APure Tryz.prog 34 [figs x.l] (B true) := by have := few_pure x.l; rwa [hfew] at this
    have k23 : APure Tryz.prog 23 [strs sight] (B true) := by have := short_pure sight; rwa [hsh] at this
    have k24 := rstage_pure x.s
    have k37 := rsight_pure x.s sight hshp
    have k78 := reads_pure x sight hl hshp
    have k79 := who_pure x sight hl hshp
    cases hst : stOK x.s with
    | false =>
      have hx : snOK x = false := by unfold snOK; rw [hst]; rfl
      have ho : askOK x sight = false := by unfold askOK; rw [hx]; rfl
      have k36 := asked_pure x false
      unfold askE at k36
      rw [hx] at k36
      rw [hst] at k24
      unfold whoL whoE at k79
      simp only [ho, Bool.false_eq_true, if_false, false_and, show er false = 2 from rfl] at k78 k79
      exact reads_bad0 k34 k23 k24 k36 k78 k79
    | true =>
      rw [hst] at k24
      cases ho : askOK x sight with
      | false =>
        have k36 := asked_pure x (siOK x.s sight)
        unfold askE at k36
        unfold askOK at ho
        rw [ho] at k36
        have ho : askOK x sight = false := ho
        unfold whoL whoE at k79
        simp only [ho, Bool.false_eq_true, if_false, false_and, show er false = 2 from rfl] at k78 k79
        exact reads_bad1 k34 k23 k24 k37 k36 k78 k79
      | true =>
        have ho' := ho
        unfold askOK at ho'
        obtain ⟨hx, hsi⟩ := gate_bool ho'
        have hclo := sight_clo hst hsi
        rw [hsi] at k37
        have k36 := asked_pure x true
        rw [askE_0.2 ⟨hx, rfl⟩] at k36
        simp only [ho, if_true, show er true = 0 from rfl] at k78
        have k38 := rreads_pure hx hclo
        have hal : (agrees x sight).length ≤ 1000000 := by have := agrees_len (sight := sight) hx; omega
        have k80 := rsamer_pure ((agrees x sight).map fun t => (⟨t.rd.fig, t.rd.p⟩ : Rz)) ((agrees x sight).map fun t => (⟨t.rd.fig, t.rd.p⟩ : Rz)) (by rw [List.length_map]; exact hal) (by rw [List.length_map]; exact hal)
        rw [← rds_rz, decide_eq_true rfl] at k80
        have k81 := rwho_pure hx hclo
        cases hany : anyOK x sight with
        | false =>
          have he : agrees x sight = [] := by unfold anyOK at hany; exact List.length_eq_zero_iff.1 (by simpa using hany)
          have h0 : lenS (agrees x sight) = 0 := by rw [he]; rfl
          unfold whoL whoE at k79
          unfold rwhoL at k81
          rw [decide_eq_true h0, if_pos h0] at k81
          simp only [ho, hany, if_true, Bool.false_eq_true, if_false, and_false] at k79
          exact reads_none k34 k23 k24 k37 k36 k78 k38 k80 k79 k81
        | true =>
          have hpos : 0 < (agrees x sight).length := by unfold anyOK at hany; simpa using hany
          have h0 : ¬ lenS (agrees x sight) = 0 := by have := lenS_pos hpos; omega
          unfold whoL whoE at k79
          unfold rwhoL at k81
          rw [decide_eq_false h0, if_neg h0] at k81
          simp only [ho, hany, if_true, and_self] at k79
          have hwl : (whoOf x sight).length ≤ 1000000 := by unfold whoOf; simp; omega
          have k82 := sameW_pure (whoOf x sight) (whoOf x sight) hwl hwl
          rw [decide_eq_true rfl] at k82
          exact reads_some k34 k23 k24 k37 k36 k78 k38 k80 k79 k81 k82
end Go.Proofs.YtmbknoaneglilaaGreatDoor
