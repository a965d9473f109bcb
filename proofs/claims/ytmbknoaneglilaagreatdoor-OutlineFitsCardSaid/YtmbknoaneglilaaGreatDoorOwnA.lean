/-
  A part of the proof: conditions: none beyond each theorem's own.
-/
import Derived.Test.YtmbknoaneglilaaGreatDoorLogicA
import Derived.Test.YtmbknoaneglilaaGreatDoorLogicD
import Derived.Laws.Small
import Derived.Deep.Slices
import Derived.OpenShut
import Derived.Carry
import Derived.Test.YtmbknoaneglilaaGreatDoorSpecA
import Derived.KernelRfl
import Derived.Lib.LaidTab
import Derived.Lib.ItoaNum
import Derived.Test.YtmbknoaneglilaaGreatDoorProg
import Derived.Test.YtmbknoaneglilaaGreatDoorLogicE
import Derived.Test.YtmbknoaneglilaaGreatDoorWalkA
import Derived.Test.YtmbknoaneglilaaGreatDoorWalkF
import Derived.Test.YtmbknoaneglilaaGreatDoorLogicB
import Derived.Test.YtmbknoaneglilaaGreatDoorLogicC
import Derived.Test.YtmbknoaneglilaaGreatDoorShelf
import Derived.Test.YtmbknoaneglilaaGreatDoorWalkB
import Derived.Test.YtmbknoaneglilaaGreatDoorWalkC
import Derived.Test.YtmbknoaneglilaaGreatDoorWalkD
import Derived.Test.YtmbknoaneglilaaGreatDoorWalkE
import Derived.Test.YtmbknoaneglilaaGreatDoorRow
set_option linter.all false
set_option maxRecDepth 100000
set_option maxHeartbeats 8000000
namespace Go.Ab
variable [Tabs]
theorem FW_room (r : Option Nat) (n : Nat) : (FW r).room n := fun _ h => by simp [FW] at h
variable {c : Ctx} {Q : AExit → St → Prop} {s : St}
theorem aw_less {code : Code} (sl' : List (Nat × AV)) (h : ∀ p ∈ sl', Less (sget s.sl p.1) p.2) (k : AWP c code Q { s with sl := sl' }) : AWP c code Q s := by
  intro e a hs
  exact k e a ⟨hs.size, fun t => get_less h t _ _ (hs.slots t), hs.defers, hs.H, hs.ok, hs.fr⟩
end Go.Ab
namespace Go.Ab
variable [Tabs]
section
variable {P : Program} {r : Option Nat} {H : List AObj} {ρ : Operand → AV}
variable {d : Option Tmp} {t : TypeId} {p : String} {af : Array Edge} {g : Option (Nat × Bool)} {x y : Operand}
theorem ev_bool2 {op : BinOp} {a b : Bool} {xt yt : TypeId} {v : AV} (hx : Less (ρ x) (.raw (.bool a))) (hy : Less (ρ y) (.raw (.bool b)))
    (hr : ∀ w e, ∃ u, (binOp op xt (.bool a) (.bool b)).run P w = .ok u w ∧ Rep e v u) : Ev P r ⟨d, .binOp op xt x y yt, t, p, af, g⟩ H ρ v :=
  Ev.pure (by intro c h; cases h) fun e ρc _ _ hs => by
    have e1 := rep_raw hx (hs x (by simp [Op.operands]))
    have e2 := rep_raw hy (hs y (by simp [Op.operands]))
    obtain ⟨u, h1, h2⟩ := hr e.w e
    refine ⟨u, ?_, h2⟩
    have hg : (eqGuard op xt x y (.bool a) (.bool b)).run P e.w = .ok () e.w := by
      unfold eqGuard; split <;> simp
    simp [execOp, e1, e2, hg, h1]
theorem ev_eqlB {a b : Bool} {xt yt : TypeId} (ht : P.underlying xt = some .bool) (hx : Less (ρ x) (.raw (.bool a))) (hy : Less (ρ y) (.raw (.bool b))) :
    Ev P r ⟨d, .binOp .eql xt x y yt, t, p, af, g⟩ H ρ (.raw (.bool (a == b))) :=
  ev_bool2 hx hy fun w e => ⟨_, run_eql_bool w xt a b ht, by rw [Rep]⟩
end
end Go.Ab
namespace Go.Ab
open Go.ChangeShapes Go.WideShapes
variable [Tabs]
theorem env0_ok {w : World} (h : Tabs.is w) (hb : ∀ b, Tabs.blk b → b < w.heap.size) : EnvOK (env0 w) :=
  ⟨fun b hb => by have hb' : w.heap.size ≤ b := hb
                  have : w.heap[b]? = none := by simpa using hb'
                  simp [env0, this], fun i o h => by simp [env0] at h, fun i j b hi => by simp [env0] at hi, fun i b hi => by simp [env0] at hi, h, fun b hk => ⟨hb b hk, fun i hi => by simp [env0] at hi⟩⟩
section
variable {H : Type} {enc : TypeId × Value → H} {P : Program} {w : World} {base : Nat} {spare : Nat → Bool} {held : Bool}
theorem trodAll_stays (hl : laidOutB P = true) {W W' : World} (hheap : ∀ b, b < W.heap.size → W'.heap[b]? = W.heap[b]?) {sp' : Nat → Bool} :
    ∀ {ts : List TypeId} {vs : List Value} {ds : List (DataW H)} {ps : List MemPlace}, (∀ t ∈ ts, P.readableRec t = true ∧ t < P.types.size) → DataW.TrodAll enc P W base (fun _ => true) true ts vs ds ps → (∀ p ∈ ps, p.block < W.heap.size) → (∀ p ∈ ps, sp' p.block = true) →
      DataW.TrodAll enc P W' base sp' true ts vs ds ps
  | [], _, _, _, _, h, _, _ => by
    obtain ⟨rfl, rfl, rfl⟩ := trodAll_nil h
    exact trodAll_mk0
  | t :: ts, _, _, _, ht, h, hlt, hs => by
    obtain ⟨v, vs1, d, ds1, a, b, rfl, rfl, rfl, h1, h2⟩ := trodAll_cons h
    refine trodAll_cons_mk (WideElems.Trod_stays hl (ht t (by simp)).1 (ht t (by simp)).2 h1 (fun p hp => ?_) (fun p hp => hs p (by simp [hp]))) (trodAll_stays hl hheap (fun u hu => ht u (List.mem_cons_of_mem _ hu)) h2 (fun p hp => hlt p (by simp [hp])) (fun p hp => hs p (by simp [hp])))
    have hb := hheap p.block (hlt p (by simp [hp]))
    cases p with
    | cell b o => exact cell?_of_heap hb
    | map b => exact hb
/-- **What a law's row asks of a call that returns true and leaves what it met.** -/
theorem post_true {f : Func} {s : ChangeSpec} {W W' : World} {args : Array Value} {ds gs : List (DataW H)} {before : List MemPlace} {tb : TypeId} (hl : laidOutB P = true) (hread : ∀ t ∈ f.params.toList, P.readableRec t = true ∧ t < P.types.size)
    (hres : f.resultTypes = #[tb]) (htb : P.underlying tb = some .bool) (hvars : s.vars = []) (hspec : (s.fn H ds).results = [.lit (.bool true)] ∧ (s.fn H ds).args = ds ∧ (s.fn H ds).vars = [])
    (hW : DataW.Whole enc P f.params.toList s.vars false W args.toList ds gs before) (hheap : ∀ b, b < W.heap.size → W'.heap[b]? = W.heap[b]?) (hst : Still W W') :
    s.post enc P f false true false false W args (.bool true) W' := by
  have hlt := hW.lt
  have hW0 := hW
  obtain ⟨p, q, h1, h2, rfl, _, _⟩ := hW
  rw [hvars] at h2
  obtain ⟨rfl, rfl⟩ := trodVars_none h2
  simp only [List.append_nil] at hlt
  obtain ⟨e1, e2, e3⟩ := hspec
  refine ⟨ds, [], p ++ [], [], p, [], hW0, ?_, ?_, ?_, ?_, fun h => by cases h⟩
  · rw [List.append_nil, e1, hres]
    exact trodAll_cons_mk (RowKit.shut_bool htb _) trodAll_mk0
  · rw [List.append_nil, e2]
    exact trodAll_stays hl hheap hread h1 hlt (fun p hp => by simpa using hlt p hp)
  · rw [List.append_nil, e3, hvars]; rfl
  · refine ⟨hst.1, hst.2, fun i hi => ?_⟩
    rw [hheap i hi]
    split <;> simp_all
theorem APure.law {f : FuncId} {args : List AV} {W : World} {vs : Array Value} (hc : APure P f args (.raw (.bool true))) (ht : Tabs.is W) (hb : ∀ b, Tabs.blk b → b < W.heap.size) (hr : RepL (env0 W) args vs.toList) :
    Calls P f vs W fun x W' => x = .returned (.bool true) ∧ (∀ b, b < W.heap.size → W'.heap[b]? = W.heap[b]?) ∧ Still W W' := by
  refine ((hc (env0 W) vs (env0_ok ht hb) hr).calls (fun k => FW_room none k)).mono ?_
  rintro x w' ⟨u, e', rfl, rfl, hx, hu⟩
  rw [Rep] at hu; subst hu
  exact ⟨rfl, hx.heap, hx.still⟩
end
end Go.Ab
namespace Ol
open Ni (inn)
theorem mts_ex {c : Ca} (hF : 0 < c.s.far) {e : Int × Int} (h : e.1 < e.2) : ∃ i, i ∈ rng (c.mts e).1 (c.mts e).2 := by
  refine ⟨e.1 / c.s.far, (mem_mts hF).2 ⟨?_, ?_⟩⟩
  · exact (floor_le hF).1 (Int.le_refl _)
  · have := Int.ediv_mul_le e.1 (show c.s.far ≠ 0 by omega); omega
theorem boxAll_iff {c : Ca} {h v : Int × Int} : c.boxAll h v = true ↔ ∀ m ∈ rng v.1 v.2, ∀ i ∈ rng h.1 h.2, c.hide m i = true := by
  unfold Ca.boxAll Ca.rowAll; simp only [List.all_eq_true]
theorem cell_35 {c : Ca} {k m : Int} : c.cell k m = 35 ↔ ∀ j ∈ rng (c.mts (c.dwn m)).1 (c.mts (c.dwn m)).2, ∀ i ∈ rng (c.mts (c.acr k)).1 (c.mts (c.acr k)).2, c.hide j i = true := by
  rw [← boxAll_iff]
  unfold Ca.cell Ca.cellAt
  by_cases h : c.boxAll (c.mts (c.acr k)) (c.mts (c.dwn m)) = true
  · rw [if_pos h]; exact ⟨fun _ => h, fun _ => rfl⟩
  · rw [if_neg h]
    refine ⟨fun e => ?_, fun e => absurd e h⟩
    split at e <;> cases e
theorem CaB.good {c : Ca} (h : CaB c) : Good c := by
  have h1 := h.st; have h2 := h.pc
  exact ⟨by omega, by omega, by omega, by omega⟩
theorem frm_step (c : Ca) (k axis edge : Int) : c.frm (k + 1) axis edge = c.frm k axis edge + (c.s.far - c.p.near) := by
  unfold Ca.frm
  rw [show k + 1 - axis = (k - axis) + 1 by omega, Int.add_mul]; omega
theorem acr_lt {c : Ca} (h : Good c) (k : Int) : (c.acr k).1 < (c.acr k).2 := by
  have := h.blur; have := h.near
  unfold Ca.acr; simp only; rw [frm_step]; omega
theorem dwn_lt {c : Ca} (h : Good c) (k : Int) : (c.dwn k).1 < (c.dwn k).2 := by
  have := h.blur; have := h.near
  unfold Ca.dwn; simp only; rw [frm_step]; omega
theorem cell_46 {c : Ca} (g : Good c) {k m : Int} : c.cell k m = 46 ↔ ∀ j ∈ rng (c.mts (c.dwn m)).1 (c.mts (c.dwn m)).2, ∀ i ∈ rng (c.mts (c.acr k)).1 (c.mts (c.acr k)).2, c.hide j i = false := by
  have hno : c.boxAny (c.mts (c.acr k)) (c.mts (c.dwn m)) = false ↔ ∀ j ∈ rng (c.mts (c.dwn m)).1 (c.mts (c.dwn m)).2, ∀ i ∈ rng (c.mts (c.acr k)).1 (c.mts (c.acr k)).2, c.hide j i = false := by
    unfold Ca.boxAny Ca.rowAny
    simp only [List.any_eq_false, Bool.not_eq_true]
  rw [← hno]
  unfold Ca.cell Ca.cellAt
  by_cases h : c.boxAll (c.mts (c.acr k)) (c.mts (c.dwn m)) = true
  · rw [if_pos h]
    obtain ⟨i, hi⟩ := mts_ex g.far (acr_lt g k)
    obtain ⟨j, hj⟩ := mts_ex g.far (dwn_lt g m)
    refine ⟨fun e => (by cases e), fun e => ?_⟩
    rw [hno] at e
    have h1 := boxAll_iff.1 h j hj i hi
    rw [e j hj i hi] at h1; cases h1
  · rw [if_neg h]
    cases hb : c.boxAny (c.mts (c.acr k)) (c.mts (c.dwn m)) with
    | true => rw [if_pos rfl]; exact ⟨fun e => (by cases e), fun e => (by cases e)⟩
    | false => rw [if_neg (by simp)]; exact ⟨fun _ => rfl, fun _ => rfl⟩
end Ol
namespace Ol
open Ni (inn)
theorem shadow_len (c : Ca) : c.shadow.length = c.s.high.toNat := by simp [Ca.shadow]
theorem shadow_wide {c : Ca} {r : List UInt8} (h : r ∈ c.shadow) : r.length = c.s.wide.toNat := by
  unfold Ca.shadow at h
  obtain ⟨m, _, rfl⟩ := List.mem_map.1 h
  simp [Ca.srow]
theorem cell_ch3 (c : Ca) (k m : Int) : c.cell k m = 35 ∨ c.cell k m = 43 ∨ c.cell k m = 46 := by
  unfold Ca.cell Ca.cellAt
  split
  · exact .inl rfl
  · split
    · exact .inr (.inl rfl)
    · exact .inr (.inr rfl)
end Ol
namespace Ol
open Ni (inn)
namespace Ca
def ln (c : Ca) (axis x : Int) : Int := axis * (c.s.far - c.p.near) + (x - axis) * c.s.far
def eR (c : Ca) (k : Int) : Int := (k + 1) * (c.s.far - c.p.near) + c.s.flame * c.p.near
def skp (c : Ca) (k m : Int) (j i : Nat) : Bool := decide (c.ln c.s.x (c.p.x + i) ≥ c.eR k) || (decide (c.ln c.s.x (c.p.x + i + 1) ≤ c.eL k) || (decide (c.ln c.s.y (c.p.y + j) ≥ c.eR m) || decide (c.ln c.s.y (c.p.y + j + 1) ≤ c.eL m)))
def chD (c : Ca) (j i : Nat) : Bool := decide ((c.f.getD j []).getD i 0 = 35)
def dk0 (c : Ca) (k m : Int) : Bool := decide (c.ln c.s.x c.p.x ≤ c.eL k) && (decide (c.ln c.s.x (c.p.x + (w0 c.f : Nat)) ≥ c.eR k) && (decide (c.ln c.s.y c.p.y ≤ c.eL m) && decide (c.ln c.s.y (c.p.y + (c.f.length : Nat)) ≥ c.eR m)))
def dkR (c : Ca) (k m : Int) (j n : Nat) : Bool := (List.range n).all fun i => c.skp k m j i || c.chD j i
def ltR (c : Ca) (k m : Int) (j n : Nat) : Bool := (List.range n).all fun i => c.skp k m j i || !c.chD j i
def dkA (c : Ca) (k m : Int) (n : Nat) : Bool := (List.range n).all fun j => c.dkR k m j (w0 c.f)
def ltA (c : Ca) (k m : Int) (n : Nat) : Bool := (List.range n).all fun j => c.ltR k m j (w0 c.f)
def shade (c : Ca) (k m : Int) : UInt8 := if (c.dk0 k m && c.dkA k m c.f.length) = true then 35 else if c.ltA k m c.f.length = true then 46 else 43
theorem dkR_succ (c : Ca) (k m : Int) (j n : Nat) : c.dkR k m j (n + 1) = (c.dkR k m j n && (c.skp k m j n || c.chD j n)) := by unfold dkR; rw [List.range_succ, List.all_append]; simp
theorem ltR_succ (c : Ca) (k m : Int) (j n : Nat) : c.ltR k m j (n + 1) = (c.ltR k m j n && (c.skp k m j n || !c.chD j n)) := by unfold ltR; rw [List.range_succ, List.all_append]; simp
theorem dkA_succ (c : Ca) (k m : Int) (n : Nat) : c.dkA k m (n + 1) = (c.dkA k m n && c.dkR k m n (w0 c.f)) := by unfold dkA; rw [List.range_succ, List.all_append]; simp
theorem ltA_succ (c : Ca) (k m : Int) (n : Nat) : c.ltA k m (n + 1) = (c.ltA k m n && c.ltR k m n (w0 c.f)) := by unfold ltA; rw [List.range_succ, List.all_append]; simp
theorem ln_R (c : Ca) (k a e i : Int) : c.ln a (e + i) ≥ c.eR k ↔ ¬ i * c.s.far < c.frm (k + 1) a e + c.blur := by
  unfold ln eR frm blur
  have q1 : (e + i - a) * c.s.far = (e - a) * c.s.far + i * c.s.far := by rw [show e + i - a = (e - a) + i by omega, Int.add_mul]
  have q2 : (a - e) * c.s.far = -((e - a) * c.s.far) := by rw [show a - e = -(e - a) by omega, Int.neg_mul]
  have q3 := Int.sub_mul (k + 1) a (c.s.far - c.p.near)
  omega
theorem ln_L (c : Ca) (k a e i : Int) : c.ln a (e + i) ≤ c.eL k ↔ ¬ c.frm k a e - c.blur < i * c.s.far := by
  unfold ln eL frm blur
  have q1 : (e + i - a) * c.s.far = (e - a) * c.s.far + i * c.s.far := by rw [show e + i - a = (e - a) + i by omega, Int.add_mul]
  have q2 : (a - e) * c.s.far = -((e - a) * c.s.far) := by rw [show a - e = -(e - a) by omega, Int.neg_mul]
  have q3 := Int.sub_mul k a (c.s.far - c.p.near)
  omega
theorem skp_iff {c : Ca} (hF : 0 < c.s.far) {k m : Int} {j i : Nat} : c.skp k m j i = false ↔ (i : Int) ∈ rng (c.mts (c.acr k)).1 (c.mts (c.acr k)).2 ∧ (j : Int) ∈ rng (c.mts (c.dwn m)).1 (c.mts (c.dwn m)).2 := by
  rw [mem_mts hF, mem_mts hF]
  unfold skp acr dwn
  simp only [Bool.or_eq_false_iff, decide_eq_false_iff_not, Int.add_assoc]
  rw [ln_R, ln_L, ln_R, ln_L]
  simp only [Decidable.not_not]
  constructor
  · rintro ⟨h1, h2, h3, h4⟩; exact ⟨⟨h2, h1⟩, h4, h3⟩
  · rintro ⟨⟨h2, h1⟩, h4, h3⟩; exact ⟨h1, h2, h3, h4⟩
theorem chD_hide {c : Ca} (B : CaB c) {j i : Nat} (hj : j < c.f.length) (hi : i < w0 c.f) : c.hide j i = c.chD j i := by
  have hw := B.row j hj
  rw [hide_in B hj (by omega)]
  unfold chD
  rw [getD_get hj, getD_get (by omega)]
theorem within_iff {F L R : Int} {n : Nat} (hF : 0 < F) (hLR : L < R) : (∀ i : Int, L < (i + 1) * F → i * F < R → 0 ≤ i ∧ i < n) ↔ (0 ≤ L ∧ R ≤ n * F) := by
  constructor
  · intro h
    constructor
    · apply Int.not_lt.1
      intro hl
      have h1 := Int.ediv_mul_le L (show F ≠ 0 by omega)
      have h2 := Int.lt_ediv_add_one_mul_self L hF
      have := (h (L / F) h2 (by omega)).1
      have h3 : L / F < 0 := Int.ediv_neg_of_neg_of_pos hl hF
      omega
    · apply Int.not_lt.1
      intro hl
      by_cases hm : L < (n + 1 : Int) * F
      · have := (h n hm hl).2; omega
      · have h1 := Int.ediv_mul_le L (show F ≠ 0 by omega)
        have h2 := Int.lt_ediv_add_one_mul_self L hF
        have := (h (L / F) h2 (by omega)).2
        have h3 : (n + 1 : Int) ≤ L / F := (Int.le_ediv_iff_mul_le hF).2 (by omega)
        omega
  · rintro ⟨h1, h2⟩ i h3 h4
    constructor
    · apply Int.not_lt.1
      intro hn
      have : (i + 1) * F ≤ 0 * F := Int.mul_le_mul_of_nonneg_right (by omega) (by omega)
      omega
    · apply Int.not_le.1
      intro hn
      have : (n : Int) * F ≤ i * F := Int.mul_le_mul_of_nonneg_right hn (by omega)
      omega
theorem dk0_iff {c : Ca} (B : CaB c) (k m : Int) : c.dk0 k m = true ↔ (∀ i ∈ rng (c.mts (c.acr k)).1 (c.mts (c.acr k)).2, 0 ≤ i ∧ i < (w0 c.f : Int)) ∧ ∀ j ∈ rng (c.mts (c.dwn m)).1 (c.mts (c.dwn m)).2, 0 ≤ j ∧ j < (c.f.length : Int) := by
  have g := B.good
  have e1 := within_iff (n := w0 c.f) g.far (acr_lt g k)
  have e2 := within_iff (n := c.f.length) g.far (dwn_lt g m)
  have r1 : (∀ i ∈ rng (c.mts (c.acr k)).1 (c.mts (c.acr k)).2, 0 ≤ i ∧ i < (w0 c.f : Int)) ↔ 0 ≤ (c.acr k).1 ∧ (c.acr k).2 ≤ (w0 c.f : Int) * c.s.far := by
    rw [← e1]
    exact ⟨fun h i a b => h i ((mem_mts g.far).2 ⟨a, b⟩), fun h i hi => h i ((mem_mts g.far).1 hi).1 ((mem_mts g.far).1 hi).2⟩
  have r2 : (∀ i ∈ rng (c.mts (c.dwn m)).1 (c.mts (c.dwn m)).2, 0 ≤ i ∧ i < (c.f.length : Int)) ↔ 0 ≤ (c.dwn m).1 ∧ (c.dwn m).2 ≤ (c.f.length : Int) * c.s.far := by
    rw [← e2]
    exact ⟨fun h i a b => h i ((mem_mts g.far).2 ⟨a, b⟩), fun h i hi => h i ((mem_mts g.far).1 hi).1 ((mem_mts g.far).1 hi).2⟩
  rw [r1, r2]
  unfold dk0
  simp only [Bool.and_eq_true, decide_eq_true_eq]
  have l1 := ln_L c k c.s.x c.p.x 0
  have l2 := ln_L c m c.s.y c.p.y 0
  rw [Int.add_zero, Int.zero_mul] at l1 l2
  rw [l1, l2, ln_R, ln_R]
  unfold acr dwn
  simp only [Int.not_lt]
  constructor
  · rintro ⟨a, b, c, d⟩; exact ⟨⟨a, b⟩, c, d⟩
  · rintro ⟨⟨a, b⟩, c, d⟩; exact ⟨a, b, c, d⟩
theorem shade_cell {c : Ca} (B : CaB c) (k m : Int) : c.shade k m = c.cell k m := by
  have g := B.good
  have hA : (c.dk0 k m && c.dkA k m c.f.length) = true ↔ c.cell k m = 35 := by
    rw [Bool.and_eq_true, dk0_iff B, cell_35]
    unfold dkA dkR
    simp only [List.all_eq_true, List.mem_range, Bool.or_eq_true]
    constructor
    · rintro ⟨⟨h1, h2⟩, h3⟩ j hj i hi
      obtain ⟨i', rfl⟩ : ∃ n : Nat, i = n := ⟨i.toNat, by have := h1 i hi; omega⟩
      obtain ⟨j', rfl⟩ : ∃ n : Nat, j = n := ⟨j.toNat, by have := h2 j hj; omega⟩
      have a1 := h1 _ hi; have a2 := h2 _ hj
      rw [chD_hide B (by omega) (by omega)]
      rcases h3 j' (by omega) i' (by omega) with h | h
      · rw [(skp_iff g.far).2 ⟨hi, hj⟩] at h; cases h
      · exact h
    · intro h
      obtain ⟨i0, hi0⟩ := mts_ex g.far (acr_lt g k)
      obtain ⟨j0, hj0⟩ := mts_ex g.far (dwn_lt g m)
      have inb : ∀ j i, c.hide j i = true → (0 ≤ j ∧ j < (c.f.length : Int)) ∧ (0 ≤ i ∧ i < (w0 c.f : Int)) := fun j i hh => by
        unfold hide inn at hh
        simp only [Bool.and_eq_true, decide_eq_true_eq] at hh
        omega
      refine ⟨⟨fun i hi => (inb _ _ (h j0 hj0 i hi)).2, fun j hj => (inb _ _ (h j hj i0 hi0)).1⟩, fun j hj i hi => ?_⟩
      cases hs : c.skp k m j i with
      | true => exact .inl rfl
      | false =>
        have := (skp_iff g.far).1 hs
        right; rw [← chD_hide B hj hi]; exact h _ this.2 _ this.1
  have hB : c.ltA k m c.f.length = true ↔ c.cell k m = 46 := by
    rw [cell_46 g]
    unfold ltA ltR
    simp only [List.all_eq_true, List.mem_range, Bool.or_eq_true, Bool.not_eq_true']
    constructor
    · intro h3 j hj i hi
      by_cases hin : (inn j 0 (c.f.length - 1) && inn i 0 ((w0 c.f : Int) - 1)) = true
      · have hin' := hin
        unfold inn at hin'
        simp only [Bool.and_eq_true, decide_eq_true_eq] at hin'
        obtain ⟨i', rfl⟩ : ∃ n : Nat, i = n := ⟨i.toNat, by omega⟩
        obtain ⟨j', rfl⟩ : ∃ n : Nat, j = n := ⟨j.toNat, by omega⟩
        rw [chD_hide B (by omega) (by omega)]
        rcases h3 j' (by omega) i' (by omega) with h | h
        · rw [(skp_iff g.far).2 ⟨hi, hj⟩] at h; cases h
        · exact h
      · exact hide_out (by simpa using hin)
    · intro h j hj i hi
      cases hs : c.skp k m j i with
      | true => exact .inl rfl
      | false =>
        have := (skp_iff g.far).1 hs
        right; rw [← chD_hide B hj hi]; exact h _ this.2 _ this.1
  unfold shade
  by_cases h1 : (c.dk0 k m && c.dkA k m c.f.length) = true
  · rw [if_pos h1, hA.1 h1]
  · rw [if_neg h1]
    by_cases h2 : c.ltA k m c.f.length = true
    · rw [if_pos h2, hB.1 h2]
    · rw [if_neg h2]
      rcases cell_ch3 c k m with e | e | e
      · exact absurd (hA.2 e) h1
      · exact e.symm
      · exact absurd (hB.2 e) h2
end Ca
end Ol
namespace Go.Proofs.YtmbknoaneglilaaGreatDoor
open Go Go.Ab Ni Ol
theorem rin_pure (n lo hi : Int) : APure Tryz.prog 89 [I n, I lo, I hi] (B (inn n lo hi)) := by
 refine apure_of (rs := [.tmp 6]) Tryz.func89 rfl rfl (Nat.le_of_ble_eq_true rfl) (by simp [AV.pureL, AV.pureB, AV.pureE, pureE_map]) (by first | rfl | (simp [AV.pureL, AV.pureB, AV.pureE, pureE_map])) fun e0 he0 => ?_
 refine W 5 ?_
 refine sq_split 10 J (fun g1 => ?_) (fun g1 => ?_)
 ·
  have g1' := g1
  try simp only [qq] at g1'
  refine W 5 ?_
  exact retQ_pure (v := .raw _) rfl rfl (Less.eq (by simp [inn, *]))
 have g1' := g1
 try simp only [qq] at g1'
 refine W 5 ?_
 exact retQ_pure (v := .raw _) rfl rfl (Less.eq (by simp [inn, *]))
theorem rstage_pure (s : Sg) : APure Tryz.prog 24 [stA s] (B (stOK s)) := by
 refine apure_of (rs := [.tmp 2]) Tryz.func24 rfl rfl (Nat.le_of_ble_eq_true rfl) (by simp [AV.pureL, AV.pureB, AV.pureE, pureE_map]) (by first | rfl | (simp [AV.pureL, AV.pureB, AV.pureE, pureE_map])) fun e0 he0 => ?_
 refine W 4 ?_
 refine cl A (rin_pure _ _ _) ?_
 refine W 1 ?_
 refine sq_split 6 J (fun g1 => ?_) (fun g1 => ?_)
 ·
  have g1' := g1
  try simp only [qq] at g1'
  refine W 2 ?_
  refine cy A (rin_pure _ _ _) ?_
  refine W 2 ?_
  refine sq_split 11 J (fun g2 => ?_) (fun g2 => ?_)
  ·
   have g2' := g2
   try simp only [qq] at g2'
   refine W 2 ?_
   refine cy A (rin_pure _ _ _) ?_
   refine W 2 ?_
   refine sq_split 16 J (fun g3 => ?_) (fun g3 => ?_)
   ·
    have g3' := g3
    try simp only [qq] at g3'
    refine W 2 ?_
    refine cy A (rin_pure _ _ _) ?_
    refine W 2 ?_
    refine sq_split 21 J (fun g4 => ?_) (fun g4 => ?_)
    ·
     have g4' := g4
     try simp only [qq] at g4'
     refine W 4 ?_
     refine cy A (rin_pure _ _ _) ?_
     refine W 2 ?_
     refine sq_split 28 J (fun g5 => ?_) (fun g5 => ?_)
     ·
      have g5' := g5
      try simp only [qq] at g5'
      refine W 4 ?_
      refine cy A (rin_pure _ _ _) ?_
      refine W 2 ?_
      exact retQ_pure (v := .raw _) rfl rfl (Less.eq (by simp [stOK, *]))
     have g5' := g5
     try simp only [qq] at g5'
     refine W 7 ?_
     exact retQ_pure (v := .raw _) rfl rfl (Less.eq (by simp [stOK, *]))
    have g4' := g4
    try simp only [qq] at g4'
    refine W 14 ?_
    exact retQ_pure (v := .raw _) rfl rfl (Less.eq (by simp [stOK, *]))
   have g3' := g3
   try simp only [qq] at g3'
   refine W 19 ?_
   exact retQ_pure (v := .raw _) rfl rfl (Less.eq (by simp [stOK, *]))
  have g2' := g2
  try simp only [qq] at g2'
  refine W 24 ?_
  exact retQ_pure (v := .raw _) rfl rfl (Less.eq (by simp [stOK, *]))
 have g1' := g1
 try simp only [qq] at g1'
 refine W 29 ?_
 exact retQ_pure (v := .raw _) rfl rfl (Less.eq (by simp [stOK, *]))
theorem rat_pure (x y : Int) : APure Tryz.prog 31 [I x, I y] (B (awayOK x && awayOK y)) := by
 refine apure_of (rs := [.tmp 4]) Tryz.func31 rfl rfl (Nat.le_of_ble_eq_true rfl) (by simp [AV.pureL, AV.pureB, AV.pureE, pureE_map]) (by first | rfl | (simp [AV.pureL, AV.pureB, AV.pureE, pureE_map])) fun e0 he0 => ?_
 refine W 2 ?_
 refine cl A (rin_pure _ _ _) ?_
 refine W 1 ?_
 refine sq_split 7 J (fun g1 => ?_) (fun g1 => ?_)
 ·
  have g1' := g1
  try simp only [qq] at g1'
  refine W 1 ?_
  refine cy A (rin_pure _ _ _) ?_
  refine W 2 ?_
  exact retQ_pure (v := .raw _) rfl rfl (Less.eq (by simp [awayOK, *]))
 have g1' := g1
 try simp only [qq] at g1'
 refine W 4 ?_
 exact retQ_pure (v := .raw _) rfl rfl (Less.eq (by simp [awayOK, *]))
theorem rplace_pure (s : Sg) (p : Pc) (h : 2 ≤ s.far ∧ s.far ≤ 40) : APure Tryz.prog 26 [stA s, pcA p] (B (pcOK s p)) := by
 refine apure_of (rs := [.tmp 4]) Tryz.func26 rfl rfl (Nat.le_of_ble_eq_true rfl) (by simp [AV.pureL, AV.pureB, AV.pureE, pureE_map]) (by first | rfl | (simp [AV.pureL, AV.pureB, AV.pureE, pureE_map])) fun e0 he0 => ?_
 refine W 8 ?_
 refine cl A (rin_pure _ _ _) ?_
 refine W 1 ?_
 refine sq_split 11 J (fun g1 => ?_) (fun g1 => ?_)
 ·
  have g1' := g1
  try simp only [qq] at g1'
  refine W 4 ?_
  refine cy A (rat_pure _ _) ?_
  refine W 2 ?_
  exact retQ_pure (v := .raw _) rfl rfl (Less.eq (by simp [pcOK, Bool.and_assoc, *]))
 have g1' := g1
 try simp only [qq] at g1'
 refine W 7 ?_
 exact retQ_pure (v := .raw _) rfl rfl (Less.eq (by simp [pcOK, Bool.and_assoc, *]))
end Go.Proofs.YtmbknoaneglilaaGreatDoor
namespace Go.Proofs.YtmbknoaneglilaaGreatDoor
open Go Go.Ab Ni Ol
theorem ch_ok {c : UInt8} (h : (c.toNat : Int) = 35 ∨ (c.toNat : Int) = 46) : chOK c = true := by
  unfold chOK; simp only [decide_eq_true_eq]
  exact h.imp (fun h => UInt8.toNat_inj.1 (by show c.toNat = 35; omega)) (fun h => UInt8.toNat_inj.1 (by show c.toNat = 46; omega))
theorem ch_no {c : UInt8} (h : (c.toNat : Int) ≠ 35) (k : (c.toNat : Int) ≠ 46) : chOK c = false := by
  rw [Bool.eq_false_iff]; intro ho; unfold chOK at ho; simp only [decide_eq_true_eq] at ho
  rcases ho with e | e <;> (subst e; first | exact h rfl | exact k rfl)
theorem rfigure_pure (f : Fg) : APure Tryz.prog 25 [fgA f] (B (fgOK f)) := by
  refine apure_of (rs := [.tmp 2]) Tryz.func25 rfl rfl (Nat.le_of_ble_eq_true rfl) (by simp [AV.pureL, AV.pureB, AV.pureE, pureE_map]) (by first | rfl | (simp [AV.pureL, AV.pureB, AV.pureE, pureE_map])) fun e0 he0 => ?_
  refine W 5 ?_
  refine cl A (rin_pure _ _ _) ?_
  refine W 2 ?_
  refine sq_split 11 J (fun g1_5 => ?_) (fun g1_5 => ?_)
  · skip
    have g1_5' := g1_5
    try simp only [qq] at g1_5'
    refine W 10 ?_
    exact retQ_pure (v := .raw _) rfl rfl (Less.eq (by unfold fgOK; simp_all))
  · skip
    have g1_5' := g1_5
    try simp only [qq] at g1_5'
    have h1 : inn f.length 1 6 = true := by simpa using g1_5
    have hlen : 1 ≤ f.length ∧ f.length ≤ 6 := by simp only [inn, Bool.and_eq_true, decide_eq_true_eq] at h1; omega
    have hw0 := w0_eq (f := f) (by omega)
    refine W 2 ?_
    refine sq_yes rfl rfl (less_b g1_5) rfl (ev_index_map (k := 0) sl24.h J J rfl (by omega)) ?_
    refine W 2 ?_
    refine cy A (rin_pure _ _ _) ?_
    refine W 2 ?_
    refine aw_cond J (fun c_19 => ?_) (fun c_19 => ?_)
    · skip
      have c_19' := c_19
      try simp only [qq] at c_19'
      refine W 1 ?_
      exact retQ_pure (v := .raw _) rfl rfl (Less.eq (by unfold fgOK; rw [hw0]; simp_all))
    · skip
      have c_19' := c_19
      try simp only [qq] at c_19'
      have h2 : inn (w0 f) 1 6 = true := by rw [hw0]; simpa using c_19
      refine W 2 ?_
      refine aw_loopk (ι := { k : Nat // k ≤ f.length ∧ ∀ i, (h : i < f.length) → i < k → fgRow (w0 f) f[i] = true }) [1] (fun i => [(3, B ((f.take i.1).any hasH)), (4, I i.1)]) (fun H i => H) (fun i => f.length - i.1) (⟨0, Nat.zero_le _, by omega⟩) ⟨J, J, J, trivial⟩ rfl ?_
      rintro ⟨k, hk, hok⟩
      dsimp only [keepS, St.put, sget, slotsOf, nn1, nn2, nn3, nn4, nn5, nn6, Nat.reduceBEq, Nat.reduceAdd, nn7, nn8]
      refine W 5 ?_
      refine iff (fun c_24 c_24' => ?_) (fun c_24 c_24' => ?_)
      · skip
        refine W 0 ?_
        refine aw_draw 12 mo (by kernel_rfl) ?_
        refine WD 8 ?_
        refine dr_ev rfl (ev_index_map (k := 0) sl24.h J J rfl (by omega)) ?_
        refine WD 3 ?_
        refine W 0 ?_
        refine ifn (fun c_38 c_38' => ?_) (fun c_38 c_38' => ?_)
        · skip
          refine W 1 ?_
          exact retQ_pure (v := .raw _) rfl rfl (Less.eq (by rw [fg_row_bad (k := k) (by omega) (fgRow_len (by rw [hw0]; omega))]))
        · skip
          have hlk : f[k].length ≤ 6 := by simp only [inn, Bool.and_eq_true, decide_eq_true_eq] at h2; omega
          refine W 1 ?_
          refine aw_loopk (ι := { j : Nat // j ≤ f[k].length ∧ ∀ i, (h : i < f[k].length) → i < j → chOK f[k][i] = true }) [1, 4] (fun q => [(3, B ((f.take k).any hasH || (f[k].take q.1).any fun c => decide (c = 35))), (5, I q.1)]) (fun H q => H) (fun q => f[k].length - q.1) (⟨0, Nat.zero_le _, by omega⟩) ⟨(Less.eq (by show B ((f.take k).any hasH) = _; simp)), J, J, J, trivial⟩ rfl ?_
          rintro ⟨j, hj, hoj⟩
          dsimp only [keepS, St.put, sget, slotsOf, nn1, nn2, nn3, nn4, nn5, nn6, Nat.reduceBEq, Nat.reduceAdd, nn7, nn8]
          refine W 8 ?_
          refine iff (fun c_46 c_46' => ?_) (fun c_46 c_46' => ?_)
          · skip
            have hk' : j < f[k].length := by omega
            have eC := any_take (q := fun c => decide (c = 35)) (l := f[k]) (k := j) hk'
            refine W 9 ?_
            refine sq_split 57 J (fun g12_8 => ?_) (fun g12_8 => ?_)
            · skip
              have g12_8' := g12_8
              try simp only [qq] at g12_8'
              refine W 9 ?_
              refine aw_cond J (fun c_66 => ?_) (fun c_66 => ?_)
              · skip
                have c_66' := c_66
                try simp only [qq] at c_66'
                refine W 1 ?_
                exact retQ_pure (v := .raw _) rfl rfl (Less.eq (by rw [fg_row_bad (k := k) (by omega) (fgRow_ch (j := j) hk' (ch_no g12_8' c_66'))]))
              · skip
                have c_66' := c_66
                try simp only [qq] at c_66'
                have hch : chOK f[k][j] = true := ch_ok (.inr (by simpa using c_66))
                refine W 2 ?_
                refine sq_split 68 J (fun g14_1 => ?_) (fun g14_1 => ?_)
                · skip
                  have g14_1' := g14_1
                  try simp only [qq] at g14_1'
                  have eF : B true = B ((f.take k).any hasH || (f[k].take (j + 1)).any fun c => decide (c = 35)) := by rw [eC, ← Bool.or_assoc, g14_1]; rfl
                  refine W 13 ?_
                  exact ⟨⟨j + 1, by omega, fun i h hi => (by by_cases e : i = j; (subst e; exact hch); exact hoj i h (by omega))⟩, by simp only; omega, Sub.slots ⟨(Less.eq eF), J, J, J, trivial⟩⟩
                · skip
                  have g14_1' := g14_1
                  try simp only [qq] at g14_1'
                  have eF : B (decide (((f[k][j]).toNat : Int) = 35)) = B ((f.take k).any hasH || (f[k].take (j + 1)).any fun c => decide (c = 35)) := by rw [eC, ← Bool.or_assoc, g14_1, dec35]; rfl
                  refine W 13 ?_
                  exact ⟨⟨j + 1, by omega, fun i h hi => (by by_cases e : i = j; (subst e; exact hch); exact hoj i h (by omega))⟩, by simp only; omega, Sub.slots ⟨(Less.eq eF), J, J, J, trivial⟩⟩
            · skip
              have g12_8' := g12_8
              try simp only [qq] at g12_8'
              have hch : chOK f[k][j] = true := ch_ok (.inl (by simpa using g12_8))
              refine W 12 ?_
              refine sq_split 68 J (fun g14_1 => ?_) (fun g14_1 => ?_)
              · skip
                have g14_1' := g14_1
                try simp only [qq] at g14_1'
                have eF : B true = B ((f.take k).any hasH || (f[k].take (j + 1)).any fun c => decide (c = 35)) := by rw [eC, ← Bool.or_assoc, g14_1]; rfl
                refine W 13 ?_
                exact ⟨⟨j + 1, by omega, fun i h hi => (by by_cases e : i = j; (subst e; exact hch); exact hoj i h (by omega))⟩, by simp only; omega, Sub.slots ⟨(Less.eq eF), J, J, J, trivial⟩⟩
              · skip
                have g14_1' := g14_1
                try simp only [qq] at g14_1'
                have eF : B (decide (((f[k][j]).toNat : Int) = 35)) = B ((f.take k).any hasH || (f[k].take (j + 1)).any fun c => decide (c = 35)) := by rw [eC, ← Bool.or_assoc, g14_1, dec35]; rfl
                refine W 13 ?_
                exact ⟨⟨j + 1, by omega, fun i h hi => (by by_cases e : i = j; (subst e; exact hch); exact hoj i h (by omega))⟩, by simp only; omega, Sub.slots ⟨(Less.eq eF), J, J, J, trivial⟩⟩
          · skip
            refine V 3 ?_
            refine sq_nil ?_
            have hgood : fgRow (w0 f) f[k] = true := fgRow_ok (by omega) (fun i h => hoj i h (by omega))
            have eA := any_take (q := hasH) (l := f) (k := k) (by omega)
            have eB : hasH f[k] = (f[k].take j).any (fun c => decide (c = 35)) := by unfold hasH; rw [List.take_of_length_le (by omega)]
            exact ⟨⟨k + 1, by omega, fun i h hi => (by by_cases e : i = k; (subst e; exact hgood); exact hok i h (by omega))⟩, by simp only; omega, Sub.slots ⟨(Less.eq (show B ((f.take k).any hasH || (f[k].take j).any fun c => decide (c = 35)) = _ by rw [eA, eB])), J, J, trivial⟩⟩
      · skip
        refine W 2 ?_
        exact retQ_pure (v := .raw _) rfl rfl (Less.eq (by rw [fg_end h1 h2 (fun i h => hok i h (by omega)), show k = f.length by omega, List.take_length]))
end Go.Proofs.YtmbknoaneglilaaGreatDoor
namespace Go.Proofs.YtmbknoaneglilaaGreatDoor
open Go Go.Ab Ni Ol
theorem fitsE_pure (c : Ca) : APure Tryz.prog 60 [stA c.s, fgA c.f, pcA c.p] (.tup [B (caOK c && c.fits), I (er (caOK c))]) := by
 refine apure_of (rs := [.tmp 6, .tmp 7]) Tryz.func60 rfl rfl (Nat.le_of_ble_eq_true rfl) (by simp [AV.pureL, AV.pureB, AV.pureE, pureE_map]) (by first | rfl | (simp [AV.pureL, AV.pureB, AV.pureE, pureE_map])) fun e0 he0 => ?_
 refine W 8 ?_
 refine cl A (casting_pure c) ?_
 refine W 8 ?_
 refine aw_cond J (fun c_18 => ?_) (fun c_18 => ?_)
 ·
  have c_18' := c_18
  try simp only [qq] at c_18'
  have hok : caOK c = false := by simpa using c_18
  refine W 2 ?_
  exact retQ_pure (v := .tup [.raw _, .raw _]) rfl rfl (less_tup ⟨less_b (by simp [*]), less_int (by simp [er, *]), trivial⟩)
 have c_18' := c_18
 try simp only [qq] at c_18'
 have hok : caOK c = true := by simpa using c_18
 have hc := caOK_B hok
 refine W 1 ?_
 refine cl A (fits_pure hc) ?_
 refine W 2 ?_
 exact retQ_pure (v := .tup [.raw _, .raw _]) rfl rfl (less_tup ⟨less_b (by simp [*]), less_int (by simp [er, *]), trivial⟩)
end Go.Proofs.YtmbknoaneglilaaGreatDoor
namespace Go.Proofs.YtmbknoaneglilaaGreatDoor
open Go Go.Ab Ni Ol
instance en23 : EnT Tryz.prog 23 := ⟨Ent.of Tryz.func23 (by kernel_rfl) rfl⟩
instance en24 : EnT Tryz.prog 24 := ⟨Ent.of Tryz.func24 (by kernel_rfl) rfl⟩
instance en25 : EnT Tryz.prog 25 := ⟨Ent.of Tryz.func25 (by kernel_rfl) rfl⟩
instance en26 : EnT Tryz.prog 26 := ⟨Ent.of Tryz.func26 (by kernel_rfl) rfl⟩
instance en41 : EnT Tryz.prog 41 := ⟨Ent.of Tryz.func41 (by kernel_rfl) rfl⟩
theorem allT_no {α : Type} {q : α → Bool} {l : List α} {n i : Nat} (hi : i < l.length) (hn : i < n) (h : q l[i] = false) : (l.take n).all q = false := by
  rw [List.all_eq_false]
  have hm : i < (l.take n).length := by rw [List.length_take]; omega
  exact ⟨(l.take n)[i], List.getElem_mem hm, by rw [List.getElem_take, h]; simp⟩
theorem allT_yes {α : Type} {q : α → Bool} {l : List α} {n : Nat} (h : ∀ i, (hi : i < l.length) → i < n → q l[i] = true) : (l.take n).all q = true := by
  rw [List.all_eq_true]
  intro x hx
  obtain ⟨i, hi, rfl⟩ := List.getElem_of_mem hx
  rw [List.length_take] at hi
  rw [List.getElem_take]; exact h i (by omega) (by omega)
def shortB (l : List (List UInt8)) : Bool := (l.take 20).all (fun r => decide (r.length ≤ 20)) && decide (l.length ≤ 18)
theorem short_pure (l : List (List UInt8)) : APure Tryz.prog 23 [strs l] (B (shortB l)) := by
  refine apure_of (rs := [.tmp 2]) Tryz.func23 rfl rfl (Nat.le_of_ble_eq_true rfl) (by simp [AV.pureL, AV.pureB, AV.pureE, pureE_map]) (by first | rfl | (simp [AV.pureL, AV.pureB, AV.pureE, pureE_map])) fun e0 he0 => ?_
  refine W 2 ?_
  refine aw_loopk (ι := { k : Nat // k ≤ l.length ∧ k ≤ 20 ∧ ∀ i, (h : i < l.length) → i < k → decide (l[i].length ≤ 20) = true }) [0] (fun g => [(3, I g.1)]) (fun H g => H) (fun g => 20 - g.1) (⟨0, Nat.zero_le _, by omega, by omega⟩) ⟨J, J, trivial⟩ rfl ?_
  rintro ⟨k, hk, hok⟩
  dsimp only [keepS, St.put, sget, slotsOf, nn1, nn2, nn3, nn4, nn5, nn6, Nat.reduceBEq, Nat.reduceAdd, nn7, nn8]
  refine W 5 ?_
  refine sq_split 8 J (fun g2_4 => ?_) (fun g2_4 => ?_)
  · skip
    have g2_4' := g2_4
    try simp only [qq] at g2_4'
    have hkL : k < l.length := by omega
    refine W 3 ?_
    refine aw_cond J (fun c_11 => ?_) (fun c_11 => ?_)
    · skip
      have c_11' := c_11
      try simp only [qq] at c_11'
      refine W 6 ?_
      refine iff (fun c_19 c_19' => ?_) (fun c_19 c_19' => ?_)
      · skip
        refine W 1 ?_
        exact retQ_pure (v := .raw _) rfl rfl (Less.eq (by rw [shortB, allT_no (i := k) (n := 20) hkL (by omega) (by simp only [decide_eq_false_iff_not]; omega)]; rfl))
      · skip
        refine V 3 ?_
        refine sq_nil ?_
        have hgood : decide (l[k].length ≤ 20) = true := by simp only [decide_eq_true_eq]; omega
        exact ⟨⟨k + 1, by omega, by omega, fun i h hi => (by by_cases e : i = k; (subst e; exact hgood); exact hok.2 i h (by omega))⟩, by simp only; omega, Sub.slots ⟨J, J, trivial⟩⟩
    · skip
      have c_11' := c_11
      try simp only [qq] at c_11'
      refine W 4 ?_
      exact retQ_pure (v := .raw _) rfl rfl (Less.eq (by rw [shortB, allT_yes (n := 20) (fun i h hi => hok.2 i h (by omega))]; simp; omega))
  · skip
    have g2_4' := g2_4
    try simp only [qq] at g2_4'
    refine W 8 ?_
    exact retQ_pure (v := .raw _) rfl rfl (Less.eq (by rw [shortB, allT_yes (n := 20) (fun i h hi => hok.2 i h (by omega))]; simp; omega))
end Go.Proofs.YtmbknoaneglilaaGreatDoor
namespace Go.Proofs.YtmbknoaneglilaaGreatDoor
open Go Go.Ab Ni Ol
def cntR (ch : UInt8) (r : List UInt8) (k : Nat) : Int := ((r.take k).count ch : Int)
theorem cntR_succ {ch : UInt8} {r : List UInt8} {k : Nat} (h : k < r.length) : cntR ch r (k + 1) = cntR ch r k + (if r[k] = ch then 1 else 0) := by
  unfold cntR; rw [List.take_succ_eq_append_getElem h, List.count_append]
  by_cases e : r[k] = ch
  · rw [if_pos e, e]; simp
  · rw [if_neg e]; simp [List.count_singleton, e]
theorem cntR_bd (ch : UInt8) (r : List UInt8) (k : Nat) : 0 ≤ cntR ch r k ∧ cntR ch r k ≤ k := by
  unfold cntR
  have h1 := List.count_le_length (a := ch) (l := r.take k)
  rw [List.length_take] at h1
  omega
theorem cntR_all (ch : UInt8) (r : List UInt8) : cntR ch r r.length = (r.count ch : Int) := by unfold cntR; rw [List.take_length]
theorem rcount_pure (l : List (List UInt8)) (ch : UInt8) (hl : l.length ≤ 1000) (hr : ∀ r ∈ l, r.length ≤ 1000) : APure Tryz.prog 41 [strs l, C ch] (I (cnt ch l)) := by
  refine apure_of (rs := [.tmp 4]) Tryz.func41 rfl rfl (Nat.le_of_ble_eq_true rfl) (by simp [AV.pureL, AV.pureB, AV.pureE, pureE_map]) (by first | rfl | (simp [AV.pureL, AV.pureB, AV.pureE, pureE_map])) fun e0 he0 => ?_
  refine W 3 ?_
  refine aw_loopk (ι := { m : Nat // m ≤ l.length }) [0, 1] (fun g => [(5, I (cnt ch (l.take g.1))), (6, I g.1)]) (fun H g => H) (fun g => l.length - g.1) (⟨0, Nat.zero_le _⟩) ⟨J, J, J, J, trivial⟩ rfl ?_
  rintro ⟨m, hm⟩
  dsimp only [keepS, St.put, sget, slotsOf, nn1, nn2, nn3, nn4, nn5, nn6, Nat.reduceBEq, Nat.reduceAdd, nn7, nn8]
  have hb := cnt_bd ch (l.take m) 1000 (fun r h => hr r (List.mem_of_mem_take h))
  have hb2 : ((l.take m).length : Int) * (1000 : Nat) ≤ 1000000 := by rw [List.length_take]; omega
  refine W 4 ?_
  refine iff (fun c_11 c_11' => ?_) (fun c_11 c_11' => ?_)
  · skip
    have hmL : m < l.length := by omega
    have hrl := hr _ (List.getElem_mem hmL)
    refine W 1 ?_
    refine aw_loopk (ι := { k : Nat // k ≤ l[m].length }) [0, 1, 6] (fun g => [(5, I (cnt ch (l.take m) + cntR ch l[m] g.1)), (7, I g.1)]) (fun H g => H) (fun g => l[m].length - g.1) (⟨0, Nat.zero_le _⟩) ⟨(by exact less_int (by simp [cntR])), J, J, J, J, trivial⟩ rfl ?_
    rintro ⟨k, hk⟩
    dsimp only [keepS, St.put, sget, slotsOf, nn1, nn2, nn3, nn4, nn5, nn6, Nat.reduceBEq, Nat.reduceAdd, nn7, nn8]
    have hbr := cntR_bd ch l[m] k
    refine W 7 ?_
    refine iff (fun c_20 c_20' => ?_) (fun c_20 c_20' => ?_)
    · skip
      have hkL : k < l[m].length := by omega
      refine W 8 ?_
      refine iff (fun c_30 c_30' => ?_) (fun c_30 c_30' => ?_)
      · skip
        have eR : cntR ch l[m] (k + 1) = cntR ch l[m] k + 1 := by rw [cntR_succ hkL, if_pos (UInt8.toNat_inj.1 (by omega))]
        refine W 6 ?_
        exact ⟨⟨k + 1, by omega⟩, by simp only; omega, Sub.slots ⟨(by exact less_int (by rw [eR]; omega)), J, J, J, J, trivial⟩⟩
      · skip
        have eR : cntR ch l[m] (k + 1) = cntR ch l[m] k + 0 := by rw [cntR_succ hkL, if_neg (fun h => c_30' (by rw [h]))]
        refine W 3 ?_
        exact ⟨⟨k + 1, by omega⟩, by simp only; omega, Sub.slots ⟨(by exact less_int (by rw [eR]; omega)), J, J, J, J, trivial⟩⟩
    · skip
      obtain rfl : k = l[m].length := by omega
      have eC : cnt ch (l.take m) + cntR ch l[m] l[m].length = cnt ch (l.take (m + 1)) := by rw [cntR_all, cnt_take hmL]
      refine W 3 ?_
      exact ⟨⟨m + 1, by omega⟩, by simp only; omega, Sub.slots ⟨(by exact less_int eC), J, J, J, trivial⟩⟩
  · skip
    obtain rfl : m = l.length := by omega
    refine W 2 ?_
    exact retQ_pure (v := .raw _) rfl rfl (Less.eq (by rw [List.take_length]))
end Go.Proofs.YtmbknoaneglilaaGreatDoor
namespace Go.Proofs.YtmbknoaneglilaaGreatDoor
open Go Go.Ab Ni Ol
instance en27 : EnT Tryz.prog 27 := ⟨Ent.of Tryz.func27 (by kernel_rfl) rfl⟩
end Go.Proofs.YtmbknoaneglilaaGreatDoor
namespace Go.Proofs.YtmbknoaneglilaaGreatDoor
open Go Go.Ab Ni Ol
instance en60 : EnT Tryz.prog 60 := ⟨Ent.of Tryz.func60 (by kernel_rfl) rfl⟩
instance un4 : UnD Tryz.prog 4 .bool := ⟨by kernel_rfl⟩
end Go.Proofs.YtmbknoaneglilaaGreatDoor
namespace Go.Proofs.YtmbknoaneglilaaGreatDoor
open Go Go.Ab Ni Ol
theorem away_of {x y : Int} (h : (!(awayOK x && awayOK y)) = false) : (-20 ≤ x ∧ x ≤ 20) ∧ (-20 ≤ y ∧ y ≤ 20) := by
  have h : (awayOK x && awayOK y) = true := by simpa using h
  unfold awayOK inn at h
  simp only [Bool.and_eq_true, decide_eq_true_eq] at h
  omega
end Go.Proofs.YtmbknoaneglilaaGreatDoor
namespace Go.Proofs.YtmbknoaneglilaaGreatDoor
open Go Go.Ab Ni Ol
theorem less_bo {a b : Bool} (h : a = b) : Less (B a) (B b) := Less.eq (by rw [h])
end Go.Proofs.YtmbknoaneglilaaGreatDoor
namespace Go.Proofs.YtmbknoaneglilaaGreatDoor
open Go Go.Ab Ni Ol
instance en130 : EnT Tryz.prog 130 := ⟨Ent.of Tryz.func130 (by kernel_rfl) rfl⟩
instance en139 : EnT Tryz.prog 139 := ⟨Ent.of Tryz.func139 (by kernel_rfl) rfl⟩
instance en63 : EnT Tryz.prog 63 := ⟨Ent.of Tryz.func63 (by kernel_rfl) rfl⟩
instance en64 : EnT Tryz.prog 64 := ⟨Ent.of Tryz.func64 (by kernel_rfl) rfl⟩
instance en65 : EnT Tryz.prog 65 := ⟨Ent.of Tryz.func65 (by kernel_rfl) rfl⟩
instance en76 : EnT Tryz.prog 76 := ⟨Ent.of Tryz.func76 (by kernel_rfl) rfl⟩
theorem aw_join {c : Ctx} {Q : AExit → St → Prop} {s : St} (V : List (Nat × AV)) (ks : List Nat) {a b : Code} (ha : AWP c a (AExit.then (fun s' => LessS s'.sl (V ++ keepS s.sl ks) ∧ s'.H = s.H ∧ s'.df = s.df) Q) s)
    (hb : AWP c b Q ⟨V ++ keepS s.sl ks, s.H, s.df⟩) : AWP c a (AExit.then (AWP c b Q) Q) s := by
  refine AWP.mono ha fun ax s' h => ?_
  cases ax with
  | normal =>
    obtain ⟨h1, h2, h3⟩ := h
    have h4 := aw_less (s := s') (Q := Q) (code := b) _ h1.all (by rw [h2, h3]; exact hb)
    exact h4
  | _ => exact h
theorem mul2 {a b A B : Int} (h1 : -A ≤ a ∧ a ≤ A) (h2 : -B ≤ b ∧ b ≤ B) : -(A * B) ≤ a * b ∧ a * b ≤ A * B := mulb h1.1 h1.2 h2.1 h2.2
theorem dkR_succ' {c : Ca} {k m : Int} {j n : Nat} : c.dkR k m j (n + 1) = (c.dkR k m j n && (c.skp k m j n || c.chD j n)) := c.dkR_succ k m j n
theorem ltR_succ' {c : Ca} {k m : Int} {j n : Nat} : c.ltR k m j (n + 1) = (c.ltR k m j n && (c.skp k m j n || !c.chD j n)) := c.ltR_succ k m j n
theorem inE_bys (n : Nat) (l : List UInt8) : AV.inE n (l.map fun x => [C x]) = true := inE_map fun x _ => by simp [AV.inL, AV.inB]
theorem bys_back (l : List UInt8) : ((l.map fun x => ((x.toNat : Nat) : Int)).map fun n => UInt8.ofNat n.toNat) = l := by
  rw [List.map_map]
  conv => rhs; rw [← List.map_id l]
  exact List.map_congr_left fun x _ => by simp
theorem bys_ints (l : List UInt8) : AV.sl 1 (l.map fun x => [C x]) = AV.sl 1 ((l.map fun x => ((x.toNat : Nat) : Int)).map fun n => [.raw (.int .u8 n)]) := by rw [List.map_map]; rfl
theorem rline_pure {c : Ca} (hc : CaB c) {a x : Int} (ha : 0 ≤ a ∧ a ≤ 16) (hx : -40 ≤ x ∧ x ≤ 40) : APure Tryz.prog 130 [I a, I c.s.far, I c.p.near, I x] (I (c.ln a x)) := by
  refine apure_of (rs := [.tmp 8]) Tryz.func130 rfl rfl (Nat.le_of_ble_eq_true rfl) (by simp [AV.pureL, AV.pureB, AV.pureE, pureE_map]) (by first | rfl | (simp [AV.pureL, AV.pureB, AV.pureE, pureE_map])) fun e0 he0 => ?_
  have h1 := hc.st
  have h2 := hc.pc
  have m1 := mul2 (a := a) (b := c.s.far - c.p.near) (A := 16) (B := 40) (by omega) (by omega)
  have m2 := mul2 (a := x - a) (b := c.s.far) (A := 60) (B := 40) (by omega) (by omega)
  refine W 13 ?_
  exact retQ_pure (v := .raw _) rfl rfl J
theorem shade_pure {c : Ca} (hc : CaB c) {k m : Int} (hk : -20 ≤ k ∧ k ≤ 20) (hm : -20 ≤ m ∧ m ≤ 20) : APure Tryz.prog 139 [stA c.s, fgA c.f, pcA c.p, I k, I m] (C (c.cell k m)) := by
 refine apure_of (rs := [.tmp 10]) Tryz.func139 rfl rfl (Nat.le_of_ble_eq_true rfl) (by simp [AV.pureL, AV.pureB, AV.pureE, pureE_map]) (by first | rfl | (simp [AV.pureL, AV.pureB, AV.pureE, pureE_map])) fun e0 he0 => ?_
 have h1 := hc.st
 have h2 := hc.pc
 have h3 := hc.fg
 have h4 := hc.w
 have hb := blur_bd hc
 have hpos : 0 < c.f.length := by omega
 have hw0 := w0_eq hpos
 have m1 := mul2 (a := k) (b := c.s.far - c.p.near) (A := 21) (B := 40) (by omega) (by omega)
 have m2 := mul2 (a := k + 1) (b := c.s.far - c.p.near) (A := 21) (B := 40) (by omega) (by omega)
 have m3 := mul2 (a := m) (b := c.s.far - c.p.near) (A := 21) (B := 40) (by omega) (by omega)
 have m4 := mul2 (a := m + 1) (b := c.s.far - c.p.near) (A := 21) (B := 40) (by omega) (by omega)
 refine W 4 ?_
 refine aw_draw 12 mo (by kernel_rfl) ?_
 refine WD 12 ?_
 refine W 26 ?_
 refine aw_draw 10 mo (by kernel_rfl) ?_
 refine WD 2 ?_
 refine dr_ev rfl (ev_index_map (k := 0) sl24.h J J rfl (by omega)) ?_
 refine WD 1 ?_
 refine dr_ev rfl (ev_less (ev_lenS Tryz.underlying9 J) (Less.eq (b := I ((w0 c.f : Nat) : Int)) (by rw [hw0]))) ?_
 refine WD 5 ?_
 refine sq_nil (aw_seq ?_)
 refine aw_join [(19, B (c.dk0 k m))] [5, 6, 7, 13, 14, 15, 16, 17, 18] ?_ ?_
 ·
  refine W 8 ?_
  refine cl A (rline_pure hc (by omega) (by omega)) ?_
  refine W 3 ?_
  refine sq_split 74 J (fun g5_11 => ?_) (fun g5_11 => ?_)
  ·
   have g5_11' := g5_11
   try simp only [qq] at g5_11'
   refine W 10 ?_
   refine cy A (rline_pure hc (by omega) (by omega)) ?_
   refine W 4 ?_
   refine sq_split 89 J (fun g5_26 => ?_) (fun g5_26 => ?_)
   ·
    have g5_26' := g5_26
    try simp only [qq] at g5_26'
    refine W 8 ?_
    refine cy A (rline_pure hc (by omega) (by omega)) ?_
    refine W 4 ?_
    refine sq_split 102 J (fun g5_39 => ?_) (fun g5_39 => ?_)
    ·
     have g5_39' := g5_39
     try simp only [qq] at g5_39'
     refine W 10 ?_
     refine cy A (rline_pure hc (by omega) (by omega)) ?_
     refine W 4 ?_
     exact ⟨⟨(by exact less_bo (by unfold Ca.dk0 Ca.eL Ca.eR; first | rfl | (simp_all; done) | (simp_all; intros; omega))), J, J, J, J, J, J, J, J, J, trivial⟩, rfl, rfl⟩
    have g5_39' := g5_39
    try simp only [qq] at g5_39'
    refine W 15 ?_
    exact ⟨⟨(by exact less_bo (by unfold Ca.dk0 Ca.eL Ca.eR; first | rfl | (simp_all; done) | (simp_all; intros; omega))), J, J, J, J, J, J, J, J, J, trivial⟩, rfl, rfl⟩
   have g5_26' := g5_26
   try simp only [qq] at g5_26'
   refine W 28 ?_
   exact ⟨⟨(by exact less_bo (by unfold Ca.dk0 Ca.eL Ca.eR; first | rfl | (simp_all; done) | (simp_all; intros; omega))), J, J, J, J, J, J, J, J, J, trivial⟩, rfl, rfl⟩
  have g5_11' := g5_11
  try simp only [qq] at g5_11'
  refine W 43 ?_
  exact ⟨⟨(by exact less_bo (by unfold Ca.dk0 Ca.eL Ca.eR; first | rfl | (simp_all; done) | (simp_all; intros; omega))), J, J, J, J, J, J, J, J, J, trivial⟩, rfl, rfl⟩
 dsimp only [keepS, St.put, sget, slotsOf, nn1, nn2, nn3, nn4, nn5, nn6, Nat.reduceBEq, Nat.reduceAdd, nn7, nn8]
 refine W 2 ?_
 refine aw_loopk (ι := { j : Nat // j ≤ c.f.length }) [5, 6, 7, 13, 14, 15, 16, 17, 18] (fun g => [(19, B (c.dk0 k m && c.dkA k m g.1)), (20, B (c.ltA k m g.1)), (21, I g.1)]) (fun H g => H) (fun g => c.f.length - g.1) (⟨0, Nat.zero_le _⟩) ⟨(by exact less_bo (by simp [Ca.dkA])), (by exact less_bo (by simp [Ca.ltA])), J, J, J, J, J, J, J, J, J, J, trivial⟩ rfl ?_
 rintro ⟨j, hj⟩
 dsimp only [keepS, St.put, sget, slotsOf, nn1, nn2, nn3, nn4, nn5, nn6, Nat.reduceBEq, Nat.reduceAdd, nn7, nn8]
 refine W 3 ?_
 refine iff (fun c_119 c_119' => ?_) (fun c_119 c_119' => ?_)
 ·
  have hjL : j < c.f.length := by omega
  have hrow := hc.row j hjL
  refine W 1 ?_
  refine aw_loopk (ι := { i : Nat // i ≤ w0 c.f }) [5, 6, 7, 13, 14, 15, 16, 17, 18, 21] (fun g => [(19, B (c.dk0 k m && c.dkA k m j && c.dkR k m j g.1)), (20, B (c.ltA k m j && c.ltR k m j g.1)), (22, I g.1)]) (fun H g => H) (fun g => w0 c.f - g.1) (⟨0, Nat.zero_le _⟩) ⟨(by exact less_bo (by simp [Ca.dkR])), (by exact less_bo (by simp [Ca.ltR])), J, J, J, J, J, J, J, J, J, J, J, trivial⟩ rfl ?_
  rintro ⟨i, hi⟩
  dsimp only [keepS, St.put, sget, slotsOf, nn1, nn2, nn3, nn4, nn5, nn6, Nat.reduceBEq, Nat.reduceAdd, nn7, nn8]
  refine W 3 ?_
  refine iff (fun c_124 c_124' => ?_) (fun c_124 c_124' => ?_)
  ·
   have hiL : i < c.f[j].length := by omega
   have hiw : i < w0 c.f := by omega
   refine W 10 ?_
   refine cl A (rline_pure hc (by omega) (by omega)) ?_
   refine W 3 ?_
   refine sq_split 140 J (fun g13_13 => ?_) (fun g13_13 => ?_)
   ·
    have g13_13' := g13_13
    try simp only [qq] at g13_13'
    have hs : c.skp k m j i = true := by unfold Ca.skp; simp only [Bool.or_eq_true]; exact .inl g13_13
    have eD : (c.dk0 k m && c.dkA k m j && c.dkR k m j i) = (c.dk0 k m && c.dkA k m j && c.dkR k m j (i + 1)) := by rw [dkR_succ', hs]; simp
    have eLt : (c.ltA k m j && c.ltR k m j i) = (c.ltA k m j && c.ltR k m j (i + 1)) := by rw [ltR_succ', hs]; simp
    refine W 50 ?_
    exact ⟨⟨i + 1, by omega⟩, by simp only; omega, Sub.slots ⟨(by exact less_bo eD), (by exact less_bo eLt), J, J, J, J, J, J, J, J, J, J, J, trivial⟩⟩
   have g13_13' := g13_13
   try simp only [qq] at g13_13'
   refine W 11 ?_
   refine cy A (rline_pure hc (by omega) (by omega)) ?_
   refine W 4 ?_
   refine sq_split 156 J (fun g13_29 => ?_) (fun g13_29 => ?_)
   ·
    have g13_29' := g13_29
    try simp only [qq] at g13_29'
    have hs : c.skp k m j i = true := by unfold Ca.skp; simp only [Bool.or_eq_true]; exact .inr (.inl g13_29)
    have eD : (c.dk0 k m && c.dkA k m j && c.dkR k m j i) = (c.dk0 k m && c.dkA k m j && c.dkR k m j (i + 1)) := by rw [dkR_succ', hs]; simp
    have eLt : (c.ltA k m j && c.ltR k m j i) = (c.ltA k m j && c.ltR k m j (i + 1)) := by rw [ltR_succ', hs]; simp
    refine W 34 ?_
    exact ⟨⟨i + 1, by omega⟩, by simp only; omega, Sub.slots ⟨(by exact less_bo eD), (by exact less_bo eLt), J, J, J, J, J, J, J, J, J, J, J, trivial⟩⟩
   have g13_29' := g13_29
   try simp only [qq] at g13_29'
   refine W 10 ?_
   refine cy A (rline_pure hc (by omega) (by omega)) ?_
   refine W 4 ?_
   refine sq_split 171 J (fun g13_44 => ?_) (fun g13_44 => ?_)
   ·
    have g13_44' := g13_44
    try simp only [qq] at g13_44'
    have hs : c.skp k m j i = true := by unfold Ca.skp; simp only [Bool.or_eq_true]; exact .inr (.inr (.inl g13_44))
    have eD : (c.dk0 k m && c.dkA k m j && c.dkR k m j i) = (c.dk0 k m && c.dkA k m j && c.dkR k m j (i + 1)) := by rw [dkR_succ', hs]; simp
    have eLt : (c.ltA k m j && c.ltR k m j i) = (c.ltA k m j && c.ltR k m j (i + 1)) := by rw [ltR_succ', hs]; simp
    refine W 19 ?_
    exact ⟨⟨i + 1, by omega⟩, by simp only; omega, Sub.slots ⟨(by exact less_bo eD), (by exact less_bo eLt), J, J, J, J, J, J, J, J, J, J, J, trivial⟩⟩
   have g13_44' := g13_44
   try simp only [qq] at g13_44'
   refine W 11 ?_
   refine cy A (rline_pure hc (by omega) (by omega)) ?_
   refine W 3 ?_
   refine aw_cond J (fun c_186 => ?_) (fun c_186 => ?_)
   ·
    have c_186' := c_186
    try simp only [qq] at c_186'
    have hs : c.skp k m j i = true := by unfold Ca.skp; simp only [Bool.or_eq_true]; exact .inr (.inr (.inr c_186))
    have eD : (c.dk0 k m && c.dkA k m j && c.dkR k m j i) = (c.dk0 k m && c.dkA k m j && c.dkR k m j (i + 1)) := by rw [dkR_succ', hs]; simp
    have eLt : (c.ltA k m j && c.ltR k m j i) = (c.ltA k m j && c.ltR k m j (i + 1)) := by rw [ltR_succ', hs]; simp
    refine W 3 ?_
    exact ⟨⟨i + 1, by omega⟩, by simp only; omega, Sub.slots ⟨(by exact less_bo eD), (by exact less_bo eLt), J, J, J, J, J, J, J, J, J, J, J, trivial⟩⟩
   have c_186' := c_186
   try simp only [qq] at c_186'
   have hs : c.skp k m j i = false := by unfold Ca.skp; simp only [Bool.or_eq_false_iff]; exact ⟨g13_13, g13_29, g13_44, c_186⟩
   refine W 8 ?_
   refine iff (fun c_194 c_194' => ?_) (fun c_194 c_194' => ?_)
   ·
    have hch : c.chD j i = true := by unfold Ca.chD; rw [getD_get hjL, getD_get hiL]; exact decide_eq_true (UInt8.toNat_inj.1 (by have : (35 : UInt8).toNat = 35 := rfl; omega))
    have eD : (c.dk0 k m && c.dkA k m j && c.dkR k m j i) = (c.dk0 k m && c.dkA k m j && c.dkR k m j (i + 1)) := by rw [dkR_succ', hs, hch]; simp
    have eLt : false = (c.ltA k m j && c.ltR k m j (i + 1)) := by rw [ltR_succ', hs, hch]; simp
    refine W 4 ?_
    exact ⟨⟨i + 1, by omega⟩, by simp only; omega, Sub.slots ⟨(by exact less_bo eD), (by exact less_bo eLt), J, J, J, J, J, J, J, J, J, J, J, trivial⟩⟩
   have hch : c.chD j i = false := by unfold Ca.chD; rw [getD_get hjL, getD_get hiL]; exact decide_eq_false (fun e => c_194' (by rw [e]; rfl))
   have eD : false = (c.dk0 k m && c.dkA k m j && c.dkR k m j (i + 1)) := by rw [dkR_succ', hs, hch]; simp
   have eLt : (c.ltA k m j && c.ltR k m j i) = (c.ltA k m j && c.ltR k m j (i + 1)) := by rw [ltR_succ', hs, hch]; simp
   refine W 4 ?_
   exact ⟨⟨i + 1, by omega⟩, by simp only; omega, Sub.slots ⟨(by exact less_bo eD), (by exact less_bo eLt), J, J, J, J, J, J, J, J, J, J, J, trivial⟩⟩
  obtain rfl : i = w0 c.f := by omega
  have eA : (c.dk0 k m && c.dkA k m j && c.dkR k m j (w0 c.f)) = (c.dk0 k m && c.dkA k m (j + 1)) := by rw [c.dkA_succ k m j, Bool.and_assoc]
  have eB : (c.ltA k m j && c.ltR k m j (w0 c.f)) = c.ltA k m (j + 1) := by rw [c.ltA_succ k m j]
  refine W 3 ?_
  exact ⟨⟨j + 1, by omega⟩, by simp only; omega, Sub.slots ⟨(by exact less_bo eA), (by exact less_bo eB), J, J, J, J, J, J, J, J, J, J, trivial⟩⟩
 obtain rfl : j = c.f.length := by omega
 refine W 1 ?_
 refine aw_cond J (fun c_195 => ?_) (fun c_195 => ?_)
 ·
  have c_195' := c_195
  try simp only [qq] at c_195'
  have hsh : c.shade k m = 35 := by unfold Ca.shade; rw [if_pos c_195]
  refine W 1 ?_
  exact retQ_pure (v := .raw _) rfl rfl (Less.eq (by rw [← Ca.shade_cell hc, hsh]; rfl))
 have c_195' := c_195
 try simp only [qq] at c_195'
 refine W 1 ?_
 refine aw_cond J (fun c_196 => ?_) (fun c_196 => ?_)
 ·
  have c_196' := c_196
  try simp only [qq] at c_196'
  have hsh : c.shade k m = 46 := by unfold Ca.shade; rw [if_neg (by rw [c_195]; simp), if_pos c_196]
  refine W 1 ?_
  exact retQ_pure (v := .raw _) rfl rfl (Less.eq (by rw [← Ca.shade_cell hc, hsh]; rfl))
 have c_196' := c_196
 try simp only [qq] at c_196'
 have hsh : c.shade k m = 43 := by unfold Ca.shade; rw [if_neg (by rw [c_195]; simp), if_neg (by rw [c_196]; simp)]
 refine W 1 ?_
 exact retQ_pure (v := .raw _) rfl rfl (Less.eq (by rw [← Ca.shade_cell hc, hsh]; rfl))
theorem rshadow_pure {c : Ca} (hc : CaB c) : APure Tryz.prog 76 [stA c.s, fgA c.f, pcA c.p] (strs c.shadow) := by
 refine apure_of (rs := [.tmp 6]) Tryz.func76 rfl rfl (Nat.le_of_ble_eq_true rfl) (by simp [AV.pureL, AV.pureB, AV.pureE, pureE_map]) (by first | rfl | (simp [AV.pureL, AV.pureB, AV.pureE, pureE_map])) fun e0 he0 => ?_
 have h1 := hc.st
 refine V 6 ?_
 refine sq_nil (aw_block ?_)
 refine aw_sub (sub_token 7 1 J) ?_
 refine aw_loopk (ι := { k : Nat // k ≤ c.s.high.toNat }) [3, 4, 5] (fun g => [(8, I g.1), (7, .own 3 1 (((List.range g.1).map c.srow).map fun x => [S x]))]) (fun H g => H.set 3 (.tok (((List.range g.1).map c.srow).map fun x => [S x]).length)) (fun g => c.s.high.toNat - g.1) (⟨0, Nat.zero_le _⟩) ⟨J, J, J, J, J, trivial⟩ rfl ?_
 rintro ⟨m, hm⟩
 dsimp only [keepS, St.put, sget, slotsOf, nn1, nn2, nn3, nn4, nn5, nn6, Nat.reduceBEq, Nat.reduceAdd, nn7, nn8]
 refine W 4 ?_
 refine iff (fun c_14 c_14' => ?_) (fun c_14 c_14' => ?_)
 ·
  have hmL : m < c.s.high.toNat := by omega
  refine V 2 ?_
  refine sq_nil (aw_block ?_)
  refine aw_sub (sub_token 9 1 J) ?_
  refine aw_loopk (ι := { k : Nat // k ≤ c.s.wide.toNat }) [3, 4, 5, 7, 8] (fun g => [(10, I g.1), (9, .own 4 1 (((List.range g.1).map fun (i : Nat) => c.cell (i : Int) (m : Int)).map fun x => [C x]))]) (fun H g => H.set 4 (.tok (((List.range g.1).map fun (i : Nat) => c.cell (i : Int) (m : Int)).map fun x => [C x]).length)) (fun g => c.s.wide.toNat - g.1) (⟨0, Nat.zero_le _⟩) ⟨J, J, J, J, J, J, J, trivial⟩ rfl ?_
  rintro ⟨k, hk⟩
  dsimp only [keepS, St.put, sget, slotsOf, nn1, nn2, nn3, nn4, nn5, nn6, Nat.reduceBEq, Nat.reduceAdd, nn7, nn8]
  refine W 4 ?_
  refine iff (fun c_20 c_20' => ?_) (fun c_20 c_20' => ?_)
  ·
   have hkL : k < c.s.wide.toNat := by omega
   have eR : ((List.range (k + 1)).map fun (i : Nat) => c.cell (i : Int) (m : Int)).map (fun x => [C x]) = ((List.range k).map fun (i : Nat) => c.cell (i : Int) (m : Int)).map (fun x => [C x]) ++ [[C (c.cell (k : Int) (m : Int))]] := by rw [List.range_succ]; simp
   refine W 6 ?_
   refine cl A (shade_pure hc (by omega) (by omega)) ?_
   refine sq_ev rfl (ev_buildSlice (es := [[_]]) sf92.h rfl rfl rfl rfl) ?_
   first | refine sq_append rfl sf92.h Tryz.underlying92 rfl rfl J (Nat.succ_pos _) (by simp; omega) (by simp; omega) ?_ | refine sq_append rfl sf92.h Tryz.underlying92 rfl rfl (less_slx _ _) (Nat.succ_pos _) (by simp; omega) (by simp; omega) ?_
   refine W 4 ?_
   exact ⟨⟨k + 1, by omega⟩, by simp only; omega, Sub.fin 5 ⟨J, Less.eq (b := .own 4 1 (((List.range (k + 1)).map fun (i : Nat) => c.cell (i : Int) (m : Int)).map fun x => [C x])) (by rw [eR] <;> rfl), J, J, J, J, J, trivial⟩ (congrArg (fun n => [_, _, _, _, AObj.tok n]) (congrArg List.length eR.symm)) (by simp [slotsIn, objsIn, sget, keepS, AObj.inB, AV.inB, AV.inL, AV.inE, inE_map, inE_bys, inE_ints, inE_strs, inE_figs, inE_cloths, -List.map_append, -List.map_take, -List.map_map]) (by simp [slotsIn, objsIn, sget, keepS, AObj.inB, AV.inB, AV.inL, AV.inE, inE_map, inE_bys, inE_ints, inE_strs, inE_figs, inE_cloths, -List.map_append, -List.map_take, -List.map_map]) (by simp [he0])⟩
  obtain rfl : k = c.s.wide.toNat := by omega
  have eS : ((List.range (m + 1)).map c.srow).map (fun x => [S x]) = ((List.range m).map c.srow).map (fun x => [S x]) ++ [[S (c.srow m)]] := by rw [List.range_succ]; simp
  refine W 2 ?_
  refine sq_ev rfl (ev_less (ev_bytesS (ns := (c.srow m).map fun (x : UInt8) => ((x.toNat : Nat) : Int)) Tryz.underlying92 Tryz.underlying5 Tryz.underlying9 (Less.trans (less_own _ _ _) (Less.eq (bys_ints (c.srow m))))) (Less.eq (congrArg S (bys_back (c.srow m))))) ?_
  refine sq_ev rfl (ev_buildSlice (es := [[_]]) sf24.h rfl rfl rfl rfl) ?_
  first | refine sq_append rfl sf24.h Tryz.underlying24 rfl rfl J (Nat.succ_pos _) (by simp; omega) (by simp; omega) ?_ | refine sq_append rfl sf24.h Tryz.underlying24 rfl rfl (less_slx _ _) (Nat.succ_pos _) (by simp; omega) (by simp; omega) ?_
  refine W 4 ?_
  exact ⟨⟨m + 1, by omega⟩, by simp only; omega, Sub.fin 4 ⟨J, Less.eq (b := .own 3 1 (((List.range (m + 1)).map c.srow).map fun x => [S x])) (by rw [eS] <;> rfl), J, J, J, trivial⟩ (congrArg (fun n => [_, _, _, AObj.tok n]) (congrArg List.length eS.symm)) (by simp [slotsIn, objsIn, sget, keepS, AObj.inB, AV.inB, AV.inL, AV.inE, inE_map, inE_bys, inE_ints, inE_strs, inE_figs, inE_cloths, -List.map_append, -List.map_take, -List.map_map]) (by simp [slotsIn, objsIn, sget, keepS, AObj.inB, AV.inB, AV.inL, AV.inE, inE_map, inE_bys, inE_ints, inE_strs, inE_figs, inE_cloths, -List.map_append, -List.map_take, -List.map_map]) (by simp [he0])⟩
 obtain rfl : m = c.s.high.toNat := by omega
 refine W 2 ?_
 exact retQ_pure (v := .own _ _ _) rfl rfl (Less.trans (less_own _ _ _) (Less.eq (by simp [Ca.shadow])))
end Go.Proofs.YtmbknoaneglilaaGreatDoor
namespace Go.Proofs.YtmbknoaneglilaaGreatDoor
open Go Go.Ab Ni Ol
theorem rfits_eq (c : Ca) : c.fits = (decide (c.ln c.s.x c.p.x - c.s.flame * c.p.near ≥ 0) && (decide (c.ln c.s.x (c.p.x + (w0 c.f : Nat)) + c.s.flame * c.p.near ≤ c.s.wide * (c.s.far - c.p.near)) && (decide (c.ln c.s.y c.p.y - c.s.flame * c.p.near ≥ 0) && decide (c.ln c.s.y (c.p.y + (c.f.length : Nat)) + c.s.flame * c.p.near ≤ c.s.high * (c.s.far - c.p.near))))) := by
  unfold Ca.fits Ca.fitsD Ca.blur Ca.ln
  rw [Bool.eq_iff_iff]
  simp only [Bool.and_eq_true, Bool.not_eq_true', Bool.or_eq_false_iff, decide_eq_false_iff_not, decide_eq_true_eq]
  omega
def opI (o : Option Nat) : Int := match o with | some n => n | none => -1
theorem ln_bd {c : Ca} (hc : CaB c) {a x : Int} (ha : 0 ≤ a ∧ a ≤ 16) (hx : -40 ≤ x ∧ x ≤ 40) : -5000 ≤ c.ln a x ∧ c.ln a x ≤ 5000 := by
  have h1 := hc.st
  have h2 := hc.pc
  have m1 := mul2 (a := a) (b := c.s.far - c.p.near) (A := 16) (B := 40) (by omega) (by omega)
  have m2 := mul2 (a := x - a) (b := c.s.far) (A := 60) (B := 40) (by omega) (by omega)
  unfold Ca.ln; omega
theorem rfits_pure {c : Ca} (hc : CaB c) : APure Tryz.prog 65 [stA c.s, fgA c.f, pcA c.p] (B c.fits) := by
  refine apure_of (rs := [.tmp 6]) Tryz.func65 rfl rfl (Nat.le_of_ble_eq_true rfl) (by simp [AV.pureL, AV.pureB, AV.pureE, pureE_map]) (by first | rfl | (simp [AV.pureL, AV.pureB, AV.pureE, pureE_map])) fun e0 he0 => ?_
  have h1 := hc.st
  have h2 := hc.pc
  have h3 := hc.fg
  have h4 := hc.w
  have hb := blur_bd hc
  have hpos : 0 < c.f.length := by omega
  have hw0 := w0_eq hpos
  have m1 := mul2 (a := c.s.wide) (b := c.s.far - c.p.near) (A := 16) (B := 40) (by omega) (by omega)
  have m2 := mul2 (a := c.s.high) (b := c.s.far - c.p.near) (A := 16) (B := 40) (by omega) (by omega)
  have b1 := ln_bd hc (a := c.s.x) (x := c.p.x) (by omega) (by omega)
  have b2 := ln_bd hc (a := c.s.x) (x := c.p.x + (w0 c.f : Nat)) (by omega) (by omega)
  have b3 := ln_bd hc (a := c.s.y) (x := c.p.y) (by omega) (by omega)
  have b4 := ln_bd hc (a := c.s.y) (x := c.p.y + (c.f.length : Nat)) (by omega) (by omega)
  refine W 4 ?_
  refine aw_draw 12 mo (by kernel_rfl) ?_
  refine WD 12 ?_
  refine W 0 ?_
  refine aw_draw 26 mo (by kernel_rfl) ?_
  refine WD 8 ?_
  refine dcl A (rline_pure hc (by omega) (by omega)) ?_
  refine WD 10 ?_
  refine dr_ev rfl (ev_index_map (k := 0) sl24.h J J rfl (by omega)) ?_
  refine WD 1 ?_
  refine dr_ev rfl (ev_less (ev_lenS Tryz.underlying9 J) (Less.eq (b := I ((w0 c.f : Nat) : Int)) (by rw [hw0]))) ?_
  refine WD 1 ?_
  refine dcl A (rline_pure hc (by omega) (by omega)) ?_
  refine WD 2 ?_
  refine W 0 ?_
  refine aw_draw 24 mo (by kernel_rfl) ?_
  refine WD 8 ?_
  refine dcl A (rline_pure hc (by omega) (by omega)) ?_
  refine WD 12 ?_
  refine dcl A (rline_pure hc (by omega) (by omega)) ?_
  refine WD 2 ?_
  refine W 5 ?_
  refine sq_split 73 J (fun g4_4 => ?_) (fun g4_4 => ?_)
  · skip
    have g4_4' := g4_4
    try simp only [qq] at g4_4'
    refine W 10 ?_
    refine sq_split 83 J (fun g4_14 => ?_) (fun g4_14 => ?_)
    · skip
      have g4_14' := g4_14
      try simp only [qq] at g4_14'
      refine W 6 ?_
      refine sq_split 89 J (fun g4_20 => ?_) (fun g4_20 => ?_)
      · skip
        have g4_20' := g4_20
        try simp only [qq] at g4_20'
        refine W 10 ?_
        exact retQ_pure (v := .raw _) rfl rfl (Less.eq (by rw [rfits_eq]; first | (simp [*]; done) | (simp_all; done) | (simp_all; omega)))
      · skip
        have g4_20' := g4_20
        try simp only [qq] at g4_20'
        refine W 10 ?_
        exact retQ_pure (v := .raw _) rfl rfl (Less.eq (by rw [rfits_eq]; first | (simp [*]; done) | (simp_all; done) | (simp_all; omega)))
    · skip
      have g4_14' := g4_14
      try simp only [qq] at g4_14'
      refine W 16 ?_
      exact retQ_pure (v := .raw _) rfl rfl (Less.eq (by rw [rfits_eq]; first | (simp [*]; done) | (simp_all; done) | (simp_all; omega)))
  · skip
    have g4_4' := g4_4
    try simp only [qq] at g4_4'
    refine W 26 ?_
    exact retQ_pure (v := .raw _) rfl rfl (Less.eq (by rw [rfits_eq]; first | (simp [*]; done) | (simp_all; done) | (simp_all; omega)))
theorem rmost_pure {c : Ca} (hc : CaB c) : APure Tryz.prog 63 [stA c.s, fgA c.f, I c.p.x, I c.p.y] (I (opI c.most)) := by
 refine apure_of (rs := [.tmp 8]) Tryz.func63 rfl rfl (Nat.le_of_ble_eq_true rfl) (by simp [AV.pureL, AV.pureB, AV.pureE, pureE_map]) (by first | rfl | (simp [AV.pureL, AV.pureB, AV.pureE, pureE_map])) fun e0 he0 => ?_
 have h1 := hc.st
 refine W 5 ?_
 refine aw_loopk (ι := { k : Nat // k ≤ c.s.far.toNat }) [2, 3, 4, 5] (fun g => [(9, I (opI (c.mostN g.1))), (10, I g.1)]) (fun H g => H) (fun g => c.s.far.toNat - g.1) (⟨0, Nat.zero_le _⟩) ⟨J, J, J, J, J, J, trivial⟩ rfl ?_
 rintro ⟨k, hk⟩
 dsimp only [keepS, St.put, sget, slotsOf, nn1, nn2, nn3, nn4, nn5, nn6, Nat.reduceBEq, Nat.reduceAdd, nn7, nn8]
 refine W 4 ?_
 refine iff (fun c_14 c_14' => ?_) (fun c_14 c_14' => ?_)
 ·
  have hkL : k < c.s.far.toNat := by omega
  refine W 6 ?_
  refine cl A (rfits_pure (c := c.atN k) (hc.atN (n := (k : Int)) (by omega) (by omega))) ?_
  refine W 0 ?_
  refine aw_cond J (fun c_23 => ?_) (fun c_23 => ?_)
  ·
   have c_23' := c_23
   try simp only [qq] at c_23'
   have eM : (k : Int) = opI (c.mostN (k + 1)) := by unfold Ca.mostN; rw [if_pos c_23]; rfl
   refine W 5 ?_
   exact ⟨⟨k + 1, by omega⟩, by simp only; omega, Sub.slots ⟨(by exact less_int eM), J, J, J, J, J, trivial⟩⟩
  have c_23' := c_23
  try simp only [qq] at c_23'
  have eM : opI (c.mostN k) = opI (c.mostN (k + 1)) := by conv => { rhs; unfold Ca.mostN }; rw [if_neg (by rw [c_23]; simp)]
  refine W 3 ?_
  exact ⟨⟨k + 1, by omega⟩, by simp only; omega, Sub.slots ⟨(by exact less_int eM), J, J, J, J, J, trivial⟩⟩
 obtain rfl : k = c.s.far.toNat := by omega
 refine W 2 ?_
 exact retQ_pure (v := .raw _) rfl rfl J
theorem rfades_pure {c : Ca} (hc : CaB c) : APure Tryz.prog 64 [stA c.s, fgA c.f, I c.p.x, I c.p.y] (I (opI c.fades)) := by
 refine apure_of (rs := [.tmp 8]) Tryz.func64 rfl rfl (Nat.le_of_ble_eq_true rfl) (by simp [AV.pureL, AV.pureB, AV.pureE, pureE_map]) (by first | rfl | (simp [AV.pureL, AV.pureB, AV.pureE, pureE_map])) fun e0 he0 => ?_
 have h1 := hc.st
 refine W 4 ?_
 refine aw_loopk (ι := { k : Nat // k ≤ c.s.far.toNat ∧ ∀ i, i < k → c.fadeB i = false }) [2, 3, 4, 5] (fun g => [(9, I g.1)]) (fun H g => H) (fun g => c.s.far.toNat - g.1) (⟨0, Nat.zero_le _, by omega⟩) ⟨J, J, J, J, J, trivial⟩ rfl ?_
 rintro ⟨k, hk, hok⟩
 dsimp only [keepS, St.put, sget, slotsOf, nn1, nn2, nn3, nn4, nn5, nn6, Nat.reduceBEq, Nat.reduceAdd, nn7, nn8]
 refine W 4 ?_
 refine iff (fun c_13 c_13' => ?_) (fun c_13 c_13' => ?_)
 ·
  have hkL : k < c.s.far.toNat := by omega
  refine W 6 ?_
  refine cl A (rshadow_pure (c := c.atN k) (hc.atN (n := (k : Int)) (by omega) (by omega))) ?_
  refine cl A (rcount_pure _ 35 (by rw [shadow_len]; show c.s.high.toNat ≤ 1000; omega) (fun r hr => by rw [shadow_wide hr]; show c.s.wide.toNat ≤ 1000; omega)) ?_
  refine W 1 ?_
  refine iff (fun c_24 c_24' => ?_) (fun c_24 c_24' => ?_)
  ·
   have hgood : c.fadeB k = true := c_24
   refine W 2 ?_
   exact retQ_pure (v := .raw _) rfl rfl (Less.eq (by rw [fades_some hkL hgood hok]; rfl))
  have hbad : c.fadeB k = false := c_24
  refine W 3 ?_
  exact ⟨⟨k + 1, by omega, fun i hi => (by by_cases e : i = k; (subst e; exact hbad); exact hok i (by omega))⟩, by simp only; omega, Sub.slots ⟨J, J, J, J, J, trivial⟩⟩
 refine W 1 ?_
 exact retQ_pure (v := .raw _) rfl rfl (Less.eq (by rw [fades_none (fun i hi => hok i (by omega))]; rfl))
end Go.Proofs.YtmbknoaneglilaaGreatDoor
namespace Go.Proofs.YtmbknoaneglilaaGreatDoor
open Go Go.Ab Ni Ol
theorem at0 (c : Ca) (hs : stOK c.s = true) : caOK (c.atN 0) = (fgOK c.f && (awayOK c.p.x && awayOK c.p.y)) := by
  have h := stOK_iff.1 hs
  have : inn 0 0 (c.s.far - 1) = true := by unfold inn; simp only [Bool.and_eq_true, decide_eq_true_eq]; omega
  unfold caOK pcOK Ca.atN
  simp only [hs, this, Bool.true_and]
theorem op_cases (o : Option Nat) : (opI o = -1 ∧ opE o = 5 ∧ opN o = 0) ∨ (0 ≤ opI o ∧ opE o = 0 ∧ opN o = opI o) := by
  cases o with
  | none => exact .inl ⟨rfl, rfl, rfl⟩
  | some n => exact .inr ⟨by simp [opI], rfl, rfl⟩
theorem mostN_at (c : Ca) : ∀ k : Nat, (c.atN 0).mostN k = c.mostN k
  | 0 => rfl
  | k + 1 => by unfold Ca.mostN; rw [mostN_at c k]; rfl
theorem fits_long {c : Ca} {is : Bool} {e n g m h : Int} (k23 : APure Tryz.prog 23 [strs c.f] (B false)) : APure Tryz.prog 13 [stA c.s, fgA c.f, pcA c.p] (B true) := by
  refine apure_of (rs := [.tmp 6]) Tryz.func13 rfl rfl (Nat.le_of_ble_eq_true rfl) (by simp [AV.pureL, AV.pureB, AV.pureE, pureE_map]) (by first | rfl | (simp [AV.pureL, AV.pureB, AV.pureE, pureE_map])) fun e0 he0 => ?_
  refine W 6 ?_
  refine cl A (k23) ?_
  refine W 1 ?_
  refine aw_cond J (fun c_18 => ?_) (fun c_18 => ?_)
  · skip
    have c_18' := c_18
    try simp only [qq] at c_18'
    refine W 0 ?_
    refine cl A (known_pure) ?_
    refine W 1 ?_
    exact retQ_pure (v := .raw _) rfl rfl J
  · skip
    have c_18' := c_18
    try simp only [qq] at c_18'
    first | exact absurd c_18 (by decide) | (exfalso; simp at c_18; done) | (exfalso; simp at c_18; omega) | (exfalso; simp_all; done) | (exfalso; simp_all; omega)
theorem fits_000 {c : Ca} (k23 : APure Tryz.prog 23 [strs c.f] (B true)) (k24 : APure Tryz.prog 24 [stA c.s] (B false)) (k60 : APure Tryz.prog 60 [stA c.s, fgA c.f, pcA c.p] (.tup [B false, I 2])) (k61 : APure Tryz.prog 61 [stA c.s, fgA c.f, I c.p.x, I c.p.y] (.tup [I 0, I 2])) (k62 : APure Tryz.prog 62 [stA c.s, fgA c.f, I c.p.x, I c.p.y] (.tup [I 0, I 2])) : APure Tryz.prog 13 [stA c.s, fgA c.f, pcA c.p] (B true) := by
  refine apure_of (rs := [.tmp 6]) Tryz.func13 rfl rfl (Nat.le_of_ble_eq_true rfl) (by simp [AV.pureL, AV.pureB, AV.pureE, pureE_map]) (by first | rfl | (simp [AV.pureL, AV.pureB, AV.pureE, pureE_map])) fun e0 he0 => ?_
  refine W 6 ?_
  refine cl A (k23) ?_
  refine W 1 ?_
  refine aw_cond J (fun c_18 => ?_) (fun c_18 => ?_)
  · skip
    have c_18' := c_18
    try simp only [qq] at c_18'
    first | exact absurd c_18 (by decide) | (exfalso; simp at c_18; done) | (exfalso; simp at c_18; omega) | (exfalso; simp_all; done) | (exfalso; simp_all; omega)
  · skip
    have c_18' := c_18
    try simp only [qq] at c_18'
    refine W 3 ?_
    refine cl A (k60) ?_
    refine W 11 ?_
    refine cl A (k61) ?_
    refine W 11 ?_
    refine cl A (k62) ?_
    refine W 6 ?_
    refine cl A (k24) ?_
    refine W 38 ?_
    refine cy A (known_pure) ?_
    refine W 2 ?_
    exact retQ_pure (v := .raw _) rfl rfl J
theorem fits_100 {c : Ca} (k23 : APure Tryz.prog 23 [strs c.f] (B true)) (k24 : APure Tryz.prog 24 [stA c.s] (B true)) (k25 : APure Tryz.prog 25 [fgA c.f] (B false)) (k60 : APure Tryz.prog 60 [stA c.s, fgA c.f, pcA c.p] (.tup [B false, I 2])) (k61 : APure Tryz.prog 61 [stA c.s, fgA c.f, I c.p.x, I c.p.y] (.tup [I 0, I 2])) (k62 : APure Tryz.prog 62 [stA c.s, fgA c.f, I c.p.x, I c.p.y] (.tup [I 0, I 2])) : APure Tryz.prog 13 [stA c.s, fgA c.f, pcA c.p] (B true) := by
  refine apure_of (rs := [.tmp 6]) Tryz.func13 rfl rfl (Nat.le_of_ble_eq_true rfl) (by simp [AV.pureL, AV.pureB, AV.pureE, pureE_map]) (by first | rfl | (simp [AV.pureL, AV.pureB, AV.pureE, pureE_map])) fun e0 he0 => ?_
  refine W 6 ?_
  refine cl A (k23) ?_
  refine W 1 ?_
  refine aw_cond J (fun c_18 => ?_) (fun c_18 => ?_)
  · skip
    have c_18' := c_18
    try simp only [qq] at c_18'
    first | exact absurd c_18 (by decide) | (exfalso; simp at c_18; done) | (exfalso; simp at c_18; omega) | (exfalso; simp_all; done) | (exfalso; simp_all; omega)
  · skip
    have c_18' := c_18
    try simp only [qq] at c_18'
    refine W 3 ?_
    refine cl A (k60) ?_
    refine W 11 ?_
    refine cl A (k61) ?_
    refine W 11 ?_
    refine cl A (k62) ?_
    refine W 6 ?_
    refine cl A (k24) ?_
    refine W 3 ?_
    refine cy A (k25) ?_
    refine W 34 ?_
    refine cy A (known_pure) ?_
    refine W 2 ?_
    exact retQ_pure (v := .raw _) rfl rfl J
theorem fits_110 {c : Ca} (k23 : APure Tryz.prog 23 [strs c.f] (B true)) (k24 : APure Tryz.prog 24 [stA c.s] (B true)) (k25 : APure Tryz.prog 25 [fgA c.f] (B true)) (k31 : APure Tryz.prog 31 [I c.p.x, I c.p.y] (B false)) (k60 : APure Tryz.prog 60 [stA c.s, fgA c.f, pcA c.p] (.tup [B false, I 2])) (k61 : APure Tryz.prog 61 [stA c.s, fgA c.f, I c.p.x, I c.p.y] (.tup [I 0, I 2])) (k62 : APure Tryz.prog 62 [stA c.s, fgA c.f, I c.p.x, I c.p.y] (.tup [I 0, I 2])) : APure Tryz.prog 13 [stA c.s, fgA c.f, pcA c.p] (B true) := by
  refine apure_of (rs := [.tmp 6]) Tryz.func13 rfl rfl (Nat.le_of_ble_eq_true rfl) (by simp [AV.pureL, AV.pureB, AV.pureE, pureE_map]) (by first | rfl | (simp [AV.pureL, AV.pureB, AV.pureE, pureE_map])) fun e0 he0 => ?_
  refine W 6 ?_
  refine cl A (k23) ?_
  refine W 1 ?_
  refine aw_cond J (fun c_18 => ?_) (fun c_18 => ?_)
  · skip
    have c_18' := c_18
    try simp only [qq] at c_18'
    first | exact absurd c_18 (by decide) | (exfalso; simp at c_18; done) | (exfalso; simp at c_18; omega) | (exfalso; simp_all; done) | (exfalso; simp_all; omega)
  · skip
    have c_18' := c_18
    try simp only [qq] at c_18'
    refine W 3 ?_
    refine cl A (k60) ?_
    refine W 11 ?_
    refine cl A (k61) ?_
    refine W 11 ?_
    refine cl A (k62) ?_
    refine W 6 ?_
    refine cl A (k24) ?_
    refine W 3 ?_
    refine cy A (k25) ?_
    refine W 7 ?_
    refine cy A (k31) ?_
    refine W 2 ?_
    refine aw_cond J (fun c_62 => ?_) (fun c_62 => ?_)
    · skip
      have c_62' := c_62
      try simp only [qq] at c_62'
      refine W 23 ?_
      refine cy A (known_pure) ?_
      refine W 2 ?_
      exact retQ_pure (v := .raw _) rfl rfl J
    · skip
      have c_62' := c_62
      try simp only [qq] at c_62'
      first | exact absurd c_62 (by decide) | (exfalso; simp at c_62; done) | (exfalso; simp at c_62; omega) | (exfalso; simp_all; done) | (exfalso; simp_all; omega)
theorem fits_no {c : Ca} {n g x m h y : Int} (k23 : APure Tryz.prog 23 [strs c.f] (B true)) (k24 : APure Tryz.prog 24 [stA c.s] (B true)) (k25 : APure Tryz.prog 25 [fgA c.f] (B true)) (k31 : APure Tryz.prog 31 [I c.p.x, I c.p.y] (B true)) (k61 : APure Tryz.prog 61 [stA c.s, fgA c.f, I c.p.x, I c.p.y] (.tup [I n, I g])) (k62 : APure Tryz.prog 62 [stA c.s, fgA c.f, I c.p.x, I c.p.y] (.tup [I m, I h]))
    (k63 : APure Tryz.prog 63 [stA c.s, fgA c.f, I c.p.x, I c.p.y] (I x)) (k64 : APure Tryz.prog 64 [stA c.s, fgA c.f, I c.p.x, I c.p.y] (I y)) (hx : (x = -1 ∧ g = 5 ∧ n = 0) ∨ (0 ≤ x ∧ g = 0 ∧ n = x)) (hy : (y = -1 ∧ h = 5 ∧ m = 0) ∨ (0 ≤ y ∧ h = 0 ∧ m = y)) (k60 : APure Tryz.prog 60 [stA c.s, fgA c.f, pcA c.p] (.tup [B false, I 2])) (k26 : APure Tryz.prog 26 [stA c.s, pcA c.p] (B false)) : APure Tryz.prog 13 [stA c.s, fgA c.f, pcA c.p] (B true) := by
  refine apure_of (rs := [.tmp 6]) Tryz.func13 rfl rfl (Nat.le_of_ble_eq_true rfl) (by simp [AV.pureL, AV.pureB, AV.pureE, pureE_map]) (by first | rfl | (simp [AV.pureL, AV.pureB, AV.pureE, pureE_map])) fun e0 he0 => ?_
  refine W 6 ?_
  refine cl A (k23) ?_
  refine W 1 ?_
  refine aw_cond J (fun c_18 => ?_) (fun c_18 => ?_)
  · skip
    have c_18' := c_18
    try simp only [qq] at c_18'
    first | exact absurd c_18 (by decide) | (exfalso; simp at c_18; done) | (exfalso; simp at c_18; omega) | (exfalso; simp_all; done) | (exfalso; simp_all; omega)
  · skip
    have c_18' := c_18
    try simp only [qq] at c_18'
    refine W 3 ?_
    refine cl A (k60) ?_
    refine W 11 ?_
    refine cl A (k61) ?_
    refine W 11 ?_
    refine cl A (k62) ?_
    refine W 6 ?_
    refine cl A (k24) ?_
    refine W 3 ?_
    refine cy A (k25) ?_
    refine W 7 ?_
    refine cy A (k31) ?_
    refine W 2 ?_
    refine aw_cond J (fun c_62 => ?_) (fun c_62 => ?_)
    · skip
      have c_62' := c_62
      try simp only [qq] at c_62'
      first | exact absurd c_62 (by decide) | (exfalso; simp at c_62; done) | (exfalso; simp at c_62; omega) | (exfalso; simp_all; done) | (exfalso; simp_all; omega)
    · skip
      have c_62' := c_62
      try simp only [qq] at c_62'
      refine W 6 ?_
      refine cl A (k63) ?_
      refine W 4 ?_
      refine sq_split 97 J (fun g9_2 => ?_) (fun g9_2 => ?_)
      · skip
        have g9_2' := g9_2
        try simp only [qq] at g9_2'
        refine W 3 ?_
        refine sq_split 100 J (fun g9_5 => ?_) (fun g9_5 => ?_)
        · skip
          have g9_5' := g9_5
          try simp only [qq] at g9_5'
          first | exact absurd g9_5 (by decide) | (exfalso; simp at g9_5; done) | (exfalso; simp at g9_5; omega) | (exfalso; simp_all; done) | (exfalso; simp_all; omega)
        · skip
          have g9_5' := g9_5
          try simp only [qq] at g9_5'
          refine W 5 ?_
          refine sq_split 105 J (fun g9_10 => ?_) (fun g9_10 => ?_)
          · skip
            have g9_10' := g9_10
            try simp only [qq] at g9_10'
            first | exact absurd g9_10 (by decide) | (exfalso; simp at g9_10; done) | (exfalso; simp at g9_10; omega) | (exfalso; simp_all; done) | (exfalso; simp_all; omega)
          · skip
            have g9_10' := g9_10
            try simp only [qq] at g9_10'
            refine W 3 ?_
            refine sq_split 108 J (fun g9_13 => ?_) (fun g9_13 => ?_)
            · skip
              have g9_13' := g9_13
              try simp only [qq] at g9_13'
              refine W 3 ?_
              refine sq_split 111 J (fun g9_16 => ?_) (fun g9_16 => ?_)
              · skip
                have g9_16' := g9_16
                try simp only [qq] at g9_16'
                first | exact absurd g9_16 (by decide) | (exfalso; simp at g9_16; done) | (exfalso; simp at g9_16; omega) | (exfalso; simp_all; done) | (exfalso; simp_all; omega)
              · skip
                have g9_16' := g9_16
                try simp only [qq] at g9_16'
                refine W 6 ?_
                refine aw_cond J (fun c_117 => ?_) (fun c_117 => ?_)
                · skip
                  have c_117' := c_117
                  try simp only [qq] at c_117'
                  first | exact absurd c_117 (by decide) | (exfalso; simp at c_117; done) | (exfalso; simp at c_117; omega) | (exfalso; simp_all; done) | (exfalso; simp_all; omega)
                · skip
                  have c_117' := c_117
                  try simp only [qq] at c_117'
                  refine W 6 ?_
                  refine cl A (k64) ?_
                  refine W 4 ?_
                  refine sq_split 127 J (fun g12_2 => ?_) (fun g12_2 => ?_)
                  · skip
                    have g12_2' := g12_2
                    try simp only [qq] at g12_2'
                    refine W 3 ?_
                    refine sq_split 130 J (fun g12_5 => ?_) (fun g12_5 => ?_)
                    · skip
                      have g12_5' := g12_5
                      try simp only [qq] at g12_5'
                      first | exact absurd g12_5 (by decide) | (exfalso; simp at g12_5; done) | (exfalso; simp at g12_5; omega) | (exfalso; simp_all; done) | (exfalso; simp_all; omega)
                    · skip
                      have g12_5' := g12_5
                      try simp only [qq] at g12_5'
                      refine W 5 ?_
                      refine sq_split 135 J (fun g12_10 => ?_) (fun g12_10 => ?_)
                      · skip
                        have g12_10' := g12_10
                        try simp only [qq] at g12_10'
                        first | exact absurd g12_10 (by decide) | (exfalso; simp at g12_10; done) | (exfalso; simp at g12_10; omega) | (exfalso; simp_all; done) | (exfalso; simp_all; omega)
                      · skip
                        have g12_10' := g12_10
                        try simp only [qq] at g12_10'
                        refine W 3 ?_
                        refine sq_split 138 J (fun g12_13 => ?_) (fun g12_13 => ?_)
                        · skip
                          have g12_13' := g12_13
                          try simp only [qq] at g12_13'
                          refine W 3 ?_
                          refine sq_split 141 J (fun g12_16 => ?_) (fun g12_16 => ?_)
                          · skip
                            have g12_16' := g12_16
                            try simp only [qq] at g12_16'
                            first | exact absurd g12_16 (by decide) | (exfalso; simp at g12_16; done) | (exfalso; simp at g12_16; omega) | (exfalso; simp_all; done) | (exfalso; simp_all; omega)
                          · skip
                            have g12_16' := g12_16
                            try simp only [qq] at g12_16'
                            refine W 6 ?_
                            refine aw_cond J (fun c_147 => ?_) (fun c_147 => ?_)
                            · skip
                              have c_147' := c_147
                              try simp only [qq] at c_147'
                              first | exact absurd c_147 (by decide) | (exfalso; simp at c_147; done) | (exfalso; simp at c_147; omega) | (exfalso; simp_all; done) | (exfalso; simp_all; omega)
                            · skip
                              have c_147' := c_147
                              try simp only [qq] at c_147'
                              refine W 2 ?_
                              refine cl A (k26) ?_
                              refine W 1 ?_
                              refine aw_cond J (fun c_151 => ?_) (fun c_151 => ?_)
                              · skip
                                have c_151' := c_151
                                try simp only [qq] at c_151'
                                refine W 7 ?_
                                refine cy A (known_pure) ?_
                                refine W 2 ?_
                                exact retQ_pure (v := .raw _) rfl rfl J
                              · skip
                                have c_151' := c_151
                                try simp only [qq] at c_151'
                                first | exact absurd c_151 (by decide) | (exfalso; simp at c_151; done) | (exfalso; simp at c_151; omega) | (exfalso; simp_all; done) | (exfalso; simp_all; omega)
                        · skip
                          have g12_13' := g12_13
                          try simp only [qq] at g12_13'
                          refine W 12 ?_
                          refine cl A (k26) ?_
                          refine W 1 ?_
                          refine aw_cond J (fun c_151 => ?_) (fun c_151 => ?_)
                          · skip
                            have c_151' := c_151
                            try simp only [qq] at c_151'
                            refine W 7 ?_
                            refine cy A (known_pure) ?_
                            refine W 2 ?_
                            exact retQ_pure (v := .raw _) rfl rfl J
                          · skip
                            have c_151' := c_151
                            try simp only [qq] at c_151'
                            first | exact absurd c_151 (by decide) | (exfalso; simp at c_151; done) | (exfalso; simp at c_151; omega) | (exfalso; simp_all; done) | (exfalso; simp_all; omega)
                  · skip
                    have g12_2' := g12_2
                    try simp only [qq] at g12_2'
                    refine W 11 ?_
                    refine sq_split 138 J (fun g12_13 => ?_) (fun g12_13 => ?_)
                    · skip
                      have g12_13' := g12_13
                      try simp only [qq] at g12_13'
                      refine W 3 ?_
                      refine sq_split 141 J (fun g12_16 => ?_) (fun g12_16 => ?_)
                      · skip
                        have g12_16' := g12_16
                        try simp only [qq] at g12_16'
                        first | exact absurd g12_16 (by decide) | (exfalso; simp at g12_16; done) | (exfalso; simp at g12_16; omega) | (exfalso; simp_all; done) | (exfalso; simp_all; omega)
                      · skip
                        have g12_16' := g12_16
                        try simp only [qq] at g12_16'
                        refine W 6 ?_
                        refine aw_cond J (fun c_147 => ?_) (fun c_147 => ?_)
                        · skip
                          have c_147' := c_147
                          try simp only [qq] at c_147'
                          first | exact absurd c_147 (by decide) | (exfalso; simp at c_147; done) | (exfalso; simp at c_147; omega) | (exfalso; simp_all; done) | (exfalso; simp_all; omega)
                        · skip
                          have c_147' := c_147
                          try simp only [qq] at c_147'
                          refine W 2 ?_
                          refine cl A (k26) ?_
                          refine W 1 ?_
                          refine aw_cond J (fun c_151 => ?_) (fun c_151 => ?_)
                          · skip
                            have c_151' := c_151
                            try simp only [qq] at c_151'
                            refine W 7 ?_
                            refine cy A (known_pure) ?_
                            refine W 2 ?_
                            exact retQ_pure (v := .raw _) rfl rfl J
                          · skip
                            have c_151' := c_151
                            try simp only [qq] at c_151'
                            first | exact absurd c_151 (by decide) | (exfalso; simp at c_151; done) | (exfalso; simp at c_151; omega) | (exfalso; simp_all; done) | (exfalso; simp_all; omega)
                    · skip
                      have g12_13' := g12_13
                      try simp only [qq] at g12_13'
                      refine W 12 ?_
                      refine cl A (k26) ?_
                      refine W 1 ?_
                      refine aw_cond J (fun c_151 => ?_) (fun c_151 => ?_)
                      · skip
                        have c_151' := c_151
                        try simp only [qq] at c_151'
                        refine W 7 ?_
                        refine cy A (known_pure) ?_
                        refine W 2 ?_
                        exact retQ_pure (v := .raw _) rfl rfl J
                      · skip
                        have c_151' := c_151
                        try simp only [qq] at c_151'
                        first | exact absurd c_151 (by decide) | (exfalso; simp at c_151; done) | (exfalso; simp at c_151; omega) | (exfalso; simp_all; done) | (exfalso; simp_all; omega)
            · skip
              have g9_13' := g9_13
              try simp only [qq] at g9_13'
              refine W 16 ?_
              refine cl A (k64) ?_
              refine W 4 ?_
              refine sq_split 127 J (fun g12_2 => ?_) (fun g12_2 => ?_)
              · skip
                have g12_2' := g12_2
                try simp only [qq] at g12_2'
                refine W 3 ?_
                refine sq_split 130 J (fun g12_5 => ?_) (fun g12_5 => ?_)
                · skip
                  have g12_5' := g12_5
                  try simp only [qq] at g12_5'
                  first | exact absurd g12_5 (by decide) | (exfalso; simp at g12_5; done) | (exfalso; simp at g12_5; omega) | (exfalso; simp_all; done) | (exfalso; simp_all; omega)
                · skip
                  have g12_5' := g12_5
                  try simp only [qq] at g12_5'
                  refine W 5 ?_
                  refine sq_split 135 J (fun g12_10 => ?_) (fun g12_10 => ?_)
                  · skip
                    have g12_10' := g12_10
                    try simp only [qq] at g12_10'
                    first | exact absurd g12_10 (by decide) | (exfalso; simp at g12_10; done) | (exfalso; simp at g12_10; omega) | (exfalso; simp_all; done) | (exfalso; simp_all; omega)
                  · skip
                    have g12_10' := g12_10
                    try simp only [qq] at g12_10'
                    refine W 3 ?_
                    refine sq_split 138 J (fun g12_13 => ?_) (fun g12_13 => ?_)
                    · skip
                      have g12_13' := g12_13
                      try simp only [qq] at g12_13'
                      refine W 3 ?_
                      refine sq_split 141 J (fun g12_16 => ?_) (fun g12_16 => ?_)
                      · skip
                        have g12_16' := g12_16
                        try simp only [qq] at g12_16'
                        first | exact absurd g12_16 (by decide) | (exfalso; simp at g12_16; done) | (exfalso; simp at g12_16; omega) | (exfalso; simp_all; done) | (exfalso; simp_all; omega)
                      · skip
                        have g12_16' := g12_16
                        try simp only [qq] at g12_16'
                        refine W 6 ?_
                        refine aw_cond J (fun c_147 => ?_) (fun c_147 => ?_)
                        · skip
                          have c_147' := c_147
                          try simp only [qq] at c_147'
                          first | exact absurd c_147 (by decide) | (exfalso; simp at c_147; done) | (exfalso; simp at c_147; omega) | (exfalso; simp_all; done) | (exfalso; simp_all; omega)
                        · skip
                          have c_147' := c_147
                          try simp only [qq] at c_147'
                          refine W 2 ?_
                          refine cl A (k26) ?_
                          refine W 1 ?_
                          refine aw_cond J (fun c_151 => ?_) (fun c_151 => ?_)
                          · skip
                            have c_151' := c_151
                            try simp only [qq] at c_151'
                            refine W 7 ?_
                            refine cy A (known_pure) ?_
                            refine W 2 ?_
                            exact retQ_pure (v := .raw _) rfl rfl J
                          · skip
                            have c_151' := c_151
                            try simp only [qq] at c_151'
                            first | exact absurd c_151 (by decide) | (exfalso; simp at c_151; done) | (exfalso; simp at c_151; omega) | (exfalso; simp_all; done) | (exfalso; simp_all; omega)
                    · skip
                      have g12_13' := g12_13
                      try simp only [qq] at g12_13'
                      refine W 12 ?_
                      refine cl A (k26) ?_
                      refine W 1 ?_
                      refine aw_cond J (fun c_151 => ?_) (fun c_151 => ?_)
                      · skip
                        have c_151' := c_151
                        try simp only [qq] at c_151'
                        refine W 7 ?_
                        refine cy A (known_pure) ?_
                        refine W 2 ?_
                        exact retQ_pure (v := .raw _) rfl rfl J
                      · skip
                        have c_151' := c_151
                        try simp only [qq] at c_151'
                        first | exact absurd c_151 (by decide) | (exfalso; simp at c_151; done) | (exfalso; simp at c_151; omega) | (exfalso; simp_all; done) | (exfalso; simp_all; omega)
              · skip
                have g12_2' := g12_2
                try simp only [qq] at g12_2'
                refine W 11 ?_
                refine sq_split 138 J (fun g12_13 => ?_) (fun g12_13 => ?_)
                · skip
                  have g12_13' := g12_13
                  try simp only [qq] at g12_13'
                  refine W 3 ?_
                  refine sq_split 141 J (fun g12_16 => ?_) (fun g12_16 => ?_)
                  · skip
                    have g12_16' := g12_16
                    try simp only [qq] at g12_16'
                    first | exact absurd g12_16 (by decide) | (exfalso; simp at g12_16; done) | (exfalso; simp at g12_16; omega) | (exfalso; simp_all; done) | (exfalso; simp_all; omega)
                  · skip
                    have g12_16' := g12_16
                    try simp only [qq] at g12_16'
                    refine W 6 ?_
                    refine aw_cond J (fun c_147 => ?_) (fun c_147 => ?_)
                    · skip
                      have c_147' := c_147
                      try simp only [qq] at c_147'
                      first | exact absurd c_147 (by decide) | (exfalso; simp at c_147; done) | (exfalso; simp at c_147; omega) | (exfalso; simp_all; done) | (exfalso; simp_all; omega)
                    · skip
                      have c_147' := c_147
                      try simp only [qq] at c_147'
                      refine W 2 ?_
                      refine cl A (k26) ?_
                      refine W 1 ?_
                      refine aw_cond J (fun c_151 => ?_) (fun c_151 => ?_)
                      · skip
                        have c_151' := c_151
                        try simp only [qq] at c_151'
                        refine W 7 ?_
                        refine cy A (known_pure) ?_
                        refine W 2 ?_
                        exact retQ_pure (v := .raw _) rfl rfl J
                      · skip
                        have c_151' := c_151
                        try simp only [qq] at c_151'
                        first | exact absurd c_151 (by decide) | (exfalso; simp at c_151; done) | (exfalso; simp at c_151; omega) | (exfalso; simp_all; done) | (exfalso; simp_all; omega)
                · skip
                  have g12_13' := g12_13
                  try simp only [qq] at g12_13'
                  refine W 12 ?_
                  refine cl A (k26) ?_
                  refine W 1 ?_
                  refine aw_cond J (fun c_151 => ?_) (fun c_151 => ?_)
                  · skip
                    have c_151' := c_151
                    try simp only [qq] at c_151'
                    refine W 7 ?_
                    refine cy A (known_pure) ?_
                    refine W 2 ?_
                    exact retQ_pure (v := .raw _) rfl rfl J
                  · skip
                    have c_151' := c_151
                    try simp only [qq] at c_151'
                    first | exact absurd c_151 (by decide) | (exfalso; simp at c_151; done) | (exfalso; simp at c_151; omega) | (exfalso; simp_all; done) | (exfalso; simp_all; omega)
      · skip
        have g9_2' := g9_2
        try simp only [qq] at g9_2'
        refine W 11 ?_
        refine sq_split 108 J (fun g9_13 => ?_) (fun g9_13 => ?_)
        · skip
          have g9_13' := g9_13
          try simp only [qq] at g9_13'
          refine W 3 ?_
          refine sq_split 111 J (fun g9_16 => ?_) (fun g9_16 => ?_)
          · skip
            have g9_16' := g9_16
            try simp only [qq] at g9_16'
            first | exact absurd g9_16 (by decide) | (exfalso; simp at g9_16; done) | (exfalso; simp at g9_16; omega) | (exfalso; simp_all; done) | (exfalso; simp_all; omega)
          · skip
            have g9_16' := g9_16
            try simp only [qq] at g9_16'
            refine W 6 ?_
            refine aw_cond J (fun c_117 => ?_) (fun c_117 => ?_)
            · skip
              have c_117' := c_117
              try simp only [qq] at c_117'
              first | exact absurd c_117 (by decide) | (exfalso; simp at c_117; done) | (exfalso; simp at c_117; omega) | (exfalso; simp_all; done) | (exfalso; simp_all; omega)
            · skip
              have c_117' := c_117
              try simp only [qq] at c_117'
              refine W 6 ?_
              refine cl A (k64) ?_
              refine W 4 ?_
              refine sq_split 127 J (fun g12_2 => ?_) (fun g12_2 => ?_)
              · skip
                have g12_2' := g12_2
                try simp only [qq] at g12_2'
                refine W 3 ?_
                refine sq_split 130 J (fun g12_5 => ?_) (fun g12_5 => ?_)
                · skip
                  have g12_5' := g12_5
                  try simp only [qq] at g12_5'
                  first | exact absurd g12_5 (by decide) | (exfalso; simp at g12_5; done) | (exfalso; simp at g12_5; omega) | (exfalso; simp_all; done) | (exfalso; simp_all; omega)
                · skip
                  have g12_5' := g12_5
                  try simp only [qq] at g12_5'
                  refine W 5 ?_
                  refine sq_split 135 J (fun g12_10 => ?_) (fun g12_10 => ?_)
                  · skip
                    have g12_10' := g12_10
                    try simp only [qq] at g12_10'
                    first | exact absurd g12_10 (by decide) | (exfalso; simp at g12_10; done) | (exfalso; simp at g12_10; omega) | (exfalso; simp_all; done) | (exfalso; simp_all; omega)
                  · skip
                    have g12_10' := g12_10
                    try simp only [qq] at g12_10'
                    refine W 3 ?_
                    refine sq_split 138 J (fun g12_13 => ?_) (fun g12_13 => ?_)
                    · skip
                      have g12_13' := g12_13
                      try simp only [qq] at g12_13'
                      refine W 3 ?_
                      refine sq_split 141 J (fun g12_16 => ?_) (fun g12_16 => ?_)
                      · skip
                        have g12_16' := g12_16
                        try simp only [qq] at g12_16'
                        first | exact absurd g12_16 (by decide) | (exfalso; simp at g12_16; done) | (exfalso; simp at g12_16; omega) | (exfalso; simp_all; done) | (exfalso; simp_all; omega)
                      · skip
                        have g12_16' := g12_16
                        try simp only [qq] at g12_16'
                        refine W 6 ?_
                        refine aw_cond J (fun c_147 => ?_) (fun c_147 => ?_)
                        · skip
                          have c_147' := c_147
                          try simp only [qq] at c_147'
                          first | exact absurd c_147 (by decide) | (exfalso; simp at c_147; done) | (exfalso; simp at c_147; omega) | (exfalso; simp_all; done) | (exfalso; simp_all; omega)
                        · skip
                          have c_147' := c_147
                          try simp only [qq] at c_147'
                          refine W 2 ?_
                          refine cl A (k26) ?_
                          refine W 1 ?_
                          refine aw_cond J (fun c_151 => ?_) (fun c_151 => ?_)
                          · skip
                            have c_151' := c_151
                            try simp only [qq] at c_151'
                            refine W 7 ?_
                            refine cy A (known_pure) ?_
                            refine W 2 ?_
                            exact retQ_pure (v := .raw _) rfl rfl J
                          · skip
                            have c_151' := c_151
                            try simp only [qq] at c_151'
                            first | exact absurd c_151 (by decide) | (exfalso; simp at c_151; done) | (exfalso; simp at c_151; omega) | (exfalso; simp_all; done) | (exfalso; simp_all; omega)
                    · skip
                      have g12_13' := g12_13
                      try simp only [qq] at g12_13'
                      refine W 12 ?_
                      refine cl A (k26) ?_
                      refine W 1 ?_
                      refine aw_cond J (fun c_151 => ?_) (fun c_151 => ?_)
                      · skip
                        have c_151' := c_151
                        try simp only [qq] at c_151'
                        refine W 7 ?_
                        refine cy A (known_pure) ?_
                        refine W 2 ?_
                        exact retQ_pure (v := .raw _) rfl rfl J
                      · skip
                        have c_151' := c_151
                        try simp only [qq] at c_151'
                        first | exact absurd c_151 (by decide) | (exfalso; simp at c_151; done) | (exfalso; simp at c_151; omega) | (exfalso; simp_all; done) | (exfalso; simp_all; omega)
              · skip
                have g12_2' := g12_2
                try simp only [qq] at g12_2'
                refine W 11 ?_
                refine sq_split 138 J (fun g12_13 => ?_) (fun g12_13 => ?_)
                · skip
                  have g12_13' := g12_13
                  try simp only [qq] at g12_13'
                  refine W 3 ?_
                  refine sq_split 141 J (fun g12_16 => ?_) (fun g12_16 => ?_)
                  · skip
                    have g12_16' := g12_16
                    try simp only [qq] at g12_16'
                    first | exact absurd g12_16 (by decide) | (exfalso; simp at g12_16; done) | (exfalso; simp at g12_16; omega) | (exfalso; simp_all; done) | (exfalso; simp_all; omega)
                  · skip
                    have g12_16' := g12_16
                    try simp only [qq] at g12_16'
                    refine W 6 ?_
                    refine aw_cond J (fun c_147 => ?_) (fun c_147 => ?_)
                    · skip
                      have c_147' := c_147
                      try simp only [qq] at c_147'
                      first | exact absurd c_147 (by decide) | (exfalso; simp at c_147; done) | (exfalso; simp at c_147; omega) | (exfalso; simp_all; done) | (exfalso; simp_all; omega)
                    · skip
                      have c_147' := c_147
                      try simp only [qq] at c_147'
                      refine W 2 ?_
                      refine cl A (k26) ?_
                      refine W 1 ?_
                      refine aw_cond J (fun c_151 => ?_) (fun c_151 => ?_)
                      · skip
                        have c_151' := c_151
                        try simp only [qq] at c_151'
                        refine W 7 ?_
                        refine cy A (known_pure) ?_
                        refine W 2 ?_
                        exact retQ_pure (v := .raw _) rfl rfl J
                      · skip
                        have c_151' := c_151
                        try simp only [qq] at c_151'
                        first | exact absurd c_151 (by decide) | (exfalso; simp at c_151; done) | (exfalso; simp at c_151; omega) | (exfalso; simp_all; done) | (exfalso; simp_all; omega)
                · skip
                  have g12_13' := g12_13
                  try simp only [qq] at g12_13'
                  refine W 12 ?_
                  refine cl A (k26) ?_
                  refine W 1 ?_
                  refine aw_cond J (fun c_151 => ?_) (fun c_151 => ?_)
                  · skip
                    have c_151' := c_151
                    try simp only [qq] at c_151'
                    refine W 7 ?_
                    refine cy A (known_pure) ?_
                    refine W 2 ?_
                    exact retQ_pure (v := .raw _) rfl rfl J
                  · skip
                    have c_151' := c_151
                    try simp only [qq] at c_151'
                    first | exact absurd c_151 (by decide) | (exfalso; simp at c_151; done) | (exfalso; simp at c_151; omega) | (exfalso; simp_all; done) | (exfalso; simp_all; omega)
        · skip
          have g9_13' := g9_13
          try simp only [qq] at g9_13'
          refine W 16 ?_
          refine cl A (k64) ?_
          refine W 4 ?_
          refine sq_split 127 J (fun g12_2 => ?_) (fun g12_2 => ?_)
          · skip
            have g12_2' := g12_2
            try simp only [qq] at g12_2'
            refine W 3 ?_
            refine sq_split 130 J (fun g12_5 => ?_) (fun g12_5 => ?_)
            · skip
              have g12_5' := g12_5
              try simp only [qq] at g12_5'
              first | exact absurd g12_5 (by decide) | (exfalso; simp at g12_5; done) | (exfalso; simp at g12_5; omega) | (exfalso; simp_all; done) | (exfalso; simp_all; omega)
            · skip
              have g12_5' := g12_5
              try simp only [qq] at g12_5'
              refine W 5 ?_
              refine sq_split 135 J (fun g12_10 => ?_) (fun g12_10 => ?_)
              · skip
                have g12_10' := g12_10
                try simp only [qq] at g12_10'
                first | exact absurd g12_10 (by decide) | (exfalso; simp at g12_10; done) | (exfalso; simp at g12_10; omega) | (exfalso; simp_all; done) | (exfalso; simp_all; omega)
              · skip
                have g12_10' := g12_10
                try simp only [qq] at g12_10'
                refine W 3 ?_
                refine sq_split 138 J (fun g12_13 => ?_) (fun g12_13 => ?_)
                · skip
                  have g12_13' := g12_13
                  try simp only [qq] at g12_13'
                  refine W 3 ?_
                  refine sq_split 141 J (fun g12_16 => ?_) (fun g12_16 => ?_)
                  · skip
                    have g12_16' := g12_16
                    try simp only [qq] at g12_16'
                    first | exact absurd g12_16 (by decide) | (exfalso; simp at g12_16; done) | (exfalso; simp at g12_16; omega) | (exfalso; simp_all; done) | (exfalso; simp_all; omega)
                  · skip
                    have g12_16' := g12_16
                    try simp only [qq] at g12_16'
                    refine W 6 ?_
                    refine aw_cond J (fun c_147 => ?_) (fun c_147 => ?_)
                    · skip
                      have c_147' := c_147
                      try simp only [qq] at c_147'
                      first | exact absurd c_147 (by decide) | (exfalso; simp at c_147; done) | (exfalso; simp at c_147; omega) | (exfalso; simp_all; done) | (exfalso; simp_all; omega)
                    · skip
                      have c_147' := c_147
                      try simp only [qq] at c_147'
                      refine W 2 ?_
                      refine cl A (k26) ?_
                      refine W 1 ?_
                      refine aw_cond J (fun c_151 => ?_) (fun c_151 => ?_)
                      · skip
                        have c_151' := c_151
                        try simp only [qq] at c_151'
                        refine W 7 ?_
                        refine cy A (known_pure) ?_
                        refine W 2 ?_
                        exact retQ_pure (v := .raw _) rfl rfl J
                      · skip
                        have c_151' := c_151
                        try simp only [qq] at c_151'
                        first | exact absurd c_151 (by decide) | (exfalso; simp at c_151; done) | (exfalso; simp at c_151; omega) | (exfalso; simp_all; done) | (exfalso; simp_all; omega)
                · skip
                  have g12_13' := g12_13
                  try simp only [qq] at g12_13'
                  refine W 12 ?_
                  refine cl A (k26) ?_
                  refine W 1 ?_
                  refine aw_cond J (fun c_151 => ?_) (fun c_151 => ?_)
                  · skip
                    have c_151' := c_151
                    try simp only [qq] at c_151'
                    refine W 7 ?_
                    refine cy A (known_pure) ?_
                    refine W 2 ?_
                    exact retQ_pure (v := .raw _) rfl rfl J
                  · skip
                    have c_151' := c_151
                    try simp only [qq] at c_151'
                    first | exact absurd c_151 (by decide) | (exfalso; simp at c_151; done) | (exfalso; simp at c_151; omega) | (exfalso; simp_all; done) | (exfalso; simp_all; omega)
          · skip
            have g12_2' := g12_2
            try simp only [qq] at g12_2'
            refine W 11 ?_
            refine sq_split 138 J (fun g12_13 => ?_) (fun g12_13 => ?_)
            · skip
              have g12_13' := g12_13
              try simp only [qq] at g12_13'
              refine W 3 ?_
              refine sq_split 141 J (fun g12_16 => ?_) (fun g12_16 => ?_)
              · skip
                have g12_16' := g12_16
                try simp only [qq] at g12_16'
                first | exact absurd g12_16 (by decide) | (exfalso; simp at g12_16; done) | (exfalso; simp at g12_16; omega) | (exfalso; simp_all; done) | (exfalso; simp_all; omega)
              · skip
                have g12_16' := g12_16
                try simp only [qq] at g12_16'
                refine W 6 ?_
                refine aw_cond J (fun c_147 => ?_) (fun c_147 => ?_)
                · skip
                  have c_147' := c_147
                  try simp only [qq] at c_147'
                  first | exact absurd c_147 (by decide) | (exfalso; simp at c_147; done) | (exfalso; simp at c_147; omega) | (exfalso; simp_all; done) | (exfalso; simp_all; omega)
                · skip
                  have c_147' := c_147
                  try simp only [qq] at c_147'
                  refine W 2 ?_
                  refine cl A (k26) ?_
                  refine W 1 ?_
                  refine aw_cond J (fun c_151 => ?_) (fun c_151 => ?_)
                  · skip
                    have c_151' := c_151
                    try simp only [qq] at c_151'
                    refine W 7 ?_
                    refine cy A (known_pure) ?_
                    refine W 2 ?_
                    exact retQ_pure (v := .raw _) rfl rfl J
                  · skip
                    have c_151' := c_151
                    try simp only [qq] at c_151'
                    first | exact absurd c_151 (by decide) | (exfalso; simp at c_151; done) | (exfalso; simp at c_151; omega) | (exfalso; simp_all; done) | (exfalso; simp_all; omega)
            · skip
              have g12_13' := g12_13
              try simp only [qq] at g12_13'
              refine W 12 ?_
              refine cl A (k26) ?_
              refine W 1 ?_
              refine aw_cond J (fun c_151 => ?_) (fun c_151 => ?_)
              · skip
                have c_151' := c_151
                try simp only [qq] at c_151'
                refine W 7 ?_
                refine cy A (known_pure) ?_
                refine W 2 ?_
                exact retQ_pure (v := .raw _) rfl rfl J
              · skip
                have c_151' := c_151
                try simp only [qq] at c_151'
                first | exact absurd c_151 (by decide) | (exfalso; simp at c_151; done) | (exfalso; simp at c_151; omega) | (exfalso; simp_all; done) | (exfalso; simp_all; omega)
theorem fits_yes {c : Ca} {is : Bool} {n g x m h y : Int} (k23 : APure Tryz.prog 23 [strs c.f] (B true)) (k24 : APure Tryz.prog 24 [stA c.s] (B true)) (k25 : APure Tryz.prog 25 [fgA c.f] (B true)) (k31 : APure Tryz.prog 31 [I c.p.x, I c.p.y] (B true)) (k61 : APure Tryz.prog 61 [stA c.s, fgA c.f, I c.p.x, I c.p.y] (.tup [I n, I g])) (k62 : APure Tryz.prog 62 [stA c.s, fgA c.f, I c.p.x, I c.p.y] (.tup [I m, I h]))
    (k63 : APure Tryz.prog 63 [stA c.s, fgA c.f, I c.p.x, I c.p.y] (I x)) (k64 : APure Tryz.prog 64 [stA c.s, fgA c.f, I c.p.x, I c.p.y] (I y)) (hx : (x = -1 ∧ g = 5 ∧ n = 0) ∨ (0 ≤ x ∧ g = 0 ∧ n = x)) (hy : (y = -1 ∧ h = 5 ∧ m = 0) ∨ (0 ≤ y ∧ h = 0 ∧ m = y)) (k60 : APure Tryz.prog 60 [stA c.s, fgA c.f, pcA c.p] (.tup [B is, I 0])) (k26 : APure Tryz.prog 26 [stA c.s, pcA c.p] (B true)) (k65 : APure Tryz.prog 65 [stA c.s, fgA c.f, pcA c.p] (B is)) : APure Tryz.prog 13 [stA c.s, fgA c.f, pcA c.p] (B true) := by
  refine apure_of (rs := [.tmp 6]) Tryz.func13 rfl rfl (Nat.le_of_ble_eq_true rfl) (by simp [AV.pureL, AV.pureB, AV.pureE, pureE_map]) (by first | rfl | (simp [AV.pureL, AV.pureB, AV.pureE, pureE_map])) fun e0 he0 => ?_
  refine W 6 ?_
  refine cl A (k23) ?_
  refine W 1 ?_
  refine aw_cond J (fun c_18 => ?_) (fun c_18 => ?_)
  · skip
    have c_18' := c_18
    try simp only [qq] at c_18'
    first | exact absurd c_18 (by decide) | (exfalso; simp at c_18; done) | (exfalso; simp at c_18; omega) | (exfalso; simp_all; done) | (exfalso; simp_all; omega)
  · skip
    have c_18' := c_18
    try simp only [qq] at c_18'
    refine W 3 ?_
    refine cl A (k60) ?_
    refine W 11 ?_
    refine cl A (k61) ?_
    refine W 11 ?_
    refine cl A (k62) ?_
    refine W 6 ?_
    refine cl A (k24) ?_
    refine W 3 ?_
    refine cy A (k25) ?_
    refine W 7 ?_
    refine cy A (k31) ?_
    refine W 2 ?_
    refine aw_cond J (fun c_62 => ?_) (fun c_62 => ?_)
    · skip
      have c_62' := c_62
      try simp only [qq] at c_62'
      first | exact absurd c_62 (by decide) | (exfalso; simp at c_62; done) | (exfalso; simp at c_62; omega) | (exfalso; simp_all; done) | (exfalso; simp_all; omega)
    · skip
      have c_62' := c_62
      try simp only [qq] at c_62'
      refine W 6 ?_
      refine cl A (k63) ?_
      refine W 4 ?_
      refine sq_split 97 J (fun g9_2 => ?_) (fun g9_2 => ?_)
      · skip
        have g9_2' := g9_2
        try simp only [qq] at g9_2'
        refine W 3 ?_
        refine sq_split 100 J (fun g9_5 => ?_) (fun g9_5 => ?_)
        · skip
          have g9_5' := g9_5
          try simp only [qq] at g9_5'
          first | exact absurd g9_5 (by decide) | (exfalso; simp at g9_5; done) | (exfalso; simp at g9_5; omega) | (exfalso; simp_all; done) | (exfalso; simp_all; omega)
        · skip
          have g9_5' := g9_5
          try simp only [qq] at g9_5'
          refine W 5 ?_
          refine sq_split 105 J (fun g9_10 => ?_) (fun g9_10 => ?_)
          · skip
            have g9_10' := g9_10
            try simp only [qq] at g9_10'
            first | exact absurd g9_10 (by decide) | (exfalso; simp at g9_10; done) | (exfalso; simp at g9_10; omega) | (exfalso; simp_all; done) | (exfalso; simp_all; omega)
          · skip
            have g9_10' := g9_10
            try simp only [qq] at g9_10'
            refine W 3 ?_
            refine sq_split 108 J (fun g9_13 => ?_) (fun g9_13 => ?_)
            · skip
              have g9_13' := g9_13
              try simp only [qq] at g9_13'
              refine W 3 ?_
              refine sq_split 111 J (fun g9_16 => ?_) (fun g9_16 => ?_)
              · skip
                have g9_16' := g9_16
                try simp only [qq] at g9_16'
                first | exact absurd g9_16 (by decide) | (exfalso; simp at g9_16; done) | (exfalso; simp at g9_16; omega) | (exfalso; simp_all; done) | (exfalso; simp_all; omega)
              · skip
                have g9_16' := g9_16
                try simp only [qq] at g9_16'
                refine W 6 ?_
                refine aw_cond J (fun c_117 => ?_) (fun c_117 => ?_)
                · skip
                  have c_117' := c_117
                  try simp only [qq] at c_117'
                  first | exact absurd c_117 (by decide) | (exfalso; simp at c_117; done) | (exfalso; simp at c_117; omega) | (exfalso; simp_all; done) | (exfalso; simp_all; omega)
                · skip
                  have c_117' := c_117
                  try simp only [qq] at c_117'
                  refine W 6 ?_
                  refine cl A (k64) ?_
                  refine W 4 ?_
                  refine sq_split 127 J (fun g12_2 => ?_) (fun g12_2 => ?_)
                  · skip
                    have g12_2' := g12_2
                    try simp only [qq] at g12_2'
                    refine W 3 ?_
                    refine sq_split 130 J (fun g12_5 => ?_) (fun g12_5 => ?_)
                    · skip
                      have g12_5' := g12_5
                      try simp only [qq] at g12_5'
                      first | exact absurd g12_5 (by decide) | (exfalso; simp at g12_5; done) | (exfalso; simp at g12_5; omega) | (exfalso; simp_all; done) | (exfalso; simp_all; omega)
                    · skip
                      have g12_5' := g12_5
                      try simp only [qq] at g12_5'
                      refine W 5 ?_
                      refine sq_split 135 J (fun g12_10 => ?_) (fun g12_10 => ?_)
                      · skip
                        have g12_10' := g12_10
                        try simp only [qq] at g12_10'
                        first | exact absurd g12_10 (by decide) | (exfalso; simp at g12_10; done) | (exfalso; simp at g12_10; omega) | (exfalso; simp_all; done) | (exfalso; simp_all; omega)
                      · skip
                        have g12_10' := g12_10
                        try simp only [qq] at g12_10'
                        refine W 3 ?_
                        refine sq_split 138 J (fun g12_13 => ?_) (fun g12_13 => ?_)
                        · skip
                          have g12_13' := g12_13
                          try simp only [qq] at g12_13'
                          refine W 3 ?_
                          refine sq_split 141 J (fun g12_16 => ?_) (fun g12_16 => ?_)
                          · skip
                            have g12_16' := g12_16
                            try simp only [qq] at g12_16'
                            first | exact absurd g12_16 (by decide) | (exfalso; simp at g12_16; done) | (exfalso; simp at g12_16; omega) | (exfalso; simp_all; done) | (exfalso; simp_all; omega)
                          · skip
                            have g12_16' := g12_16
                            try simp only [qq] at g12_16'
                            refine W 6 ?_
                            refine aw_cond J (fun c_147 => ?_) (fun c_147 => ?_)
                            · skip
                              have c_147' := c_147
                              try simp only [qq] at c_147'
                              first | exact absurd c_147 (by decide) | (exfalso; simp at c_147; done) | (exfalso; simp at c_147; omega) | (exfalso; simp_all; done) | (exfalso; simp_all; omega)
                            · skip
                              have c_147' := c_147
                              try simp only [qq] at c_147'
                              refine W 2 ?_
                              refine cl A (k26) ?_
                              refine W 1 ?_
                              refine aw_cond J (fun c_151 => ?_) (fun c_151 => ?_)
                              · skip
                                have c_151' := c_151
                                try simp only [qq] at c_151'
                                first | exact absurd c_151 (by decide) | (exfalso; simp at c_151; done) | (exfalso; simp at c_151; omega) | (exfalso; simp_all; done) | (exfalso; simp_all; omega)
                              · skip
                                have c_151' := c_151
                                try simp only [qq] at c_151'
                                refine W 7 ?_
                                refine cy A (k65) ?_
                                refine W 3 ?_
                                refine sq_split 171 J (fun g16_10 => ?_) (fun g16_10 => ?_)
                                · skip
                                  have g16_10' := g16_10
                                  try simp only [qq] at g16_10'
                                  refine cy A (known_pure) ?_
                                  refine W 2 ?_
                                  exact retQ_pure (v := .raw _) rfl rfl J
                                · skip
                                  have g16_10' := g16_10
                                  try simp only [qq] at g16_10'
                                  first | exact absurd g16_10 (by decide) | (exfalso; simp at g16_10; done) | (exfalso; simp at g16_10; omega) | (exfalso; simp_all; done) | (exfalso; simp_all; omega)
                        · skip
                          have g12_13' := g12_13
                          try simp only [qq] at g12_13'
                          refine W 12 ?_
                          refine cl A (k26) ?_
                          refine W 1 ?_
                          refine aw_cond J (fun c_151 => ?_) (fun c_151 => ?_)
                          · skip
                            have c_151' := c_151
                            try simp only [qq] at c_151'
                            first | exact absurd c_151 (by decide) | (exfalso; simp at c_151; done) | (exfalso; simp at c_151; omega) | (exfalso; simp_all; done) | (exfalso; simp_all; omega)
                          · skip
                            have c_151' := c_151
                            try simp only [qq] at c_151'
                            refine W 7 ?_
                            refine cy A (k65) ?_
                            refine W 3 ?_
                            refine sq_split 171 J (fun g16_10 => ?_) (fun g16_10 => ?_)
                            · skip
                              have g16_10' := g16_10
                              try simp only [qq] at g16_10'
                              refine cy A (known_pure) ?_
                              refine W 2 ?_
                              exact retQ_pure (v := .raw _) rfl rfl J
                            · skip
                              have g16_10' := g16_10
                              try simp only [qq] at g16_10'
                              first | exact absurd g16_10 (by decide) | (exfalso; simp at g16_10; done) | (exfalso; simp at g16_10; omega) | (exfalso; simp_all; done) | (exfalso; simp_all; omega)
                  · skip
                    have g12_2' := g12_2
                    try simp only [qq] at g12_2'
                    refine W 11 ?_
                    refine sq_split 138 J (fun g12_13 => ?_) (fun g12_13 => ?_)
                    · skip
                      have g12_13' := g12_13
                      try simp only [qq] at g12_13'
                      refine W 3 ?_
                      refine sq_split 141 J (fun g12_16 => ?_) (fun g12_16 => ?_)
                      · skip
                        have g12_16' := g12_16
                        try simp only [qq] at g12_16'
                        first | exact absurd g12_16 (by decide) | (exfalso; simp at g12_16; done) | (exfalso; simp at g12_16; omega) | (exfalso; simp_all; done) | (exfalso; simp_all; omega)
                      · skip
                        have g12_16' := g12_16
                        try simp only [qq] at g12_16'
                        refine W 6 ?_
                        refine aw_cond J (fun c_147 => ?_) (fun c_147 => ?_)
                        · skip
                          have c_147' := c_147
                          try simp only [qq] at c_147'
                          first | exact absurd c_147 (by decide) | (exfalso; simp at c_147; done) | (exfalso; simp at c_147; omega) | (exfalso; simp_all; done) | (exfalso; simp_all; omega)
                        · skip
                          have c_147' := c_147
                          try simp only [qq] at c_147'
                          refine W 2 ?_
                          refine cl A (k26) ?_
                          refine W 1 ?_
                          refine aw_cond J (fun c_151 => ?_) (fun c_151 => ?_)
                          · skip
                            have c_151' := c_151
                            try simp only [qq] at c_151'
                            first | exact absurd c_151 (by decide) | (exfalso; simp at c_151; done) | (exfalso; simp at c_151; omega) | (exfalso; simp_all; done) | (exfalso; simp_all; omega)
                          · skip
                            have c_151' := c_151
                            try simp only [qq] at c_151'
                            refine W 7 ?_
                            refine cy A (k65) ?_
                            refine W 3 ?_
                            refine sq_split 171 J (fun g16_10 => ?_) (fun g16_10 => ?_)
                            · skip
                              have g16_10' := g16_10
                              try simp only [qq] at g16_10'
                              refine cy A (known_pure) ?_
                              refine W 2 ?_
                              exact retQ_pure (v := .raw _) rfl rfl J
                            · skip
                              have g16_10' := g16_10
                              try simp only [qq] at g16_10'
                              first | exact absurd g16_10 (by decide) | (exfalso; simp at g16_10; done) | (exfalso; simp at g16_10; omega) | (exfalso; simp_all; done) | (exfalso; simp_all; omega)
                    · skip
                      have g12_13' := g12_13
                      try simp only [qq] at g12_13'
                      refine W 12 ?_
                      refine cl A (k26) ?_
                      refine W 1 ?_
                      refine aw_cond J (fun c_151 => ?_) (fun c_151 => ?_)
                      · skip
                        have c_151' := c_151
                        try simp only [qq] at c_151'
                        first | exact absurd c_151 (by decide) | (exfalso; simp at c_151; done) | (exfalso; simp at c_151; omega) | (exfalso; simp_all; done) | (exfalso; simp_all; omega)
                      · skip
                        have c_151' := c_151
                        try simp only [qq] at c_151'
                        refine W 7 ?_
                        refine cy A (k65) ?_
                        refine W 3 ?_
                        refine sq_split 171 J (fun g16_10 => ?_) (fun g16_10 => ?_)
                        · skip
                          have g16_10' := g16_10
                          try simp only [qq] at g16_10'
                          refine cy A (known_pure) ?_
                          refine W 2 ?_
                          exact retQ_pure (v := .raw _) rfl rfl J
                        · skip
                          have g16_10' := g16_10
                          try simp only [qq] at g16_10'
                          first | exact absurd g16_10 (by decide) | (exfalso; simp at g16_10; done) | (exfalso; simp at g16_10; omega) | (exfalso; simp_all; done) | (exfalso; simp_all; omega)
            · skip
              have g9_13' := g9_13
              try simp only [qq] at g9_13'
              refine W 16 ?_
              refine cl A (k64) ?_
              refine W 4 ?_
              refine sq_split 127 J (fun g12_2 => ?_) (fun g12_2 => ?_)
              · skip
                have g12_2' := g12_2
                try simp only [qq] at g12_2'
                refine W 3 ?_
                refine sq_split 130 J (fun g12_5 => ?_) (fun g12_5 => ?_)
                · skip
                  have g12_5' := g12_5
                  try simp only [qq] at g12_5'
                  first | exact absurd g12_5 (by decide) | (exfalso; simp at g12_5; done) | (exfalso; simp at g12_5; omega) | (exfalso; simp_all; done) | (exfalso; simp_all; omega)
                · skip
                  have g12_5' := g12_5
                  try simp only [qq] at g12_5'
                  refine W 5 ?_
                  refine sq_split 135 J (fun g12_10 => ?_) (fun g12_10 => ?_)
                  · skip
                    have g12_10' := g12_10
                    try simp only [qq] at g12_10'
                    first | exact absurd g12_10 (by decide) | (exfalso; simp at g12_10; done) | (exfalso; simp at g12_10; omega) | (exfalso; simp_all; done) | (exfalso; simp_all; omega)
                  · skip
                    have g12_10' := g12_10
                    try simp only [qq] at g12_10'
                    refine W 3 ?_
                    refine sq_split 138 J (fun g12_13 => ?_) (fun g12_13 => ?_)
                    · skip
                      have g12_13' := g12_13
                      try simp only [qq] at g12_13'
                      refine W 3 ?_
                      refine sq_split 141 J (fun g12_16 => ?_) (fun g12_16 => ?_)
                      · skip
                        have g12_16' := g12_16
                        try simp only [qq] at g12_16'
                        first | exact absurd g12_16 (by decide) | (exfalso; simp at g12_16; done) | (exfalso; simp at g12_16; omega) | (exfalso; simp_all; done) | (exfalso; simp_all; omega)
                      · skip
                        have g12_16' := g12_16
                        try simp only [qq] at g12_16'
                        refine W 6 ?_
                        refine aw_cond J (fun c_147 => ?_) (fun c_147 => ?_)
                        · skip
                          have c_147' := c_147
                          try simp only [qq] at c_147'
                          first | exact absurd c_147 (by decide) | (exfalso; simp at c_147; done) | (exfalso; simp at c_147; omega) | (exfalso; simp_all; done) | (exfalso; simp_all; omega)
                        · skip
                          have c_147' := c_147
                          try simp only [qq] at c_147'
                          refine W 2 ?_
                          refine cl A (k26) ?_
                          refine W 1 ?_
                          refine aw_cond J (fun c_151 => ?_) (fun c_151 => ?_)
                          · skip
                            have c_151' := c_151
                            try simp only [qq] at c_151'
                            first | exact absurd c_151 (by decide) | (exfalso; simp at c_151; done) | (exfalso; simp at c_151; omega) | (exfalso; simp_all; done) | (exfalso; simp_all; omega)
                          · skip
                            have c_151' := c_151
                            try simp only [qq] at c_151'
                            refine W 7 ?_
                            refine cy A (k65) ?_
                            refine W 3 ?_
                            refine sq_split 171 J (fun g16_10 => ?_) (fun g16_10 => ?_)
                            · skip
                              have g16_10' := g16_10
                              try simp only [qq] at g16_10'
                              refine cy A (known_pure) ?_
                              refine W 2 ?_
                              exact retQ_pure (v := .raw _) rfl rfl J
                            · skip
                              have g16_10' := g16_10
                              try simp only [qq] at g16_10'
                              first | exact absurd g16_10 (by decide) | (exfalso; simp at g16_10; done) | (exfalso; simp at g16_10; omega) | (exfalso; simp_all; done) | (exfalso; simp_all; omega)
                    · skip
                      have g12_13' := g12_13
                      try simp only [qq] at g12_13'
                      refine W 12 ?_
                      refine cl A (k26) ?_
                      refine W 1 ?_
                      refine aw_cond J (fun c_151 => ?_) (fun c_151 => ?_)
                      · skip
                        have c_151' := c_151
                        try simp only [qq] at c_151'
                        first | exact absurd c_151 (by decide) | (exfalso; simp at c_151; done) | (exfalso; simp at c_151; omega) | (exfalso; simp_all; done) | (exfalso; simp_all; omega)
                      · skip
                        have c_151' := c_151
                        try simp only [qq] at c_151'
                        refine W 7 ?_
                        refine cy A (k65) ?_
                        refine W 3 ?_
                        refine sq_split 171 J (fun g16_10 => ?_) (fun g16_10 => ?_)
                        · skip
                          have g16_10' := g16_10
                          try simp only [qq] at g16_10'
                          refine cy A (known_pure) ?_
                          refine W 2 ?_
                          exact retQ_pure (v := .raw _) rfl rfl J
                        · skip
                          have g16_10' := g16_10
                          try simp only [qq] at g16_10'
                          first | exact absurd g16_10 (by decide) | (exfalso; simp at g16_10; done) | (exfalso; simp at g16_10; omega) | (exfalso; simp_all; done) | (exfalso; simp_all; omega)
              · skip
                have g12_2' := g12_2
                try simp only [qq] at g12_2'
                refine W 11 ?_
                refine sq_split 138 J (fun g12_13 => ?_) (fun g12_13 => ?_)
                · skip
                  have g12_13' := g12_13
                  try simp only [qq] at g12_13'
                  refine W 3 ?_
                  refine sq_split 141 J (fun g12_16 => ?_) (fun g12_16 => ?_)
                  · skip
                    have g12_16' := g12_16
                    try simp only [qq] at g12_16'
                    first | exact absurd g12_16 (by decide) | (exfalso; simp at g12_16; done) | (exfalso; simp at g12_16; omega) | (exfalso; simp_all; done) | (exfalso; simp_all; omega)
                  · skip
                    have g12_16' := g12_16
                    try simp only [qq] at g12_16'
                    refine W 6 ?_
                    refine aw_cond J (fun c_147 => ?_) (fun c_147 => ?_)
                    · skip
                      have c_147' := c_147
                      try simp only [qq] at c_147'
                      first | exact absurd c_147 (by decide) | (exfalso; simp at c_147; done) | (exfalso; simp at c_147; omega) | (exfalso; simp_all; done) | (exfalso; simp_all; omega)
                    · skip
                      have c_147' := c_147
                      try simp only [qq] at c_147'
                      refine W 2 ?_
                      refine cl A (k26) ?_
                      refine W 1 ?_
                      refine aw_cond J (fun c_151 => ?_) (fun c_151 => ?_)
                      · skip
                        have c_151' := c_151
                        try simp only [qq] at c_151'
                        first | exact absurd c_151 (by decide) | (exfalso; simp at c_151; done) | (exfalso; simp at c_151; omega) | (exfalso; simp_all; done) | (exfalso; simp_all; omega)
                      · skip
                        have c_151' := c_151
                        try simp only [qq] at c_151'
                        refine W 7 ?_
                        refine cy A (k65) ?_
                        refine W 3 ?_
                        refine sq_split 171 J (fun g16_10 => ?_) (fun g16_10 => ?_)
                        · skip
                          have g16_10' := g16_10
                          try simp only [qq] at g16_10'
                          refine cy A (known_pure) ?_
                          refine W 2 ?_
                          exact retQ_pure (v := .raw _) rfl rfl J
                        · skip
                          have g16_10' := g16_10
                          try simp only [qq] at g16_10'
                          first | exact absurd g16_10 (by decide) | (exfalso; simp at g16_10; done) | (exfalso; simp at g16_10; omega) | (exfalso; simp_all; done) | (exfalso; simp_all; omega)
                · skip
                  have g12_13' := g12_13
                  try simp only [qq] at g12_13'
                  refine W 12 ?_
                  refine cl A (k26) ?_
                  refine W 1 ?_
                  refine aw_cond J (fun c_151 => ?_) (fun c_151 => ?_)
                  · skip
                    have c_151' := c_151
                    try simp only [qq] at c_151'
                    first | exact absurd c_151 (by decide) | (exfalso; simp at c_151; done) | (exfalso; simp at c_151; omega) | (exfalso; simp_all; done) | (exfalso; simp_all; omega)
                  · skip
                    have c_151' := c_151
                    try simp only [qq] at c_151'
                    refine W 7 ?_
                    refine cy A (k65) ?_
                    refine W 3 ?_
                    refine sq_split 171 J (fun g16_10 => ?_) (fun g16_10 => ?_)
                    · skip
                      have g16_10' := g16_10
                      try simp only [qq] at g16_10'
                      refine cy A (known_pure) ?_
                      refine W 2 ?_
                      exact retQ_pure (v := .raw _) rfl rfl J
                    · skip
                      have g16_10' := g16_10
                      try simp only [qq] at g16_10'
                      first | exact absurd g16_10 (by decide) | (exfalso; simp at g16_10; done) | (exfalso; simp at g16_10; omega) | (exfalso; simp_all; done) | (exfalso; simp_all; omega)
      · skip
        have g9_2' := g9_2
        try simp only [qq] at g9_2'
        refine W 11 ?_
        refine sq_split 108 J (fun g9_13 => ?_) (fun g9_13 => ?_)
        · skip
          have g9_13' := g9_13
          try simp only [qq] at g9_13'
          refine W 3 ?_
          refine sq_split 111 J (fun g9_16 => ?_) (fun g9_16 => ?_)
          · skip
            have g9_16' := g9_16
            try simp only [qq] at g9_16'
            first | exact absurd g9_16 (by decide) | (exfalso; simp at g9_16; done) | (exfalso; simp at g9_16; omega) | (exfalso; simp_all; done) | (exfalso; simp_all; omega)
          · skip
            have g9_16' := g9_16
            try simp only [qq] at g9_16'
            refine W 6 ?_
            refine aw_cond J (fun c_117 => ?_) (fun c_117 => ?_)
            · skip
              have c_117' := c_117
              try simp only [qq] at c_117'
              first | exact absurd c_117 (by decide) | (exfalso; simp at c_117; done) | (exfalso; simp at c_117; omega) | (exfalso; simp_all; done) | (exfalso; simp_all; omega)
            · skip
              have c_117' := c_117
              try simp only [qq] at c_117'
              refine W 6 ?_
              refine cl A (k64) ?_
              refine W 4 ?_
              refine sq_split 127 J (fun g12_2 => ?_) (fun g12_2 => ?_)
              · skip
                have g12_2' := g12_2
                try simp only [qq] at g12_2'
                refine W 3 ?_
                refine sq_split 130 J (fun g12_5 => ?_) (fun g12_5 => ?_)
                · skip
                  have g12_5' := g12_5
                  try simp only [qq] at g12_5'
                  first | exact absurd g12_5 (by decide) | (exfalso; simp at g12_5; done) | (exfalso; simp at g12_5; omega) | (exfalso; simp_all; done) | (exfalso; simp_all; omega)
                · skip
                  have g12_5' := g12_5
                  try simp only [qq] at g12_5'
                  refine W 5 ?_
                  refine sq_split 135 J (fun g12_10 => ?_) (fun g12_10 => ?_)
                  · skip
                    have g12_10' := g12_10
                    try simp only [qq] at g12_10'
                    first | exact absurd g12_10 (by decide) | (exfalso; simp at g12_10; done) | (exfalso; simp at g12_10; omega) | (exfalso; simp_all; done) | (exfalso; simp_all; omega)
                  · skip
                    have g12_10' := g12_10
                    try simp only [qq] at g12_10'
                    refine W 3 ?_
                    refine sq_split 138 J (fun g12_13 => ?_) (fun g12_13 => ?_)
                    · skip
                      have g12_13' := g12_13
                      try simp only [qq] at g12_13'
                      refine W 3 ?_
                      refine sq_split 141 J (fun g12_16 => ?_) (fun g12_16 => ?_)
                      · skip
                        have g12_16' := g12_16
                        try simp only [qq] at g12_16'
                        first | exact absurd g12_16 (by decide) | (exfalso; simp at g12_16; done) | (exfalso; simp at g12_16; omega) | (exfalso; simp_all; done) | (exfalso; simp_all; omega)
                      · skip
                        have g12_16' := g12_16
                        try simp only [qq] at g12_16'
                        refine W 6 ?_
                        refine aw_cond J (fun c_147 => ?_) (fun c_147 => ?_)
                        · skip
                          have c_147' := c_147
                          try simp only [qq] at c_147'
                          first | exact absurd c_147 (by decide) | (exfalso; simp at c_147; done) | (exfalso; simp at c_147; omega) | (exfalso; simp_all; done) | (exfalso; simp_all; omega)
                        · skip
                          have c_147' := c_147
                          try simp only [qq] at c_147'
                          refine W 2 ?_
                          refine cl A (k26) ?_
                          refine W 1 ?_
                          refine aw_cond J (fun c_151 => ?_) (fun c_151 => ?_)
                          · skip
                            have c_151' := c_151
                            try simp only [qq] at c_151'
                            first | exact absurd c_151 (by decide) | (exfalso; simp at c_151; done) | (exfalso; simp at c_151; omega) | (exfalso; simp_all; done) | (exfalso; simp_all; omega)
                          · skip
                            have c_151' := c_151
                            try simp only [qq] at c_151'
                            refine W 7 ?_
                            refine cy A (k65) ?_
                            refine W 3 ?_
                            refine sq_split 171 J (fun g16_10 => ?_) (fun g16_10 => ?_)
                            · skip
                              have g16_10' := g16_10
                              try simp only [qq] at g16_10'
                              refine cy A (known_pure) ?_
                              refine W 2 ?_
                              exact retQ_pure (v := .raw _) rfl rfl J
                            · skip
                              have g16_10' := g16_10
                              try simp only [qq] at g16_10'
                              first | exact absurd g16_10 (by decide) | (exfalso; simp at g16_10; done) | (exfalso; simp at g16_10; omega) | (exfalso; simp_all; done) | (exfalso; simp_all; omega)
                    · skip
                      have g12_13' := g12_13
                      try simp only [qq] at g12_13'
                      refine W 12 ?_
                      refine cl A (k26) ?_
                      refine W 1 ?_
                      refine aw_cond J (fun c_151 => ?_) (fun c_151 => ?_)
                      · skip
                        have c_151' := c_151
                        try simp only [qq] at c_151'
                        first | exact absurd c_151 (by decide) | (exfalso; simp at c_151; done) | (exfalso; simp at c_151; omega) | (exfalso; simp_all; done) | (exfalso; simp_all; omega)
                      · skip
                        have c_151' := c_151
                        try simp only [qq] at c_151'
                        refine W 7 ?_
                        refine cy A (k65) ?_
                        refine W 3 ?_
                        refine sq_split 171 J (fun g16_10 => ?_) (fun g16_10 => ?_)
                        · skip
                          have g16_10' := g16_10
                          try simp only [qq] at g16_10'
                          refine cy A (known_pure) ?_
                          refine W 2 ?_
                          exact retQ_pure (v := .raw _) rfl rfl J
                        · skip
                          have g16_10' := g16_10
                          try simp only [qq] at g16_10'
                          first | exact absurd g16_10 (by decide) | (exfalso; simp at g16_10; done) | (exfalso; simp at g16_10; omega) | (exfalso; simp_all; done) | (exfalso; simp_all; omega)
              · skip
                have g12_2' := g12_2
                try simp only [qq] at g12_2'
                refine W 11 ?_
                refine sq_split 138 J (fun g12_13 => ?_) (fun g12_13 => ?_)
                · skip
                  have g12_13' := g12_13
                  try simp only [qq] at g12_13'
                  refine W 3 ?_
                  refine sq_split 141 J (fun g12_16 => ?_) (fun g12_16 => ?_)
                  · skip
                    have g12_16' := g12_16
                    try simp only [qq] at g12_16'
                    first | exact absurd g12_16 (by decide) | (exfalso; simp at g12_16; done) | (exfalso; simp at g12_16; omega) | (exfalso; simp_all; done) | (exfalso; simp_all; omega)
                  · skip
                    have g12_16' := g12_16
                    try simp only [qq] at g12_16'
                    refine W 6 ?_
                    refine aw_cond J (fun c_147 => ?_) (fun c_147 => ?_)
                    · skip
                      have c_147' := c_147
                      try simp only [qq] at c_147'
                      first | exact absurd c_147 (by decide) | (exfalso; simp at c_147; done) | (exfalso; simp at c_147; omega) | (exfalso; simp_all; done) | (exfalso; simp_all; omega)
                    · skip
                      have c_147' := c_147
                      try simp only [qq] at c_147'
                      refine W 2 ?_
                      refine cl A (k26) ?_
                      refine W 1 ?_
                      refine aw_cond J (fun c_151 => ?_) (fun c_151 => ?_)
                      · skip
                        have c_151' := c_151
                        try simp only [qq] at c_151'
                        first | exact absurd c_151 (by decide) | (exfalso; simp at c_151; done) | (exfalso; simp at c_151; omega) | (exfalso; simp_all; done) | (exfalso; simp_all; omega)
                      · skip
                        have c_151' := c_151
                        try simp only [qq] at c_151'
                        refine W 7 ?_
                        refine cy A (k65) ?_
                        refine W 3 ?_
                        refine sq_split 171 J (fun g16_10 => ?_) (fun g16_10 => ?_)
                        · skip
                          have g16_10' := g16_10
                          try simp only [qq] at g16_10'
                          refine cy A (known_pure) ?_
                          refine W 2 ?_
                          exact retQ_pure (v := .raw _) rfl rfl J
                        · skip
                          have g16_10' := g16_10
                          try simp only [qq] at g16_10'
                          first | exact absurd g16_10 (by decide) | (exfalso; simp at g16_10; done) | (exfalso; simp at g16_10; omega) | (exfalso; simp_all; done) | (exfalso; simp_all; omega)
                · skip
                  have g12_13' := g12_13
                  try simp only [qq] at g12_13'
                  refine W 12 ?_
                  refine cl A (k26) ?_
                  refine W 1 ?_
                  refine aw_cond J (fun c_151 => ?_) (fun c_151 => ?_)
                  · skip
                    have c_151' := c_151
                    try simp only [qq] at c_151'
                    first | exact absurd c_151 (by decide) | (exfalso; simp at c_151; done) | (exfalso; simp at c_151; omega) | (exfalso; simp_all; done) | (exfalso; simp_all; omega)
                  · skip
                    have c_151' := c_151
                    try simp only [qq] at c_151'
                    refine W 7 ?_
                    refine cy A (k65) ?_
                    refine W 3 ?_
                    refine sq_split 171 J (fun g16_10 => ?_) (fun g16_10 => ?_)
                    · skip
                      have g16_10' := g16_10
                      try simp only [qq] at g16_10'
                      refine cy A (known_pure) ?_
                      refine W 2 ?_
                      exact retQ_pure (v := .raw _) rfl rfl J
                    · skip
                      have g16_10' := g16_10
                      try simp only [qq] at g16_10'
                      first | exact absurd g16_10 (by decide) | (exfalso; simp at g16_10; done) | (exfalso; simp at g16_10; omega) | (exfalso; simp_all; done) | (exfalso; simp_all; omega)
        · skip
          have g9_13' := g9_13
          try simp only [qq] at g9_13'
          refine W 16 ?_
          refine cl A (k64) ?_
          refine W 4 ?_
          refine sq_split 127 J (fun g12_2 => ?_) (fun g12_2 => ?_)
          · skip
            have g12_2' := g12_2
            try simp only [qq] at g12_2'
            refine W 3 ?_
            refine sq_split 130 J (fun g12_5 => ?_) (fun g12_5 => ?_)
            · skip
              have g12_5' := g12_5
              try simp only [qq] at g12_5'
              first | exact absurd g12_5 (by decide) | (exfalso; simp at g12_5; done) | (exfalso; simp at g12_5; omega) | (exfalso; simp_all; done) | (exfalso; simp_all; omega)
            · skip
              have g12_5' := g12_5
              try simp only [qq] at g12_5'
              refine W 5 ?_
              refine sq_split 135 J (fun g12_10 => ?_) (fun g12_10 => ?_)
              · skip
                have g12_10' := g12_10
                try simp only [qq] at g12_10'
                first | exact absurd g12_10 (by decide) | (exfalso; simp at g12_10; done) | (exfalso; simp at g12_10; omega) | (exfalso; simp_all; done) | (exfalso; simp_all; omega)
              · skip
                have g12_10' := g12_10
                try simp only [qq] at g12_10'
                refine W 3 ?_
                refine sq_split 138 J (fun g12_13 => ?_) (fun g12_13 => ?_)
                · skip
                  have g12_13' := g12_13
                  try simp only [qq] at g12_13'
                  refine W 3 ?_
                  refine sq_split 141 J (fun g12_16 => ?_) (fun g12_16 => ?_)
                  · skip
                    have g12_16' := g12_16
                    try simp only [qq] at g12_16'
                    first | exact absurd g12_16 (by decide) | (exfalso; simp at g12_16; done) | (exfalso; simp at g12_16; omega) | (exfalso; simp_all; done) | (exfalso; simp_all; omega)
                  · skip
                    have g12_16' := g12_16
                    try simp only [qq] at g12_16'
                    refine W 6 ?_
                    refine aw_cond J (fun c_147 => ?_) (fun c_147 => ?_)
                    · skip
                      have c_147' := c_147
                      try simp only [qq] at c_147'
                      first | exact absurd c_147 (by decide) | (exfalso; simp at c_147; done) | (exfalso; simp at c_147; omega) | (exfalso; simp_all; done) | (exfalso; simp_all; omega)
                    · skip
                      have c_147' := c_147
                      try simp only [qq] at c_147'
                      refine W 2 ?_
                      refine cl A (k26) ?_
                      refine W 1 ?_
                      refine aw_cond J (fun c_151 => ?_) (fun c_151 => ?_)
                      · skip
                        have c_151' := c_151
                        try simp only [qq] at c_151'
                        first | exact absurd c_151 (by decide) | (exfalso; simp at c_151; done) | (exfalso; simp at c_151; omega) | (exfalso; simp_all; done) | (exfalso; simp_all; omega)
                      · skip
                        have c_151' := c_151
                        try simp only [qq] at c_151'
                        refine W 7 ?_
                        refine cy A (k65) ?_
                        refine W 3 ?_
                        refine sq_split 171 J (fun g16_10 => ?_) (fun g16_10 => ?_)
                        · skip
                          have g16_10' := g16_10
                          try simp only [qq] at g16_10'
                          refine cy A (known_pure) ?_
                          refine W 2 ?_
                          exact retQ_pure (v := .raw _) rfl rfl J
                        · skip
                          have g16_10' := g16_10
                          try simp only [qq] at g16_10'
                          first | exact absurd g16_10 (by decide) | (exfalso; simp at g16_10; done) | (exfalso; simp at g16_10; omega) | (exfalso; simp_all; done) | (exfalso; simp_all; omega)
                · skip
                  have g12_13' := g12_13
                  try simp only [qq] at g12_13'
                  refine W 12 ?_
                  refine cl A (k26) ?_
                  refine W 1 ?_
                  refine aw_cond J (fun c_151 => ?_) (fun c_151 => ?_)
                  · skip
                    have c_151' := c_151
                    try simp only [qq] at c_151'
                    first | exact absurd c_151 (by decide) | (exfalso; simp at c_151; done) | (exfalso; simp at c_151; omega) | (exfalso; simp_all; done) | (exfalso; simp_all; omega)
                  · skip
                    have c_151' := c_151
                    try simp only [qq] at c_151'
                    refine W 7 ?_
                    refine cy A (k65) ?_
                    refine W 3 ?_
                    refine sq_split 171 J (fun g16_10 => ?_) (fun g16_10 => ?_)
                    · skip
                      have g16_10' := g16_10
                      try simp only [qq] at g16_10'
                      refine cy A (known_pure) ?_
                      refine W 2 ?_
                      exact retQ_pure (v := .raw _) rfl rfl J
                    · skip
                      have g16_10' := g16_10
                      try simp only [qq] at g16_10'
                      first | exact absurd g16_10 (by decide) | (exfalso; simp at g16_10; done) | (exfalso; simp at g16_10; omega) | (exfalso; simp_all; done) | (exfalso; simp_all; omega)
          · skip
            have g12_2' := g12_2
            try simp only [qq] at g12_2'
            refine W 11 ?_
            refine sq_split 138 J (fun g12_13 => ?_) (fun g12_13 => ?_)
            · skip
              have g12_13' := g12_13
              try simp only [qq] at g12_13'
              refine W 3 ?_
              refine sq_split 141 J (fun g12_16 => ?_) (fun g12_16 => ?_)
              · skip
                have g12_16' := g12_16
                try simp only [qq] at g12_16'
                first | exact absurd g12_16 (by decide) | (exfalso; simp at g12_16; done) | (exfalso; simp at g12_16; omega) | (exfalso; simp_all; done) | (exfalso; simp_all; omega)
              · skip
                have g12_16' := g12_16
                try simp only [qq] at g12_16'
                refine W 6 ?_
                refine aw_cond J (fun c_147 => ?_) (fun c_147 => ?_)
                · skip
                  have c_147' := c_147
                  try simp only [qq] at c_147'
                  first | exact absurd c_147 (by decide) | (exfalso; simp at c_147; done) | (exfalso; simp at c_147; omega) | (exfalso; simp_all; done) | (exfalso; simp_all; omega)
                · skip
                  have c_147' := c_147
                  try simp only [qq] at c_147'
                  refine W 2 ?_
                  refine cl A (k26) ?_
                  refine W 1 ?_
                  refine aw_cond J (fun c_151 => ?_) (fun c_151 => ?_)
                  · skip
                    have c_151' := c_151
                    try simp only [qq] at c_151'
                    first | exact absurd c_151 (by decide) | (exfalso; simp at c_151; done) | (exfalso; simp at c_151; omega) | (exfalso; simp_all; done) | (exfalso; simp_all; omega)
                  · skip
                    have c_151' := c_151
                    try simp only [qq] at c_151'
                    refine W 7 ?_
                    refine cy A (k65) ?_
                    refine W 3 ?_
                    refine sq_split 171 J (fun g16_10 => ?_) (fun g16_10 => ?_)
                    · skip
                      have g16_10' := g16_10
                      try simp only [qq] at g16_10'
                      refine cy A (known_pure) ?_
                      refine W 2 ?_
                      exact retQ_pure (v := .raw _) rfl rfl J
                    · skip
                      have g16_10' := g16_10
                      try simp only [qq] at g16_10'
                      first | exact absurd g16_10 (by decide) | (exfalso; simp at g16_10; done) | (exfalso; simp at g16_10; omega) | (exfalso; simp_all; done) | (exfalso; simp_all; omega)
            · skip
              have g12_13' := g12_13
              try simp only [qq] at g12_13'
              refine W 12 ?_
              refine cl A (k26) ?_
              refine W 1 ?_
              refine aw_cond J (fun c_151 => ?_) (fun c_151 => ?_)
              · skip
                have c_151' := c_151
                try simp only [qq] at c_151'
                first | exact absurd c_151 (by decide) | (exfalso; simp at c_151; done) | (exfalso; simp at c_151; omega) | (exfalso; simp_all; done) | (exfalso; simp_all; omega)
              · skip
                have c_151' := c_151
                try simp only [qq] at c_151'
                refine W 7 ?_
                refine cy A (k65) ?_
                refine W 3 ?_
                refine sq_split 171 J (fun g16_10 => ?_) (fun g16_10 => ?_)
                · skip
                  have g16_10' := g16_10
                  try simp only [qq] at g16_10'
                  refine cy A (known_pure) ?_
                  refine W 2 ?_
                  exact retQ_pure (v := .raw _) rfl rfl J
                · skip
                  have g16_10' := g16_10
                  try simp only [qq] at g16_10'
                  first | exact absurd g16_10 (by decide) | (exfalso; simp at g16_10; done) | (exfalso; simp at g16_10; omega) | (exfalso; simp_all; done) | (exfalso; simp_all; omega)
/-- **OutlineFits.** -/
theorem law13 (s : Sg) (f : Fg) (p : Pc) : APure Tryz.prog 13 [stA s, fgA f, pcA p] (B true) := by
  obtain ⟨c, rfl, rfl, rfl⟩ : ∃ c : Ca, s = c.s ∧ f = c.f ∧ p = c.p := ⟨⟨s, f, p⟩, rfl, rfl, rfl⟩
  have k23 := short_pure c.f
  cases h1 : shortB c.f with
  | false => rw [h1] at k23; exact fits_long (is := false) (e := 0) (n := 0) (g := 0) (m := 0) (h := 0) k23
  | true =>
    rw [h1] at k23
    have k24 := rstage_pure c.s
    have k25 := rfigure_pure c.f
    have k31 := rat_pure c.p.x c.p.y
    have k60 := fitsE_pure c
    have k61 := most_pure c
    have k62 := fades_pure c
    cases h2 : stOK c.s with
    | false =>
      have ho : caOK c = false := by unfold caOK; rw [h2]; rfl
      have h0 : caOK (c.atN 0) = false := by unfold caOK; rw [show (c.atN 0).s = c.s from rfl, h2]; rfl
      rw [h2] at k24
      simp only [ho, h0, Bool.false_eq_true, if_false, Bool.false_and] at k60 k61 k62
      exact fits_000 k23 k24 k60 k61 k62
    | true =>
      rw [h2] at k24
      have hs := stOK_iff.1 h2
      have ha := at0 c h2
      cases h3 : fgOK c.f with
      | false =>
        have ho : caOK c = false := by unfold caOK; rw [h2, h3]; rfl
        rw [h3, Bool.false_and] at ha
        rw [h3] at k25
        simp only [ho, ha, Bool.false_eq_true, if_false, Bool.false_and] at k60 k61 k62
        exact fits_100 k23 k24 k25 k60 k61 k62
      | true =>
        rw [h3, Bool.true_and] at ha
        rw [h3] at k25
        cases h4 : (awayOK c.p.x && awayOK c.p.y) with
        | false =>
          have ho : caOK c = false := by unfold caOK pcOK; rw [h2, h3, Bool.and_assoc (inn _ _ _), h4]; simp
          rw [h4] at ha k31
          simp only [ho, ha, Bool.false_eq_true, if_false, Bool.false_and] at k60 k61 k62
          exact fits_110 k23 k24 k25 k31 k60 k61 k62
        | true =>
          rw [h4] at ha k31
          have hc0 := caOK_B ha
          have haw := away_of (x := c.p.x) (y := c.p.y) (by rw [h4]; rfl)
          simp only [ha, if_true] at k61 k62
          have k63 := rmost_pure hc0
          rw [show (c.atN 0).most = c.most from mostN_at c _] at k63
          have k64 := rfades_pure hc0
          rw [show (c.atN 0).fades = c.fades from rfl] at k64
          have k26 := rplace_pure c.s c.p (by omega)
          cases h5 : pcOK c.s c.p with
          | false =>
            have ho : caOK c = false := by unfold caOK; rw [h2, h3, h5]; rfl
            rw [h5] at k26
            simp only [ho, Bool.false_and] at k60
            exact fits_no k23 k24 k25 k31 k61 k62 k63 k64 (op_cases c.most) (op_cases c.fades) k60 k26
          | true =>
            have ho : caOK c = true := by unfold caOK; rw [h2, h3, h5]; rfl
            rw [h5] at k26
            simp only [ho, Bool.true_and, show er true = 0 from rfl] at k60
            exact fits_yes k23 k24 k25 k31 k61 k62 k63 k64 (op_cases c.most) (op_cases c.fades) k60 k26 (rfits_pure (caOK_B ho))
end Go.Proofs.YtmbknoaneglilaaGreatDoor
