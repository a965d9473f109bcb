/-
  A part of the proof: conditions: none beyond each theorem's own.
-/
import Derived.Test.YtmbknoaneglilaaGreatDoorLogicA
import Derived.Test.YtmbknoaneglilaaGreatDoorLogicD
import Derived.Deep.Slices
import Derived.OpenShut
import Derived.Carry
import Derived.Test.YtmbknoaneglilaaGreatDoorLogicC
import Derived.Test.YtmbknoaneglilaaGreatDoorSpecA
import Derived.KernelRfl
import Derived.Lib.LaidTab
import Derived.Lib.ItoaNum
import Derived.Test.YtmbknoaneglilaaGreatDoorProg
import Derived.Test.YtmbknoaneglilaaGreatDoorLogicE
import Derived.Test.YtmbknoaneglilaaGreatDoorWalkF
import Derived.Test.YtmbknoaneglilaaGreatDoorLogicB
import Derived.Test.YtmbknoaneglilaaGreatDoorShelf
import Derived.Test.YtmbknoaneglilaaGreatDoorWalkA
import Derived.Test.YtmbknoaneglilaaGreatDoorWalkB
import Derived.Test.YtmbknoaneglilaaGreatDoorWalkC
import Derived.Test.YtmbknoaneglilaaGreatDoorWalkD
import Derived.Test.YtmbknoaneglilaaGreatDoorWalkE
import Derived.Test.YtmbknoaneglilaaGreatDoorRow
set_option linter.all false
set_option maxRecDepth 100000
set_option maxHeartbeats 8000000
namespace Go.Ab
variable [Tabs]
theorem FW_room (r : Option Nat) (n : Nat) : (FW r).room n := fun _ h => by simp [FW] at h
variable {c : Ctx} {Q : AExit → St → Prop} {s : St}
theorem aw_less {code : Code} (sl' : List (Nat × AV)) (h : ∀ p ∈ sl', Less (sget s.sl p.1) p.2) (k : AWP c code Q { s with sl := sl' }) : AWP c code Q s := by
  intro e a hs
  exact k e a ⟨hs.size, fun t => get_less h t _ _ (hs.slots t), hs.defers, hs.H, hs.ok, hs.fr⟩
end Go.Ab
namespace Go.Ab
open Go.ChangeShapes Go.WideShapes
variable [Tabs]
theorem env0_ok {w : World} (h : Tabs.is w) (hb : ∀ b, Tabs.blk b → b < w.heap.size) : EnvOK (env0 w) :=
  ⟨fun b hb => by have hb' : w.heap.size ≤ b := hb
                  have : w.heap[b]? = none := by simpa using hb'
                  simp [env0, this], fun i o h => by simp [env0] at h, fun i j b hi => by simp [env0] at hi, fun i b hi => by simp [env0] at hi, h, fun b hk => ⟨hb b hk, fun i hi => by simp [env0] at hi⟩⟩
section
variable {H : Type} {enc : TypeId × Value → H} {P : Program} {w : World} {base : Nat} {spare : Nat → Bool} {held : Bool}
theorem trodAll_stays (hl : laidOutB P = true) {W W' : World} (hheap : ∀ b, b < W.heap.size → W'.heap[b]? = W.heap[b]?) {sp' : Nat → Bool} :
    ∀ {ts : List TypeId} {vs : List Value} {ds : List (DataW H)} {ps : List MemPlace}, (∀ t ∈ ts, P.readableRec t = true ∧ t < P.types.size) → DataW.TrodAll enc P W base (fun _ => true) true ts vs ds ps → (∀ p ∈ ps, p.block < W.heap.size) → (∀ p ∈ ps, sp' p.block = true) →
      DataW.TrodAll enc P W' base sp' true ts vs ds ps
  | [], _, _, _, _, h, _, _ => by
    obtain ⟨rfl, rfl, rfl⟩ := trodAll_nil h
    exact trodAll_mk0
  | t :: ts, _, _, _, ht, h, hlt, hs => by
    obtain ⟨v, vs1, d, ds1, a, b, rfl, rfl, rfl, h1, h2⟩ := trodAll_cons h
    refine trodAll_cons_mk (WideElems.Trod_stays hl (ht t (by simp)).1 (ht t (by simp)).2 h1 (fun p hp => ?_) (fun p hp => hs p (by simp [hp]))) (trodAll_stays hl hheap (fun u hu => ht u (List.mem_cons_of_mem _ hu)) h2 (fun p hp => hlt p (by simp [hp])) (fun p hp => hs p (by simp [hp])))
    have hb := hheap p.block (hlt p (by simp [hp]))
    cases p with
    | cell b o => exact cell?_of_heap hb
    | map b => exact hb
/-- **What a law's row asks of a call that returns true and leaves what it met.** -/
theorem post_true {f : Func} {s : ChangeSpec} {W W' : World} {args : Array Value} {ds gs : List (DataW H)} {before : List MemPlace} {tb : TypeId} (hl : laidOutB P = true) (hread : ∀ t ∈ f.params.toList, P.readableRec t = true ∧ t < P.types.size)
    (hres : f.resultTypes = #[tb]) (htb : P.underlying tb = some .bool) (hvars : s.vars = []) (hspec : (s.fn H ds).results = [.lit (.bool true)] ∧ (s.fn H ds).args = ds ∧ (s.fn H ds).vars = [])
    (hW : DataW.Whole enc P f.params.toList s.vars false W args.toList ds gs before) (hheap : ∀ b, b < W.heap.size → W'.heap[b]? = W.heap[b]?) (hst : Still W W') :
    s.post enc P f false true false false W args (.bool true) W' := by
  have hlt := hW.lt
  have hW0 := hW
  obtain ⟨p, q, h1, h2, rfl, _, _⟩ := hW
  rw [hvars] at h2
  obtain ⟨rfl, rfl⟩ := trodVars_none h2
  simp only [List.append_nil] at hlt
  obtain ⟨e1, e2, e3⟩ := hspec
  refine ⟨ds, [], p ++ [], [], p, [], hW0, ?_, ?_, ?_, ?_, fun h => by cases h⟩
  · rw [List.append_nil, e1, hres]
    exact trodAll_cons_mk (RowKit.shut_bool htb _) trodAll_mk0
  · rw [List.append_nil, e2]
    exact trodAll_stays hl hheap hread h1 hlt (fun p hp => by simpa using hlt p hp)
  · rw [List.append_nil, e3, hvars]; rfl
  · refine ⟨hst.1, hst.2, fun i hi => ?_⟩
    rw [hheap i hi]
    split <;> simp_all
theorem APure.law {f : FuncId} {args : List AV} {W : World} {vs : Array Value} (hc : APure P f args (.raw (.bool true))) (ht : Tabs.is W) (hb : ∀ b, Tabs.blk b → b < W.heap.size) (hr : RepL (env0 W) args vs.toList) :
    Calls P f vs W fun x W' => x = .returned (.bool true) ∧ (∀ b, b < W.heap.size → W'.heap[b]? = W.heap[b]?) ∧ Still W W' := by
  refine ((hc (env0 W) vs (env0_ok ht hb) hr).calls (fun k => FW_room none k)).mono ?_
  rintro x w' ⟨u, e', rfl, rfl, hx, hu⟩
  rw [Rep] at hu; subst hu
  exact ⟨rfl, hx.heap, hx.still⟩
end
end Go.Ab
namespace Go.Ab
variable [Tabs]
section ev
variable {P : Program} {r : Option Nat} {H : List AObj} {ρ : Operand → AV}
variable {d : Option Tmp} {t : TypeId} {p : String} {af : Array Edge} {g : Option (Nat × Bool)} {x q q2 : Operand}
theorem ev_cutBoth {xt : TypeId} {l : List UInt8} {lo hi : Nat} (ht : P.underlying xt = some .string) (hx : Less (ρ x) (S l)) (hq : Less (ρ q) (.raw (.int .i64 (lo : Int)))) (hq2 : Less (ρ q2) (.raw (.int .i64 (hi : Int)))) (h : lo ≤ hi) (h2 : hi ≤ l.length) :
    Ev P r ⟨d, .slice xt x (some q) (some q2) none, t, p, af, g⟩ H ρ (S ((l.take hi).drop lo)) :=
  ev_less (ev_slice_str (lo := lo) (hi := hi) ht hx hq hq2 h (by rw [bs_size]; exact h2)) (Less.eq (by rw [bs_cut]))
end ev
end Go.Ab
namespace Ol
open Ni (inn)
theorem mists_iff {a b : List Th} : mists a b = true ↔ ∃ t ∈ a, ∃ u ∈ b, agree t.sh u.sh = true := by
  unfold mists mist; simp only [List.any_eq_true]
theorem pairI_inv {L : List (List Th)} {i : Nat} (h : pairI L i = none) : ∀ k, i < k → k < L.length → mists (L.getD i []) (L.getD k []) = false := by
  intro k hik hk
  unfold pairI at h
  cases hf : (List.range L.length).find? (fun k => decide (i < k) && mists (L.getD i []) (L.getD k [])) with
  | some q => rw [hf] at h; cases h
  | none =>
    rw [List.find?_eq_none] at hf
    have := hf k (List.mem_range.2 hk)
    simpa [hik] using this
theorem pair_none_inv {L : List (List Th)} (h : pairOf L = none) : ∀ i k, i < k → k < L.length → mists (L.getD i []) (L.getD k []) = false := by
  intro i k hik hk
  unfold pairOf at h
  rw [List.findSome?_eq_none_iff] at h
  exact pairI_inv (h i (List.mem_range.2 (by omega))) k hik hk
theorem findSome_inv {α : Type} {f : Nat → Option α} : ∀ {n : Nat} {a : α}, (List.range n).findSome? f = some a → ∃ i, i < n ∧ f i = some a ∧ ∀ j, j < i → f j = none
  | 0, a, h => by simp at h
  | n + 1, a, h => by
    rw [List.range_succ, List.findSome?_append] at h
    cases hp : (List.range n).findSome? f with
    | some b =>
      rw [hp] at h; simp only [Option.some_or, Option.some.injEq] at h; subst h
      obtain ⟨i, h1, h2, h3⟩ := findSome_inv hp
      exact ⟨i, by omega, h2, h3⟩
    | none =>
      rw [hp] at h
      rw [List.findSome?_eq_none_iff] at hp
      refine ⟨n, by omega, by simpa using h, fun j hj => hp j (List.mem_range.2 hj)⟩
theorem pair_some_inv {L : List (List Th)} {a b : Nat} (h : pairOf L = some (a, b)) : (a < b ∧ b < L.length) ∧ ∀ i k, i < k → k < L.length → mists (L.getD i []) (L.getD k []) = true → a < i ∨ (a = i ∧ b ≤ k) := by
  obtain ⟨i0, hi0, hp, hno⟩ := findSome_inv h
  have hp' := hp
  unfold pairI at hp'
  cases hf : (List.range L.length).find? (fun k => decide (i0 < k) && mists (L.getD i0 []) (L.getD k [])) with
  | none => rw [hf] at hp'; cases hp'
  | some q =>
    rw [hf] at hp'
    simp only [Option.map_some, Option.some.injEq, Prod.mk.injEq] at hp'
    obtain ⟨rfl, rfl⟩ := hp'
    rw [List.find?_range_eq_some] at hf
    obtain ⟨h1, h2, h3⟩ := hf
    simp only [Bool.and_eq_true, decide_eq_true_eq] at h1
    refine ⟨⟨h1.1, List.mem_range.1 h2⟩, fun i k hik hk hm => ?_⟩
    rcases Nat.lt_trichotomy i0 i with h | h | h
    · exact .inl h
    · subst h
      refine .inr ⟨rfl, ?_⟩
      rcases Nat.lt_or_ge k q with hq | hq
      · have := h3 k hq
        simp only [hik, decide_true, Bool.true_and, hm, Bool.not_true] at this
        cases this
      · exact hq
    · have := pairI_inv (hno i h) k hik hk
      rw [hm] at this; cases this
end Ol
namespace Ol
open Ni (inn)
theorem mts_ex {c : Ca} (hF : 0 < c.s.far) {e : Int × Int} (h : e.1 < e.2) : ∃ i, i ∈ rng (c.mts e).1 (c.mts e).2 := by
  refine ⟨e.1 / c.s.far, (mem_mts hF).2 ⟨?_, ?_⟩⟩
  · exact (floor_le hF).1 (Int.le_refl _)
  · have := Int.ediv_mul_le e.1 (show c.s.far ≠ 0 by omega); omega
theorem boxAll_iff {c : Ca} {h v : Int × Int} : c.boxAll h v = true ↔ ∀ m ∈ rng v.1 v.2, ∀ i ∈ rng h.1 h.2, c.hide m i = true := by
  unfold Ca.boxAll Ca.rowAll; simp only [List.all_eq_true]
theorem cell_35 {c : Ca} {k m : Int} : c.cell k m = 35 ↔ ∀ j ∈ rng (c.mts (c.dwn m)).1 (c.mts (c.dwn m)).2, ∀ i ∈ rng (c.mts (c.acr k)).1 (c.mts (c.acr k)).2, c.hide j i = true := by
  rw [← boxAll_iff]
  unfold Ca.cell Ca.cellAt
  by_cases h : c.boxAll (c.mts (c.acr k)) (c.mts (c.dwn m)) = true
  · rw [if_pos h]; exact ⟨fun _ => h, fun _ => rfl⟩
  · rw [if_neg h]
    refine ⟨fun e => ?_, fun e => absurd e h⟩
    split at e <;> cases e
theorem CaB.good {c : Ca} (h : CaB c) : Good c := by
  have h1 := h.st; have h2 := h.pc
  exact ⟨by omega, by omega, by omega, by omega⟩
theorem frm_step (c : Ca) (k axis edge : Int) : c.frm (k + 1) axis edge = c.frm k axis edge + (c.s.far - c.p.near) := by
  unfold Ca.frm
  rw [show k + 1 - axis = (k - axis) + 1 by omega, Int.add_mul]; omega
theorem acr_lt {c : Ca} (h : Good c) (k : Int) : (c.acr k).1 < (c.acr k).2 := by
  have := h.blur; have := h.near
  unfold Ca.acr; simp only; rw [frm_step]; omega
theorem dwn_lt {c : Ca} (h : Good c) (k : Int) : (c.dwn k).1 < (c.dwn k).2 := by
  have := h.blur; have := h.near
  unfold Ca.dwn; simp only; rw [frm_step]; omega
theorem cell_46 {c : Ca} (g : Good c) {k m : Int} : c.cell k m = 46 ↔ ∀ j ∈ rng (c.mts (c.dwn m)).1 (c.mts (c.dwn m)).2, ∀ i ∈ rng (c.mts (c.acr k)).1 (c.mts (c.acr k)).2, c.hide j i = false := by
  have hno : c.boxAny (c.mts (c.acr k)) (c.mts (c.dwn m)) = false ↔ ∀ j ∈ rng (c.mts (c.dwn m)).1 (c.mts (c.dwn m)).2, ∀ i ∈ rng (c.mts (c.acr k)).1 (c.mts (c.acr k)).2, c.hide j i = false := by
    unfold Ca.boxAny Ca.rowAny
    simp only [List.any_eq_false, Bool.not_eq_true]
  rw [← hno]
  unfold Ca.cell Ca.cellAt
  by_cases h : c.boxAll (c.mts (c.acr k)) (c.mts (c.dwn m)) = true
  · rw [if_pos h]
    obtain ⟨i, hi⟩ := mts_ex g.far (acr_lt g k)
    obtain ⟨j, hj⟩ := mts_ex g.far (dwn_lt g m)
    refine ⟨fun e => (by cases e), fun e => ?_⟩
    rw [hno] at e
    have h1 := boxAll_iff.1 h j hj i hi
    rw [e j hj i hi] at h1; cases h1
  · rw [if_neg h]
    cases hb : c.boxAny (c.mts (c.acr k)) (c.mts (c.dwn m)) with
    | true => rw [if_pos rfl]; exact ⟨fun e => (by cases e), fun e => (by cases e)⟩
    | false => rw [if_neg (by simp)]; exact ⟨fun _ => rfl, fun _ => rfl⟩
end Ol
namespace Ol
open Ni (inn)
theorem cell_ch3 (c : Ca) (k m : Int) : c.cell k m = 35 ∨ c.cell k m = 43 ∨ c.cell k m = 46 := by
  unfold Ca.cell Ca.cellAt
  split
  · exact .inl rfl
  · split
    · exact .inr (.inl rfl)
    · exact .inr (.inr rfl)
theorem caOK_f {c : Ca} (h : caOK c = true) : stOK c.s = true ∧ fgOK c.f = true ∧ pcOK c.s c.p = true := by
  unfold caOK at h; simp only [Bool.and_eq_true] at h; exact ⟨h.1.1, h.1.2, h.2⟩
end Ol
namespace Ol
open Ni (inn)
namespace Ca
def ln (c : Ca) (axis x : Int) : Int := axis * (c.s.far - c.p.near) + (x - axis) * c.s.far
def eR (c : Ca) (k : Int) : Int := (k + 1) * (c.s.far - c.p.near) + c.s.flame * c.p.near
def skp (c : Ca) (k m : Int) (j i : Nat) : Bool := decide (c.ln c.s.x (c.p.x + i) ≥ c.eR k) || (decide (c.ln c.s.x (c.p.x + i + 1) ≤ c.eL k) || (decide (c.ln c.s.y (c.p.y + j) ≥ c.eR m) || decide (c.ln c.s.y (c.p.y + j + 1) ≤ c.eL m)))
def chD (c : Ca) (j i : Nat) : Bool := decide ((c.f.getD j []).getD i 0 = 35)
def dk0 (c : Ca) (k m : Int) : Bool := decide (c.ln c.s.x c.p.x ≤ c.eL k) && (decide (c.ln c.s.x (c.p.x + (w0 c.f : Nat)) ≥ c.eR k) && (decide (c.ln c.s.y c.p.y ≤ c.eL m) && decide (c.ln c.s.y (c.p.y + (c.f.length : Nat)) ≥ c.eR m)))
def dkR (c : Ca) (k m : Int) (j n : Nat) : Bool := (List.range n).all fun i => c.skp k m j i || c.chD j i
def ltR (c : Ca) (k m : Int) (j n : Nat) : Bool := (List.range n).all fun i => c.skp k m j i || !c.chD j i
def dkA (c : Ca) (k m : Int) (n : Nat) : Bool := (List.range n).all fun j => c.dkR k m j (w0 c.f)
def ltA (c : Ca) (k m : Int) (n : Nat) : Bool := (List.range n).all fun j => c.ltR k m j (w0 c.f)
def shade (c : Ca) (k m : Int) : UInt8 := if (c.dk0 k m && c.dkA k m c.f.length) = true then 35 else if c.ltA k m c.f.length = true then 46 else 43
theorem dkR_succ (c : Ca) (k m : Int) (j n : Nat) : c.dkR k m j (n + 1) = (c.dkR k m j n && (c.skp k m j n || c.chD j n)) := by unfold dkR; rw [List.range_succ, List.all_append]; simp
theorem ltR_succ (c : Ca) (k m : Int) (j n : Nat) : c.ltR k m j (n + 1) = (c.ltR k m j n && (c.skp k m j n || !c.chD j n)) := by unfold ltR; rw [List.range_succ, List.all_append]; simp
theorem dkA_succ (c : Ca) (k m : Int) (n : Nat) : c.dkA k m (n + 1) = (c.dkA k m n && c.dkR k m n (w0 c.f)) := by unfold dkA; rw [List.range_succ, List.all_append]; simp
theorem ltA_succ (c : Ca) (k m : Int) (n : Nat) : c.ltA k m (n + 1) = (c.ltA k m n && c.ltR k m n (w0 c.f)) := by unfold ltA; rw [List.range_succ, List.all_append]; simp
theorem ln_R (c : Ca) (k a e i : Int) : c.ln a (e + i) ≥ c.eR k ↔ ¬ i * c.s.far < c.frm (k + 1) a e + c.blur := by
  unfold ln eR frm blur
  have q1 : (e + i - a) * c.s.far = (e - a) * c.s.far + i * c.s.far := by rw [show e + i - a = (e - a) + i by omega, Int.add_mul]
  have q2 : (a - e) * c.s.far = -((e - a) * c.s.far) := by rw [show a - e = -(e - a) by omega, Int.neg_mul]
  have q3 := Int.sub_mul (k + 1) a (c.s.far - c.p.near)
  omega
theorem ln_L (c : Ca) (k a e i : Int) : c.ln a (e + i) ≤ c.eL k ↔ ¬ c.frm k a e - c.blur < i * c.s.far := by
  unfold ln eL frm blur
  have q1 : (e + i - a) * c.s.far = (e - a) * c.s.far + i * c.s.far := by rw [show e + i - a = (e - a) + i by omega, Int.add_mul]
  have q2 : (a - e) * c.s.far = -((e - a) * c.s.far) := by rw [show a - e = -(e - a) by omega, Int.neg_mul]
  have q3 := Int.sub_mul k a (c.s.far - c.p.near)
  omega
theorem skp_iff {c : Ca} (hF : 0 < c.s.far) {k m : Int} {j i : Nat} : c.skp k m j i = false ↔ (i : Int) ∈ rng (c.mts (c.acr k)).1 (c.mts (c.acr k)).2 ∧ (j : Int) ∈ rng (c.mts (c.dwn m)).1 (c.mts (c.dwn m)).2 := by
  rw [mem_mts hF, mem_mts hF]
  unfold skp acr dwn
  simp only [Bool.or_eq_false_iff, decide_eq_false_iff_not, Int.add_assoc]
  rw [ln_R, ln_L, ln_R, ln_L]
  simp only [Decidable.not_not]
  constructor
  · rintro ⟨h1, h2, h3, h4⟩; exact ⟨⟨h2, h1⟩, h4, h3⟩
  · rintro ⟨⟨h2, h1⟩, h4, h3⟩; exact ⟨h1, h2, h3, h4⟩
theorem chD_hide {c : Ca} (B : CaB c) {j i : Nat} (hj : j < c.f.length) (hi : i < w0 c.f) : c.hide j i = c.chD j i := by
  have hw := B.row j hj
  rw [hide_in B hj (by omega)]
  unfold chD
  rw [getD_get hj, getD_get (by omega)]
theorem within_iff {F L R : Int} {n : Nat} (hF : 0 < F) (hLR : L < R) : (∀ i : Int, L < (i + 1) * F → i * F < R → 0 ≤ i ∧ i < n) ↔ (0 ≤ L ∧ R ≤ n * F) := by
  constructor
  · intro h
    constructor
    · apply Int.not_lt.1
      intro hl
      have h1 := Int.ediv_mul_le L (show F ≠ 0 by omega)
      have h2 := Int.lt_ediv_add_one_mul_self L hF
      have := (h (L / F) h2 (by omega)).1
      have h3 : L / F < 0 := Int.ediv_neg_of_neg_of_pos hl hF
      omega
    · apply Int.not_lt.1
      intro hl
      by_cases hm : L < (n + 1 : Int) * F
      · have := (h n hm hl).2; omega
      · have h1 := Int.ediv_mul_le L (show F ≠ 0 by omega)
        have h2 := Int.lt_ediv_add_one_mul_self L hF
        have := (h (L / F) h2 (by omega)).2
        have h3 : (n + 1 : Int) ≤ L / F := (Int.le_ediv_iff_mul_le hF).2 (by omega)
        omega
  · rintro ⟨h1, h2⟩ i h3 h4
    constructor
    · apply Int.not_lt.1
      intro hn
      have : (i + 1) * F ≤ 0 * F := Int.mul_le_mul_of_nonneg_right (by omega) (by omega)
      omega
    · apply Int.not_le.1
      intro hn
      have : (n : Int) * F ≤ i * F := Int.mul_le_mul_of_nonneg_right hn (by omega)
      omega
theorem dk0_iff {c : Ca} (B : CaB c) (k m : Int) : c.dk0 k m = true ↔ (∀ i ∈ rng (c.mts (c.acr k)).1 (c.mts (c.acr k)).2, 0 ≤ i ∧ i < (w0 c.f : Int)) ∧ ∀ j ∈ rng (c.mts (c.dwn m)).1 (c.mts (c.dwn m)).2, 0 ≤ j ∧ j < (c.f.length : Int) := by
  have g := B.good
  have e1 := within_iff (n := w0 c.f) g.far (acr_lt g k)
  have e2 := within_iff (n := c.f.length) g.far (dwn_lt g m)
  have r1 : (∀ i ∈ rng (c.mts (c.acr k)).1 (c.mts (c.acr k)).2, 0 ≤ i ∧ i < (w0 c.f : Int)) ↔ 0 ≤ (c.acr k).1 ∧ (c.acr k).2 ≤ (w0 c.f : Int) * c.s.far := by
    rw [← e1]
    exact ⟨fun h i a b => h i ((mem_mts g.far).2 ⟨a, b⟩), fun h i hi => h i ((mem_mts g.far).1 hi).1 ((mem_mts g.far).1 hi).2⟩
  have r2 : (∀ i ∈ rng (c.mts (c.dwn m)).1 (c.mts (c.dwn m)).2, 0 ≤ i ∧ i < (c.f.length : Int)) ↔ 0 ≤ (c.dwn m).1 ∧ (c.dwn m).2 ≤ (c.f.length : Int) * c.s.far := by
    rw [← e2]
    exact ⟨fun h i a b => h i ((mem_mts g.far).2 ⟨a, b⟩), fun h i hi => h i ((mem_mts g.far).1 hi).1 ((mem_mts g.far).1 hi).2⟩
  rw [r1, r2]
  unfold dk0
  simp only [Bool.and_eq_true, decide_eq_true_eq]
  have l1 := ln_L c k c.s.x c.p.x 0
  have l2 := ln_L c m c.s.y c.p.y 0
  rw [Int.add_zero, Int.zero_mul] at l1 l2
  rw [l1, l2, ln_R, ln_R]
  unfold acr dwn
  simp only [Int.not_lt]
  constructor
  · rintro ⟨a, b, c, d⟩; exact ⟨⟨a, b⟩, c, d⟩
  · rintro ⟨⟨a, b⟩, c, d⟩; exact ⟨a, b, c, d⟩
theorem shade_cell {c : Ca} (B : CaB c) (k m : Int) : c.shade k m = c.cell k m := by
  have g := B.good
  have hA : (c.dk0 k m && c.dkA k m c.f.length) = true ↔ c.cell k m = 35 := by
    rw [Bool.and_eq_true, dk0_iff B, cell_35]
    unfold dkA dkR
    simp only [List.all_eq_true, List.mem_range, Bool.or_eq_true]
    constructor
    · rintro ⟨⟨h1, h2⟩, h3⟩ j hj i hi
      obtain ⟨i', rfl⟩ : ∃ n : Nat, i = n := ⟨i.toNat, by have := h1 i hi; omega⟩
      obtain ⟨j', rfl⟩ : ∃ n : Nat, j = n := ⟨j.toNat, by have := h2 j hj; omega⟩
      have a1 := h1 _ hi; have a2 := h2 _ hj
      rw [chD_hide B (by omega) (by omega)]
      rcases h3 j' (by omega) i' (by omega) with h | h
      · rw [(skp_iff g.far).2 ⟨hi, hj⟩] at h; cases h
      · exact h
    · intro h
      obtain ⟨i0, hi0⟩ := mts_ex g.far (acr_lt g k)
      obtain ⟨j0, hj0⟩ := mts_ex g.far (dwn_lt g m)
      have inb : ∀ j i, c.hide j i = true → (0 ≤ j ∧ j < (c.f.length : Int)) ∧ (0 ≤ i ∧ i < (w0 c.f : Int)) := fun j i hh => by
        unfold hide inn at hh
        simp only [Bool.and_eq_true, decide_eq_true_eq] at hh
        omega
      refine ⟨⟨fun i hi => (inb _ _ (h j0 hj0 i hi)).2, fun j hj => (inb _ _ (h j hj i0 hi0)).1⟩, fun j hj i hi => ?_⟩
      cases hs : c.skp k m j i with
      | true => exact .inl rfl
      | false =>
        have := (skp_iff g.far).1 hs
        right; rw [← chD_hide B hj hi]; exact h _ this.2 _ this.1
  have hB : c.ltA k m c.f.length = true ↔ c.cell k m = 46 := by
    rw [cell_46 g]
    unfold ltA ltR
    simp only [List.all_eq_true, List.mem_range, Bool.or_eq_true, Bool.not_eq_true']
    constructor
    · intro h3 j hj i hi
      by_cases hin : (inn j 0 (c.f.length - 1) && inn i 0 ((w0 c.f : Int) - 1)) = true
      · have hin' := hin
        unfold inn at hin'
        simp only [Bool.and_eq_true, decide_eq_true_eq] at hin'
        obtain ⟨i', rfl⟩ : ∃ n : Nat, i = n := ⟨i.toNat, by omega⟩
        obtain ⟨j', rfl⟩ : ∃ n : Nat, j = n := ⟨j.toNat, by omega⟩
        rw [chD_hide B (by omega) (by omega)]
        rcases h3 j' (by omega) i' (by omega) with h | h
        · rw [(skp_iff g.far).2 ⟨hi, hj⟩] at h; cases h
        · exact h
      · exact hide_out (by simpa using hin)
    · intro h j hj i hi
      cases hs : c.skp k m j i with
      | true => exact .inl rfl
      | false =>
        have := (skp_iff g.far).1 hs
        right; rw [← chD_hide B hj hi]; exact h _ this.2 _ this.1
  unfold shade
  by_cases h1 : (c.dk0 k m && c.dkA k m c.f.length) = true
  · rw [if_pos h1, hA.1 h1]
  · rw [if_neg h1]
    by_cases h2 : c.ltA k m c.f.length = true
    · rw [if_pos h2, hB.1 h2]
    · rw [if_neg h2]
      rcases cell_ch3 c k m with e | e | e
      · exact absurd (hA.2 e) h1
      · exact e.symm
      · exact absurd (hB.2 e) h2
end Ca
end Ol
namespace Ol
open Ni (inn)
theorem mem_rdgs {x : Sn} {t : Th} : t ∈ rdgs x ↔ t.rd.fig < x.l.length ∧ t ∈ rdN x t.rd.fig := by
  unfold rdgs
  rw [List.mem_flatMap]
  constructor
  · rintro ⟨i, hi, h⟩
    have := rdN_fig h
    subst this
    exact ⟨List.mem_range.1 hi, h⟩
  · rintro ⟨h1, h2⟩; exact ⟨_, List.mem_range.2 h1, h2⟩
def goodP (t u : Th) : Prop := t.rd.fig < u.rd.fig ∧ agree t.sh u.sh = true
def mA : Option (Nat × Nat) → Int | none => -1 | some m => m.1
def mB : Option (Nat × Nat) → Int | none => -1 | some m => m.2
def leM (M : Option (Nat × Nat)) (a b : Int) : Prop := 0 ≤ mA M ∧ (mA M < a ∨ (mA M = a ∧ mB M ≤ b))
structure MInv (R : List Th) (M : Option (Nat × Nat)) (i k : Nat) : Prop where
  real : ∀ m, M = some m → ∃ t ∈ R, ∃ u ∈ R, goodP t u ∧ t.rd.fig = m.1 ∧ u.rd.fig = m.2
  least : ∀ p q, (hp : p < R.length) → (hq : q < R.length) → (p < i ∨ (p = i ∧ q < k)) → goodP R[p] R[q] → leM M R[p].rd.fig R[q].rd.fig
theorem MInv.row {R : List Th} {M : Option (Nat × Nat)} {i : Nat} (h : MInv R M i R.length) : MInv R M (i + 1) 0 :=
  ⟨h.real, fun p q hp hq hc hg => h.least p q hp hq (by omega) hg⟩
theorem good_mists {x : Sn} {t u : Th} (ht : t ∈ rdgs x) (hu : u ∈ rdgs x) (h : goodP t u) : mists ((byF x).getD t.rd.fig []) ((byF x).getD u.rd.fig []) = true := by
  obtain ⟨a1, a2⟩ := mem_rdgs.1 ht
  obtain ⟨b1, b2⟩ := mem_rdgs.1 hu
  have g : ∀ {i : Nat}, i < x.l.length → (byF x).getD i [] = rdN x i := fun {i} hi => by
    unfold byF; rw [getD_get (by simpa using hi)]; simp
  rw [g a1, g b1]
  exact mists_iff.2 ⟨t, a2, u, b2, h.2⟩
theorem MInv.done {x : Sn} {M : Option (Nat × Nat)} (h : MInv (rdgs x) M (rdgs x).length 0) : misOf x = M := by
  have g : ∀ {i : Nat}, i < x.l.length → (byF x).getD i [] = rdN x i := fun {i} hi => by
    unfold byF; rw [getD_get (by simpa using hi)]; simp
  have hl : (byF x).length = x.l.length := by simp [byF]
  have real : ∀ {a b : Nat}, a < b → b < x.l.length → mists ((byF x).getD a []) ((byF x).getD b []) = true → leM M a b := fun {a b} hab hb hm => by
    rw [g (by omega), g hb] at hm
    obtain ⟨t, ht, u, hu, hag⟩ := mists_iff.1 hm
    have ft := rdN_fig ht
    have fu := rdN_fig hu
    have mt : t ∈ rdgs x := mem_rdgs.2 ⟨by omega, by rw [ft]; exact ht⟩
    have mu : u ∈ rdgs x := mem_rdgs.2 ⟨by omega, by rw [fu]; exact hu⟩
    obtain ⟨p, hp, rfl⟩ := List.getElem_of_mem mt
    obtain ⟨q, hq, rfl⟩ := List.getElem_of_mem mu
    have := h.least p q hp hq (.inl hp) ⟨by omega, hag⟩
    rw [ft, fu] at this; exact this
  cases hm : misOf x with
  | none =>
    cases M with
    | none => rfl
    | some m =>
      obtain ⟨t, ht, u, hu, hg, e1, e2⟩ := h.real m rfl
      have h1 := good_mists ht hu hg
      have h2 := pair_none_inv hm _ _ hg.1 (by rw [hl]; exact (mem_rdgs.1 hu).1)
      rw [h1] at h2; cases h2
  | some m' =>
    obtain ⟨a, b⟩ := m'
    obtain ⟨⟨hab, hbl⟩, hmin⟩ := pair_some_inv hm
    rw [hl] at hbl hmin
    obtain ⟨i, hi, e, _⟩ := findSome_inv (show (List.range (byF x).length).findSome? (pairI (byF x)) = some (a, b) from hm)
    have hmm : mists ((byF x).getD a []) ((byF x).getD b []) = true := by
      unfold pairI at e
      cases hf : (List.range (byF x).length).find? (fun k => decide (i < k) && mists ((byF x).getD i []) ((byF x).getD k [])) with
      | none => rw [hf] at e; cases e
      | some k =>
        rw [hf] at e
        simp only [Option.map_some, Option.some.injEq, Prod.mk.injEq] at e
        have h1 := List.find?_some hf
        simp only [Bool.and_eq_true] at h1
        rw [← e.1, ← e.2]; exact h1.2
    have hle := real hab hbl hmm
    cases M with
    | none => unfold leM at hle; simp only [mA] at hle; omega
    | some m =>
      obtain ⟨t, ht, u, hu, hg, e1, e2⟩ := h.real m rfl
      have h1 := good_mists ht hu hg
      have h2 := hmin _ _ hg.1 (mem_rdgs.1 hu).1 h1
      unfold leM at hle
      simp only [mA, mB] at hle
      obtain ⟨m1, m2⟩ := m
      simp only at *
      congr 1
      refine Prod.ext ?_ ?_ <;> simp only <;> omega
end Ol
namespace Go.Proofs.YtmbknoaneglilaaGreatDoor
open Go Go.Ab Ni Ol
theorem rin_pure (n lo hi : Int) : APure Tryz.prog 89 [I n, I lo, I hi] (B (inn n lo hi)) := by
 refine apure_of (rs := [.tmp 6]) Tryz.func89 rfl rfl (Nat.le_of_ble_eq_true rfl) (by simp [AV.pureL, AV.pureB, AV.pureE, pureE_map]) (by first | rfl | (simp [AV.pureL, AV.pureB, AV.pureE, pureE_map])) fun e0 he0 => ?_
 refine W 5 ?_
 refine sq_split 10 J (fun g1 => ?_) (fun g1 => ?_)
 ·
  have g1' := g1
  try simp only [qq] at g1'
  refine W 5 ?_
  exact retQ_pure (v := .raw _) rfl rfl (Less.eq (by simp [inn, *]))
 have g1' := g1
 try simp only [qq] at g1'
 refine W 5 ?_
 exact retQ_pure (v := .raw _) rfl rfl (Less.eq (by simp [inn, *]))
theorem rstage_pure (s : Sg) : APure Tryz.prog 24 [stA s] (B (stOK s)) := by
 refine apure_of (rs := [.tmp 2]) Tryz.func24 rfl rfl (Nat.le_of_ble_eq_true rfl) (by simp [AV.pureL, AV.pureB, AV.pureE, pureE_map]) (by first | rfl | (simp [AV.pureL, AV.pureB, AV.pureE, pureE_map])) fun e0 he0 => ?_
 refine W 4 ?_
 refine cl A (rin_pure _ _ _) ?_
 refine W 1 ?_
 refine sq_split 6 J (fun g1 => ?_) (fun g1 => ?_)
 ·
  have g1' := g1
  try simp only [qq] at g1'
  refine W 2 ?_
  refine cy A (rin_pure _ _ _) ?_
  refine W 2 ?_
  refine sq_split 11 J (fun g2 => ?_) (fun g2 => ?_)
  ·
   have g2' := g2
   try simp only [qq] at g2'
   refine W 2 ?_
   refine cy A (rin_pure _ _ _) ?_
   refine W 2 ?_
   refine sq_split 16 J (fun g3 => ?_) (fun g3 => ?_)
   ·
    have g3' := g3
    try simp only [qq] at g3'
    refine W 2 ?_
    refine cy A (rin_pure _ _ _) ?_
    refine W 2 ?_
    refine sq_split 21 J (fun g4 => ?_) (fun g4 => ?_)
    ·
     have g4' := g4
     try simp only [qq] at g4'
     refine W 4 ?_
     refine cy A (rin_pure _ _ _) ?_
     refine W 2 ?_
     refine sq_split 28 J (fun g5 => ?_) (fun g5 => ?_)
     ·
      have g5' := g5
      try simp only [qq] at g5'
      refine W 4 ?_
      refine cy A (rin_pure _ _ _) ?_
      refine W 2 ?_
      exact retQ_pure (v := .raw _) rfl rfl (Less.eq (by simp [stOK, *]))
     have g5' := g5
     try simp only [qq] at g5'
     refine W 7 ?_
     exact retQ_pure (v := .raw _) rfl rfl (Less.eq (by simp [stOK, *]))
    have g4' := g4
    try simp only [qq] at g4'
    refine W 14 ?_
    exact retQ_pure (v := .raw _) rfl rfl (Less.eq (by simp [stOK, *]))
   have g3' := g3
   try simp only [qq] at g3'
   refine W 19 ?_
   exact retQ_pure (v := .raw _) rfl rfl (Less.eq (by simp [stOK, *]))
  have g2' := g2
  try simp only [qq] at g2'
  refine W 24 ?_
  exact retQ_pure (v := .raw _) rfl rfl (Less.eq (by simp [stOK, *]))
 have g1' := g1
 try simp only [qq] at g1'
 refine W 29 ?_
 exact retQ_pure (v := .raw _) rfl rfl (Less.eq (by simp [stOK, *]))
theorem rat_pure (x y : Int) : APure Tryz.prog 31 [I x, I y] (B (awayOK x && awayOK y)) := by
 refine apure_of (rs := [.tmp 4]) Tryz.func31 rfl rfl (Nat.le_of_ble_eq_true rfl) (by simp [AV.pureL, AV.pureB, AV.pureE, pureE_map]) (by first | rfl | (simp [AV.pureL, AV.pureB, AV.pureE, pureE_map])) fun e0 he0 => ?_
 refine W 2 ?_
 refine cl A (rin_pure _ _ _) ?_
 refine W 1 ?_
 refine sq_split 7 J (fun g1 => ?_) (fun g1 => ?_)
 ·
  have g1' := g1
  try simp only [qq] at g1'
  refine W 1 ?_
  refine cy A (rin_pure _ _ _) ?_
  refine W 2 ?_
  exact retQ_pure (v := .raw _) rfl rfl (Less.eq (by simp [awayOK, *]))
 have g1' := g1
 try simp only [qq] at g1'
 refine W 4 ?_
 exact retQ_pure (v := .raw _) rfl rfl (Less.eq (by simp [awayOK, *]))
theorem rplace_pure (s : Sg) (p : Pc) (h : 2 ≤ s.far ∧ s.far ≤ 40) : APure Tryz.prog 26 [stA s, pcA p] (B (pcOK s p)) := by
 refine apure_of (rs := [.tmp 4]) Tryz.func26 rfl rfl (Nat.le_of_ble_eq_true rfl) (by simp [AV.pureL, AV.pureB, AV.pureE, pureE_map]) (by first | rfl | (simp [AV.pureL, AV.pureB, AV.pureE, pureE_map])) fun e0 he0 => ?_
 refine W 8 ?_
 refine cl A (rin_pure _ _ _) ?_
 refine W 1 ?_
 refine sq_split 11 J (fun g1 => ?_) (fun g1 => ?_)
 ·
  have g1' := g1
  try simp only [qq] at g1'
  refine W 4 ?_
  refine cy A (rat_pure _ _) ?_
  refine W 2 ?_
  exact retQ_pure (v := .raw _) rfl rfl (Less.eq (by simp [pcOK, Bool.and_assoc, *]))
 have g1' := g1
 try simp only [qq] at g1'
 refine W 7 ?_
 exact retQ_pure (v := .raw _) rfl rfl (Less.eq (by simp [pcOK, Bool.and_assoc, *]))
end Go.Proofs.YtmbknoaneglilaaGreatDoor
namespace Go.Proofs.YtmbknoaneglilaaGreatDoor
open Go Go.Ab Ni Ol
theorem ch_ok {c : UInt8} (h : (c.toNat : Int) = 35 ∨ (c.toNat : Int) = 46) : chOK c = true := by
  unfold chOK; simp only [decide_eq_true_eq]
  exact h.imp (fun h => UInt8.toNat_inj.1 (by show c.toNat = 35; omega)) (fun h => UInt8.toNat_inj.1 (by show c.toNat = 46; omega))
theorem ch_no {c : UInt8} (h : (c.toNat : Int) ≠ 35) (k : (c.toNat : Int) ≠ 46) : chOK c = false := by
  rw [Bool.eq_false_iff]; intro ho; unfold chOK at ho; simp only [decide_eq_true_eq] at ho
  rcases ho with e | e <;> (subst e; first | exact h rfl | exact k rfl)
theorem rfigure_pure (f : Fg) : APure Tryz.prog 25 [fgA f] (B (fgOK f)) := by
  refine apure_of (rs := [.tmp 2]) Tryz.func25 rfl rfl (Nat.le_of_ble_eq_true rfl) (by simp [AV.pureL, AV.pureB, AV.pureE, pureE_map]) (by first | rfl | (simp [AV.pureL, AV.pureB, AV.pureE, pureE_map])) fun e0 he0 => ?_
  refine W 5 ?_
  refine cl A (rin_pure _ _ _) ?_
  refine W 2 ?_
  refine sq_split 11 J (fun g1_5 => ?_) (fun g1_5 => ?_)
  · skip
    have g1_5' := g1_5
    try simp only [qq] at g1_5'
    refine W 10 ?_
    exact retQ_pure (v := .raw _) rfl rfl (Less.eq (by unfold fgOK; simp_all))
  · skip
    have g1_5' := g1_5
    try simp only [qq] at g1_5'
    have h1 : inn f.length 1 6 = true := by simpa using g1_5
    have hlen : 1 ≤ f.length ∧ f.length ≤ 6 := by simp only [inn, Bool.and_eq_true, decide_eq_true_eq] at h1; omega
    have hw0 := w0_eq (f := f) (by omega)
    refine W 2 ?_
    refine sq_yes rfl rfl (less_b g1_5) rfl (ev_index_map (k := 0) sl24.h J J rfl (by omega)) ?_
    refine W 2 ?_
    refine cy A (rin_pure _ _ _) ?_
    refine W 2 ?_
    refine aw_cond J (fun c_19 => ?_) (fun c_19 => ?_)
    · skip
      have c_19' := c_19
      try simp only [qq] at c_19'
      refine W 1 ?_
      exact retQ_pure (v := .raw _) rfl rfl (Less.eq (by unfold fgOK; rw [hw0]; simp_all))
    · skip
      have c_19' := c_19
      try simp only [qq] at c_19'
      have h2 : inn (w0 f) 1 6 = true := by rw [hw0]; simpa using c_19
      refine W 2 ?_
      refine aw_loopk (ι := { k : Nat // k ≤ f.length ∧ ∀ i, (h : i < f.length) → i < k → fgRow (w0 f) f[i] = true }) [1] (fun i => [(3, B ((f.take i.1).any hasH)), (4, I i.1)]) (fun H i => H) (fun i => f.length - i.1) (⟨0, Nat.zero_le _, by omega⟩) ⟨J, J, J, trivial⟩ rfl ?_
      rintro ⟨k, hk, hok⟩
      dsimp only [keepS, St.put, sget, slotsOf, nn1, nn2, nn3, nn4, nn5, nn6, Nat.reduceBEq, Nat.reduceAdd, nn7, nn8]
      refine W 5 ?_
      refine iff (fun c_24 c_24' => ?_) (fun c_24 c_24' => ?_)
      · skip
        refine W 0 ?_
        refine aw_draw 12 mo (by kernel_rfl) ?_
        refine WD 8 ?_
        refine dr_ev rfl (ev_index_map (k := 0) sl24.h J J rfl (by omega)) ?_
        refine WD 3 ?_
        refine W 0 ?_
        refine ifn (fun c_38 c_38' => ?_) (fun c_38 c_38' => ?_)
        · skip
          refine W 1 ?_
          exact retQ_pure (v := .raw _) rfl rfl (Less.eq (by rw [fg_row_bad (k := k) (by omega) (fgRow_len (by rw [hw0]; omega))]))
        · skip
          have hlk : f[k].length ≤ 6 := by simp only [inn, Bool.and_eq_true, decide_eq_true_eq] at h2; omega
          refine W 1 ?_
          refine aw_loopk (ι := { j : Nat // j ≤ f[k].length ∧ ∀ i, (h : i < f[k].length) → i < j → chOK f[k][i] = true }) [1, 4] (fun q => [(3, B ((f.take k).any hasH || (f[k].take q.1).any fun c => decide (c = 35))), (5, I q.1)]) (fun H q => H) (fun q => f[k].length - q.1) (⟨0, Nat.zero_le _, by omega⟩) ⟨(Less.eq (by show B ((f.take k).any hasH) = _; simp)), J, J, J, trivial⟩ rfl ?_
          rintro ⟨j, hj, hoj⟩
          dsimp only [keepS, St.put, sget, slotsOf, nn1, nn2, nn3, nn4, nn5, nn6, Nat.reduceBEq, Nat.reduceAdd, nn7, nn8]
          refine W 8 ?_
          refine iff (fun c_46 c_46' => ?_) (fun c_46 c_46' => ?_)
          · skip
            have hk' : j < f[k].length := by omega
            have eC := any_take (q := fun c => decide (c = 35)) (l := f[k]) (k := j) hk'
            refine W 9 ?_
            refine sq_split 57 J (fun g12_8 => ?_) (fun g12_8 => ?_)
            · skip
              have g12_8' := g12_8
              try simp only [qq] at g12_8'
              refine W 9 ?_
              refine aw_cond J (fun c_66 => ?_) (fun c_66 => ?_)
              · skip
                have c_66' := c_66
                try simp only [qq] at c_66'
                refine W 1 ?_
                exact retQ_pure (v := .raw _) rfl rfl (Less.eq (by rw [fg_row_bad (k := k) (by omega) (fgRow_ch (j := j) hk' (ch_no g12_8' c_66'))]))
              · skip
                have c_66' := c_66
                try simp only [qq] at c_66'
                have hch : chOK f[k][j] = true := ch_ok (.inr (by simpa using c_66))
                refine W 2 ?_
                refine sq_split 68 J (fun g14_1 => ?_) (fun g14_1 => ?_)
                · skip
                  have g14_1' := g14_1
                  try simp only [qq] at g14_1'
                  have eF : B true = B ((f.take k).any hasH || (f[k].take (j + 1)).any fun c => decide (c = 35)) := by rw [eC, ← Bool.or_assoc, g14_1]; rfl
                  refine W 13 ?_
                  exact ⟨⟨j + 1, by omega, fun i h hi => (by by_cases e : i = j; (subst e; exact hch); exact hoj i h (by omega))⟩, by simp only; omega, Sub.slots ⟨(Less.eq eF), J, J, J, trivial⟩⟩
                · skip
                  have g14_1' := g14_1
                  try simp only [qq] at g14_1'
                  have eF : B (decide (((f[k][j]).toNat : Int) = 35)) = B ((f.take k).any hasH || (f[k].take (j + 1)).any fun c => decide (c = 35)) := by rw [eC, ← Bool.or_assoc, g14_1, dec35]; rfl
                  refine W 13 ?_
                  exact ⟨⟨j + 1, by omega, fun i h hi => (by by_cases e : i = j; (subst e; exact hch); exact hoj i h (by omega))⟩, by simp only; omega, Sub.slots ⟨(Less.eq eF), J, J, J, trivial⟩⟩
            · skip
              have g12_8' := g12_8
              try simp only [qq] at g12_8'
              have hch : chOK f[k][j] = true := ch_ok (.inl (by simpa using g12_8))
              refine W 12 ?_
              refine sq_split 68 J (fun g14_1 => ?_) (fun g14_1 => ?_)
              · skip
                have g14_1' := g14_1
                try simp only [qq] at g14_1'
                have eF : B true = B ((f.take k).any hasH || (f[k].take (j + 1)).any fun c => decide (c = 35)) := by rw [eC, ← Bool.or_assoc, g14_1]; rfl
                refine W 13 ?_
                exact ⟨⟨j + 1, by omega, fun i h hi => (by by_cases e : i = j; (subst e; exact hch); exact hoj i h (by omega))⟩, by simp only; omega, Sub.slots ⟨(Less.eq eF), J, J, J, trivial⟩⟩
              · skip
                have g14_1' := g14_1
                try simp only [qq] at g14_1'
                have eF : B (decide (((f[k][j]).toNat : Int) = 35)) = B ((f.take k).any hasH || (f[k].take (j + 1)).any fun c => decide (c = 35)) := by rw [eC, ← Bool.or_assoc, g14_1, dec35]; rfl
                refine W 13 ?_
                exact ⟨⟨j + 1, by omega, fun i h hi => (by by_cases e : i = j; (subst e; exact hch); exact hoj i h (by omega))⟩, by simp only; omega, Sub.slots ⟨(Less.eq eF), J, J, J, trivial⟩⟩
          · skip
            refine V 3 ?_
            refine sq_nil ?_
            have hgood : fgRow (w0 f) f[k] = true := fgRow_ok (by omega) (fun i h => hoj i h (by omega))
            have eA := any_take (q := hasH) (l := f) (k := k) (by omega)
            have eB : hasH f[k] = (f[k].take j).any (fun c => decide (c = 35)) := by unfold hasH; rw [List.take_of_length_le (by omega)]
            exact ⟨⟨k + 1, by omega, fun i h hi => (by by_cases e : i = k; (subst e; exact hgood); exact hok i h (by omega))⟩, by simp only; omega, Sub.slots ⟨(Less.eq (show B ((f.take k).any hasH || (f[k].take j).any fun c => decide (c = 35)) = _ by rw [eA, eB])), J, J, trivial⟩⟩
      · skip
        refine W 2 ?_
        exact retQ_pure (v := .raw _) rfl rfl (Less.eq (by rw [fg_end h1 h2 (fun i h => hok i h (by omega)), show k = f.length by omega, List.take_length]))
end Go.Proofs.YtmbknoaneglilaaGreatDoor
namespace Go.Proofs.YtmbknoaneglilaaGreatDoor
open Go Go.Ab Ni Ol
instance en23 : EnT Tryz.prog 23 := ⟨Ent.of Tryz.func23 (by kernel_rfl) rfl⟩
instance en24 : EnT Tryz.prog 24 := ⟨Ent.of Tryz.func24 (by kernel_rfl) rfl⟩
instance en25 : EnT Tryz.prog 25 := ⟨Ent.of Tryz.func25 (by kernel_rfl) rfl⟩
instance en26 : EnT Tryz.prog 26 := ⟨Ent.of Tryz.func26 (by kernel_rfl) rfl⟩
instance en34 : EnT Tryz.prog 34 := ⟨Ent.of Tryz.func34 (by kernel_rfl) rfl⟩
instance en77 : EnT Tryz.prog 77 := ⟨Ent.of Tryz.func77 (by kernel_rfl) rfl⟩
instance en85 : EnT Tryz.prog 85 := ⟨Ent.of Tryz.func85 (by kernel_rfl) rfl⟩
theorem allT_no {α : Type} {q : α → Bool} {l : List α} {n i : Nat} (hi : i < l.length) (hn : i < n) (h : q l[i] = false) : (l.take n).all q = false := by
  rw [List.all_eq_false]
  have hm : i < (l.take n).length := by rw [List.length_take]; omega
  exact ⟨(l.take n)[i], List.getElem_mem hm, by rw [List.getElem_take, h]; simp⟩
theorem allT_yes {α : Type} {q : α → Bool} {l : List α} {n : Nat} (h : ∀ i, (hi : i < l.length) → i < n → q l[i] = true) : (l.take n).all q = true := by
  rw [List.all_eq_true]
  intro x hx
  obtain ⟨i, hi, rfl⟩ := List.getElem_of_mem hx
  rw [List.length_take] at hi
  rw [List.getElem_take]; exact h i (by omega) (by omega)
def shortB (l : List (List UInt8)) : Bool := (l.take 20).all (fun r => decide (r.length ≤ 20)) && decide (l.length ≤ 18)
def fewB (l : List Fg) : Bool := (l.take 9).all shortB && decide (l.length ≤ 8)
theorem shortB_sz {l : List (List UInt8)} (h : shortB l = true) : l.length ≤ 18 ∧ ∀ r ∈ l, r.length ≤ 20 := by
  unfold shortB at h
  simp only [Bool.and_eq_true, decide_eq_true_eq] at h
  rw [List.take_of_length_le (by omega)] at h
  exact ⟨h.2, fun r hr => by have := List.all_eq_true.1 h.1 r hr; simpa using this⟩
theorem fewB_sz {l : List Fg} (h : fewB l = true) : l.length ≤ 8 ∧ ∀ f ∈ l, f.length ≤ 18 ∧ ∀ r ∈ f, r.length ≤ 20 := by
  unfold fewB at h
  simp only [Bool.and_eq_true, decide_eq_true_eq] at h
  rw [List.take_of_length_le (by omega)] at h
  exact ⟨h.2, fun f hf => shortB_sz (List.all_eq_true.1 h.1 f hf)⟩
theorem short_pure (l : List (List UInt8)) : APure Tryz.prog 23 [strs l] (B (shortB l)) := by
  refine apure_of (rs := [.tmp 2]) Tryz.func23 rfl rfl (Nat.le_of_ble_eq_true rfl) (by simp [AV.pureL, AV.pureB, AV.pureE, pureE_map]) (by first | rfl | (simp [AV.pureL, AV.pureB, AV.pureE, pureE_map])) fun e0 he0 => ?_
  refine W 2 ?_
  refine aw_loopk (ι := { k : Nat // k ≤ l.length ∧ k ≤ 20 ∧ ∀ i, (h : i < l.length) → i < k → decide (l[i].length ≤ 20) = true }) [0] (fun g => [(3, I g.1)]) (fun H g => H) (fun g => 20 - g.1) (⟨0, Nat.zero_le _, by omega, by omega⟩) ⟨J, J, trivial⟩ rfl ?_
  rintro ⟨k, hk, hok⟩
  dsimp only [keepS, St.put, sget, slotsOf, nn1, nn2, nn3, nn4, nn5, nn6, Nat.reduceBEq, Nat.reduceAdd, nn7, nn8]
  refine W 5 ?_
  refine sq_split 8 J (fun g2_4 => ?_) (fun g2_4 => ?_)
  · skip
    have g2_4' := g2_4
    try simp only [qq] at g2_4'
    have hkL : k < l.length := by omega
    refine W 3 ?_
    refine aw_cond J (fun c_11 => ?_) (fun c_11 => ?_)
    · skip
      have c_11' := c_11
      try simp only [qq] at c_11'
      refine W 6 ?_
      refine iff (fun c_19 c_19' => ?_) (fun c_19 c_19' => ?_)
      · skip
        refine W 1 ?_
        exact retQ_pure (v := .raw _) rfl rfl (Less.eq (by rw [shortB, allT_no (i := k) (n := 20) hkL (by omega) (by simp only [decide_eq_false_iff_not]; omega)]; rfl))
      · skip
        refine V 3 ?_
        refine sq_nil ?_
        have hgood : decide (l[k].length ≤ 20) = true := by simp only [decide_eq_true_eq]; omega
        exact ⟨⟨k + 1, by omega, by omega, fun i h hi => (by by_cases e : i = k; (subst e; exact hgood); exact hok.2 i h (by omega))⟩, by simp only; omega, Sub.slots ⟨J, J, trivial⟩⟩
    · skip
      have c_11' := c_11
      try simp only [qq] at c_11'
      refine W 4 ?_
      exact retQ_pure (v := .raw _) rfl rfl (Less.eq (by rw [shortB, allT_yes (n := 20) (fun i h hi => hok.2 i h (by omega))]; simp; omega))
  · skip
    have g2_4' := g2_4
    try simp only [qq] at g2_4'
    refine W 8 ?_
    exact retQ_pure (v := .raw _) rfl rfl (Less.eq (by rw [shortB, allT_yes (n := 20) (fun i h hi => hok.2 i h (by omega))]; simp; omega))
theorem few_pure (l : List Fg) : APure Tryz.prog 34 [figs l] (B (fewB l)) := by
 refine apure_of (rs := [.tmp 2]) Tryz.func34 rfl rfl (Nat.le_of_ble_eq_true rfl) (by simp [AV.pureL, AV.pureB, AV.pureE, pureE_map]) (by first | rfl | (simp [AV.pureL, AV.pureB, AV.pureE, pureE_map])) fun e0 he0 => ?_
 refine W 2 ?_
 refine aw_loopk (ι := { k : Nat // k ≤ l.length ∧ k ≤ 9 ∧ ∀ i, (h : i < l.length) → i < k → shortB l[i] = true }) [0] (fun g => [(3, I g.1)]) (fun H g => H) (fun g => 9 - g.1) (⟨0, Nat.zero_le _, by omega, by omega⟩) ⟨J, J, trivial⟩ rfl ?_
 rintro ⟨k, hk, hok⟩
 dsimp only [keepS, St.put, sget, slotsOf, nn1, nn2, nn3, nn4, nn5, nn6, Nat.reduceBEq, Nat.reduceAdd, nn7, nn8]
 refine W 5 ?_
 refine sq_split 8 J (fun g2_4 => ?_) (fun g2_4 => ?_)
 ·
  have g2_4' := g2_4
  try simp only [qq] at g2_4'
  have hkL : k < l.length := by omega
  refine W 3 ?_
  refine aw_cond J (fun c_11 => ?_) (fun c_11 => ?_)
  ·
   have c_11' := c_11
   try simp only [qq] at c_11'
   refine W 5 ?_
   refine cl A (short_pure _) ?_
   refine W 1 ?_
   refine aw_cond J (fun c_20 => ?_) (fun c_20 => ?_)
   ·
    have c_20' := c_20
    try simp only [qq] at c_20'
    refine W 1 ?_
    exact retQ_pure (v := .raw _) rfl rfl (Less.eq (by rw [fewB, allT_no (i := k) (n := 9) hkL (by omega) (by simpa using c_20)]; rfl))
   have c_20' := c_20
   try simp only [qq] at c_20'
   refine V 3 ?_
   refine sq_nil ?_
   have hgood : shortB l[k] = true := by simpa using c_20
   exact ⟨⟨k + 1, by omega, by omega, fun i h hi => (by by_cases e : i = k; (subst e; exact hgood); exact hok.2 i h (by omega))⟩, by simp only; omega, Sub.slots ⟨J, J, trivial⟩⟩
  have c_11' := c_11
  try simp only [qq] at c_11'
  refine W 4 ?_
  exact retQ_pure (v := .raw _) rfl rfl (Less.eq (by rw [fewB, allT_yes (n := 9) (fun i h hi => hok.2 i h (by omega))]; simp; omega))
 have g2_4' := g2_4
 try simp only [qq] at g2_4'
 refine W 8 ?_
 exact retQ_pure (v := .raw _) rfl rfl (Less.eq (by rw [fewB, allT_yes (n := 9) (fun i h hi => hok.2 i h (by omega))]; simp; omega))
theorem rfigures_pure (l : List Fg) : APure Tryz.prog 85 [figs l] (B ((l.take 6).all fgOK && decide (l.length ≤ 6))) := by
 refine apure_of (rs := [.tmp 2]) Tryz.func85 rfl rfl (Nat.le_of_ble_eq_true rfl) (by simp [AV.pureL, AV.pureB, AV.pureE, pureE_map]) (by first | rfl | (simp [AV.pureL, AV.pureB, AV.pureE, pureE_map])) fun e0 he0 => ?_
 refine W 2 ?_
 refine aw_loopk (ι := { k : Nat // k ≤ l.length ∧ k ≤ 6 ∧ ∀ i, (h : i < l.length) → i < k → fgOK l[i] = true }) [0] (fun g => [(3, I g.1)]) (fun H g => H) (fun g => 6 - g.1) (⟨0, Nat.zero_le _, by omega, by omega⟩) ⟨J, J, trivial⟩ rfl ?_
 rintro ⟨k, hk, hok⟩
 dsimp only [keepS, St.put, sget, slotsOf, nn1, nn2, nn3, nn4, nn5, nn6, Nat.reduceBEq, Nat.reduceAdd, nn7, nn8]
 refine W 5 ?_
 refine sq_split 8 J (fun g2_4 => ?_) (fun g2_4 => ?_)
 ·
  have g2_4' := g2_4
  try simp only [qq] at g2_4'
  have hkL : k < l.length := by omega
  refine W 3 ?_
  refine aw_cond J (fun c_11 => ?_) (fun c_11 => ?_)
  ·
   have c_11' := c_11
   try simp only [qq] at c_11'
   refine W 4 ?_
   refine cl A (rfigure_pure _) ?_
   refine W 1 ?_
   refine aw_cond J (fun c_19 => ?_) (fun c_19 => ?_)
   ·
    have c_19' := c_19
    try simp only [qq] at c_19'
    refine W 1 ?_
    exact retQ_pure (v := .raw _) rfl rfl (Less.eq (by rw [allT_no (i := k) (n := 6) hkL (by omega) (by simpa using c_19)]; rfl))
   have c_19' := c_19
   try simp only [qq] at c_19'
   refine V 3 ?_
   refine sq_nil ?_
   have hgood : fgOK l[k] = true := by simpa using c_19
   exact ⟨⟨k + 1, by omega, by omega, fun i h hi => (by by_cases e : i = k; (subst e; exact hgood); exact hok.2 i h (by omega))⟩, by simp only; omega, Sub.slots ⟨J, J, trivial⟩⟩
  have c_11' := c_11
  try simp only [qq] at c_11'
  refine W 4 ?_
  exact retQ_pure (v := .raw _) rfl rfl (Less.eq (by rw [allT_yes (n := 6) (fun i h hi => hok.2 i h (by omega))]; simp; omega))
 have g2_4' := g2_4
 try simp only [qq] at g2_4'
 refine W 8 ?_
 exact retQ_pure (v := .raw _) rfl rfl (Less.eq (by rw [allT_yes (n := 6) (fun i h hi => hok.2 i h (by omega))]; simp; omega))
end Go.Proofs.YtmbknoaneglilaaGreatDoor
namespace Go.Proofs.YtmbknoaneglilaaGreatDoor
open Go Go.Ab Ni Ol
theorem ropposed_pure (a b : UInt8) : APure Tryz.prog 72 [C a, C b] (B (opp a b)) := by
 refine apure_of (rs := [.tmp 4]) Tryz.func72 rfl rfl (Nat.le_of_ble_eq_true rfl) (by simp [AV.pureL, AV.pureB, AV.pureE, pureE_map]) (by first | rfl | (simp [AV.pureL, AV.pureB, AV.pureE, pureE_map])) fun e0 he0 => ?_
 refine W 4 ?_
 refine sq_split 7 J (fun g1_2 => ?_) (fun g1_2 => ?_)
 ·
  have g1_2' := g1_2
  try simp only [qq] at g1_2'
  refine W 4 ?_
  refine sq_split 11 J (fun g1_6 => ?_) (fun g1_6 => ?_)
  ·
   have g1_6' := g1_6
   try simp only [qq] at g1_6'
   refine W 8 ?_
   exact retQ_pure (v := .raw _) rfl rfl (Less.eq (by unfold opp; simp only [dec35, dec46] at *; simp [*]))
  have g1_6' := g1_6
  try simp only [qq] at g1_6'
  refine W 3 ?_
  refine sq_split 14 J (fun g1_9 => ?_) (fun g1_9 => ?_)
  ·
   have g1_9' := g1_9
   try simp only [qq] at g1_9'
   refine W 5 ?_
   exact retQ_pure (v := .raw _) rfl rfl (Less.eq (by unfold opp; simp only [dec35, dec46] at *; simp [*]))
  have g1_9' := g1_9
  try simp only [qq] at g1_9'
  refine W 5 ?_
  exact retQ_pure (v := .raw _) rfl rfl (Less.eq (by unfold opp; simp only [dec35, dec46] at *; simp [*]))
 have g1_2' := g1_2
 try simp only [qq] at g1_2'
 refine W 7 ?_
 refine sq_split 14 J (fun g1_9 => ?_) (fun g1_9 => ?_)
 ·
  have g1_9' := g1_9
  try simp only [qq] at g1_9'
  refine W 5 ?_
  exact retQ_pure (v := .raw _) rfl rfl (Less.eq (by unfold opp; simp only [dec35, dec46] at *; simp [*]))
 have g1_9' := g1_9
 try simp only [qq] at g1_9'
 refine W 5 ?_
 exact retQ_pure (v := .raw _) rfl rfl (Less.eq (by unfold opp; simp only [dec35, dec46] at *; simp [*]))
theorem samec_pure (a b : List (List UInt8)) (ha : a.length ≤ 1000000) (hb : b.length ≤ 1000000) : APure Tryz.prog 77 [strs a, strs b] (B (decide (a = b))) := by
 refine apure_of (rs := [.tmp 4]) Tryz.func77 rfl rfl (Nat.le_of_ble_eq_true rfl) (by simp [AV.pureL, AV.pureB, AV.pureE, pureE_map]) (by first | rfl | (simp [AV.pureL, AV.pureB, AV.pureE, pureE_map])) fun e0 he0 => ?_
 refine W 6 ?_
 refine ifn (fun c_10 c_10' => ?_) (fun c_10 c_10' => ?_)
 ·
  refine W 1 ?_
  exact retQ_pure (v := .raw _) rfl rfl (Less.eq (by rw [decide_eq_false (fun h => by rw [h] at c_10'; exact c_10' rfl)]))
 have hlen : a.length = b.length := by omega
 refine W 1 ?_
 refine aw_loopk (ι := { k : Nat // k ≤ a.length ∧ ∀ i, (h1 : i < a.length) → (h2 : i < b.length) → i < k → a[i] = b[i] }) [0, 1] (fun g => [(5, I g.1)]) (fun H g => H) (fun g => a.length - g.1) (⟨0, Nat.zero_le _, by omega⟩) ⟨J, J, J, trivial⟩ rfl ?_
 rintro ⟨k, hk, hok⟩
 dsimp only [keepS, St.put, sget, slotsOf, nn1, nn2, nn3, nn4, nn5, nn6, Nat.reduceBEq, Nat.reduceAdd, nn7, nn8]
 refine W 4 ?_
 refine iff (fun c_14 c_14' => ?_) (fun c_14 c_14' => ?_)
 ·
  have hkL : k < a.length := by omega
  refine W 0 ?_
  refine aw_draw 9 mo (by kernel_rfl) ?_
  refine WD 9 ?_
  refine W 0 ?_
  refine aw_cond J (fun c_25 => ?_) (fun c_25 => ?_)
  ·
   have c_25' := c_25
   try simp only [qq] at c_25'
   refine W 1 ?_
   exact retQ_pure (v := .raw _) rfl rfl (Less.eq (by rw [decide_eq_false (fun h => by subst h; simp at c_25')]))
  have c_25' := c_25
  try simp only [qq] at c_25'
  refine W 3 ?_
  exact ⟨⟨k + 1, by omega, fun i h1 h2 h => (by by_cases e : i = k; (subst e; simpa using c_25'); exact hok i h1 h2 (by omega))⟩, by simp only; omega, Sub.slots ⟨J, J, J, trivial⟩⟩
 have heq : a = b := same_ext hlen fun i h1 h2 => hok i h1 h2 (by omega)
 refine W 1 ?_
 exact retQ_pure (v := .raw _) rfl rfl (Less.eq (by rw [decide_eq_true heq]))
end Go.Proofs.YtmbknoaneglilaaGreatDoor
namespace Go.Proofs.YtmbknoaneglilaaGreatDoor
open Go Go.Ab Ni Ol
instance en27 : EnT Tryz.prog 27 := ⟨Ent.of Tryz.func27 (by kernel_rfl) rfl⟩
end Go.Proofs.YtmbknoaneglilaaGreatDoor
namespace Go.Proofs.YtmbknoaneglilaaGreatDoor
open Go Go.Ab Ni Ol
theorem gate_bool {a b : Bool} (h : (a && b) = true) : a = true ∧ b = true := by simpa using h
theorem far_of {s : Sg} (h : (!stOK s) = false) : 2 ≤ s.far ∧ s.far ≤ 40 := by have := stOK_iff.1 (by simpa using h); omega
end Go.Proofs.YtmbknoaneglilaaGreatDoor
namespace Go.Proofs.YtmbknoaneglilaaGreatDoor
open Go Go.Ab Ni Ol
theorem less_bo {a b : Bool} (h : a = b) : Less (B a) (B b) := Less.eq (by rw [h])
end Go.Proofs.YtmbknoaneglilaaGreatDoor
namespace Go.Proofs.YtmbknoaneglilaaGreatDoor
open Go Go.Ab Ni Ol
instance en130 : EnT Tryz.prog 130 := ⟨Ent.of Tryz.func130 (by kernel_rfl) rfl⟩
instance en139 : EnT Tryz.prog 139 := ⟨Ent.of Tryz.func139 (by kernel_rfl) rfl⟩
instance en88 : EnT Tryz.prog 88 := ⟨Ent.of Tryz.func88 (by kernel_rfl) rfl⟩
theorem aw_join {c : Ctx} {Q : AExit → St → Prop} {s : St} (V : List (Nat × AV)) (ks : List Nat) {a b : Code} (ha : AWP c a (AExit.then (fun s' => LessS s'.sl (V ++ keepS s.sl ks) ∧ s'.H = s.H ∧ s'.df = s.df) Q) s)
    (hb : AWP c b Q ⟨V ++ keepS s.sl ks, s.H, s.df⟩) : AWP c a (AExit.then (AWP c b Q) Q) s := by
  refine AWP.mono ha fun ax s' h => ?_
  cases ax with
  | normal =>
    obtain ⟨h1, h2, h3⟩ := h
    have h4 := aw_less (s := s') (Q := Q) (code := b) _ h1.all (by rw [h2, h3]; exact hb)
    exact h4
  | _ => exact h
theorem mul2 {a b A B : Int} (h1 : -A ≤ a ∧ a ≤ A) (h2 : -B ≤ b ∧ b ≤ B) : -(A * B) ≤ a * b ∧ a * b ≤ A * B := mulb h1.1 h1.2 h2.1 h2.2
theorem dkR_succ' {c : Ca} {k m : Int} {j n : Nat} : c.dkR k m j (n + 1) = (c.dkR k m j n && (c.skp k m j n || c.chD j n)) := c.dkR_succ k m j n
theorem ltR_succ' {c : Ca} {k m : Int} {j n : Nat} : c.ltR k m j (n + 1) = (c.ltR k m j n && (c.skp k m j n || !c.chD j n)) := c.ltR_succ k m j n
theorem inE_bys (n : Nat) (l : List UInt8) : AV.inE n (l.map fun x => [C x]) = true := inE_map fun x _ => by simp [AV.inL, AV.inB]
theorem bys_back (l : List UInt8) : ((l.map fun x => ((x.toNat : Nat) : Int)).map fun n => UInt8.ofNat n.toNat) = l := by
  rw [List.map_map]
  conv => rhs; rw [← List.map_id l]
  exact List.map_congr_left fun x _ => by simp
theorem bys_ints (l : List UInt8) : AV.sl 1 (l.map fun x => [C x]) = AV.sl 1 ((l.map fun x => ((x.toNat : Nat) : Int)).map fun n => [.raw (.int .u8 n)]) := by rw [List.map_map]; rfl
theorem rline_pure {c : Ca} (hc : CaB c) {a x : Int} (ha : 0 ≤ a ∧ a ≤ 16) (hx : -40 ≤ x ∧ x ≤ 40) : APure Tryz.prog 130 [I a, I c.s.far, I c.p.near, I x] (I (c.ln a x)) := by
  refine apure_of (rs := [.tmp 8]) Tryz.func130 rfl rfl (Nat.le_of_ble_eq_true rfl) (by simp [AV.pureL, AV.pureB, AV.pureE, pureE_map]) (by first | rfl | (simp [AV.pureL, AV.pureB, AV.pureE, pureE_map])) fun e0 he0 => ?_
  have h1 := hc.st
  have h2 := hc.pc
  have m1 := mul2 (a := a) (b := c.s.far - c.p.near) (A := 16) (B := 40) (by omega) (by omega)
  have m2 := mul2 (a := x - a) (b := c.s.far) (A := 60) (B := 40) (by omega) (by omega)
  refine W 13 ?_
  exact retQ_pure (v := .raw _) rfl rfl J
theorem shade_pure {c : Ca} (hc : CaB c) {k m : Int} (hk : -20 ≤ k ∧ k ≤ 20) (hm : -20 ≤ m ∧ m ≤ 20) : APure Tryz.prog 139 [stA c.s, fgA c.f, pcA c.p, I k, I m] (C (c.cell k m)) := by
 refine apure_of (rs := [.tmp 10]) Tryz.func139 rfl rfl (Nat.le_of_ble_eq_true rfl) (by simp [AV.pureL, AV.pureB, AV.pureE, pureE_map]) (by first | rfl | (simp [AV.pureL, AV.pureB, AV.pureE, pureE_map])) fun e0 he0 => ?_
 have h1 := hc.st
 have h2 := hc.pc
 have h3 := hc.fg
 have h4 := hc.w
 have hb := blur_bd hc
 have hpos : 0 < c.f.length := by omega
 have hw0 := w0_eq hpos
 have m1 := mul2 (a := k) (b := c.s.far - c.p.near) (A := 21) (B := 40) (by omega) (by omega)
 have m2 := mul2 (a := k + 1) (b := c.s.far - c.p.near) (A := 21) (B := 40) (by omega) (by omega)
 have m3 := mul2 (a := m) (b := c.s.far - c.p.near) (A := 21) (B := 40) (by omega) (by omega)
 have m4 := mul2 (a := m + 1) (b := c.s.far - c.p.near) (A := 21) (B := 40) (by omega) (by omega)
 refine W 4 ?_
 refine aw_draw 12 mo (by kernel_rfl) ?_
 refine WD 12 ?_
 refine W 26 ?_
 refine aw_draw 10 mo (by kernel_rfl) ?_
 refine WD 2 ?_
 refine dr_ev rfl (ev_index_map (k := 0) sl24.h J J rfl (by omega)) ?_
 refine WD 1 ?_
 refine dr_ev rfl (ev_less (ev_lenS Tryz.underlying9 J) (Less.eq (b := I ((w0 c.f : Nat) : Int)) (by rw [hw0]))) ?_
 refine WD 5 ?_
 refine sq_nil (aw_seq ?_)
 refine aw_join [(19, B (c.dk0 k m))] [5, 6, 7, 13, 14, 15, 16, 17, 18] ?_ ?_
 ·
  refine W 8 ?_
  refine cl A (rline_pure hc (by omega) (by omega)) ?_
  refine W 3 ?_
  refine sq_split 74 J (fun g5_11 => ?_) (fun g5_11 => ?_)
  ·
   have g5_11' := g5_11
   try simp only [qq] at g5_11'
   refine W 10 ?_
   refine cy A (rline_pure hc (by omega) (by omega)) ?_
   refine W 4 ?_
   refine sq_split 89 J (fun g5_26 => ?_) (fun g5_26 => ?_)
   ·
    have g5_26' := g5_26
    try simp only [qq] at g5_26'
    refine W 8 ?_
    refine cy A (rline_pure hc (by omega) (by omega)) ?_
    refine W 4 ?_
    refine sq_split 102 J (fun g5_39 => ?_) (fun g5_39 => ?_)
    ·
     have g5_39' := g5_39
     try simp only [qq] at g5_39'
     refine W 10 ?_
     refine cy A (rline_pure hc (by omega) (by omega)) ?_
     refine W 4 ?_
     exact ⟨⟨(by exact less_bo (by unfold Ca.dk0 Ca.eL Ca.eR; first | rfl | (simp_all; done) | (simp_all; intros; omega))), J, J, J, J, J, J, J, J, J, trivial⟩, rfl, rfl⟩
    have g5_39' := g5_39
    try simp only [qq] at g5_39'
    refine W 15 ?_
    exact ⟨⟨(by exact less_bo (by unfold Ca.dk0 Ca.eL Ca.eR; first | rfl | (simp_all; done) | (simp_all; intros; omega))), J, J, J, J, J, J, J, J, J, trivial⟩, rfl, rfl⟩
   have g5_26' := g5_26
   try simp only [qq] at g5_26'
   refine W 28 ?_
   exact ⟨⟨(by exact less_bo (by unfold Ca.dk0 Ca.eL Ca.eR; first | rfl | (simp_all; done) | (simp_all; intros; omega))), J, J, J, J, J, J, J, J, J, trivial⟩, rfl, rfl⟩
  have g5_11' := g5_11
  try simp only [qq] at g5_11'
  refine W 43 ?_
  exact ⟨⟨(by exact less_bo (by unfold Ca.dk0 Ca.eL Ca.eR; first | rfl | (simp_all; done) | (simp_all; intros; omega))), J, J, J, J, J, J, J, J, J, trivial⟩, rfl, rfl⟩
 dsimp only [keepS, St.put, sget, slotsOf, nn1, nn2, nn3, nn4, nn5, nn6, Nat.reduceBEq, Nat.reduceAdd, nn7, nn8]
 refine W 2 ?_
 refine aw_loopk (ι := { j : Nat // j ≤ c.f.length }) [5, 6, 7, 13, 14, 15, 16, 17, 18] (fun g => [(19, B (c.dk0 k m && c.dkA k m g.1)), (20, B (c.ltA k m g.1)), (21, I g.1)]) (fun H g => H) (fun g => c.f.length - g.1) (⟨0, Nat.zero_le _⟩) ⟨(by exact less_bo (by simp [Ca.dkA])), (by exact less_bo (by simp [Ca.ltA])), J, J, J, J, J, J, J, J, J, J, trivial⟩ rfl ?_
 rintro ⟨j, hj⟩
 dsimp only [keepS, St.put, sget, slotsOf, nn1, nn2, nn3, nn4, nn5, nn6, Nat.reduceBEq, Nat.reduceAdd, nn7, nn8]
 refine W 3 ?_
 refine iff (fun c_119 c_119' => ?_) (fun c_119 c_119' => ?_)
 ·
  have hjL : j < c.f.length := by omega
  have hrow := hc.row j hjL
  refine W 1 ?_
  refine aw_loopk (ι := { i : Nat // i ≤ w0 c.f }) [5, 6, 7, 13, 14, 15, 16, 17, 18, 21] (fun g => [(19, B (c.dk0 k m && c.dkA k m j && c.dkR k m j g.1)), (20, B (c.ltA k m j && c.ltR k m j g.1)), (22, I g.1)]) (fun H g => H) (fun g => w0 c.f - g.1) (⟨0, Nat.zero_le _⟩) ⟨(by exact less_bo (by simp [Ca.dkR])), (by exact less_bo (by simp [Ca.ltR])), J, J, J, J, J, J, J, J, J, J, J, trivial⟩ rfl ?_
  rintro ⟨i, hi⟩
  dsimp only [keepS, St.put, sget, slotsOf, nn1, nn2, nn3, nn4, nn5, nn6, Nat.reduceBEq, Nat.reduceAdd, nn7, nn8]
  refine W 3 ?_
  refine iff (fun c_124 c_124' => ?_) (fun c_124 c_124' => ?_)
  ·
   have hiL : i < c.f[j].length := by omega
   have hiw : i < w0 c.f := by omega
   refine W 10 ?_
   refine cl A (rline_pure hc (by omega) (by omega)) ?_
   refine W 3 ?_
   refine sq_split 140 J (fun g13_13 => ?_) (fun g13_13 => ?_)
   ·
    have g13_13' := g13_13
    try simp only [qq] at g13_13'
    have hs : c.skp k m j i = true := by unfold Ca.skp; simp only [Bool.or_eq_true]; exact .inl g13_13
    have eD : (c.dk0 k m && c.dkA k m j && c.dkR k m j i) = (c.dk0 k m && c.dkA k m j && c.dkR k m j (i + 1)) := by rw [dkR_succ', hs]; simp
    have eLt : (c.ltA k m j && c.ltR k m j i) = (c.ltA k m j && c.ltR k m j (i + 1)) := by rw [ltR_succ', hs]; simp
    refine W 50 ?_
    exact ⟨⟨i + 1, by omega⟩, by simp only; omega, Sub.slots ⟨(by exact less_bo eD), (by exact less_bo eLt), J, J, J, J, J, J, J, J, J, J, J, trivial⟩⟩
   have g13_13' := g13_13
   try simp only [qq] at g13_13'
   refine W 11 ?_
   refine cy A (rline_pure hc (by omega) (by omega)) ?_
   refine W 4 ?_
   refine sq_split 156 J (fun g13_29 => ?_) (fun g13_29 => ?_)
   ·
    have g13_29' := g13_29
    try simp only [qq] at g13_29'
    have hs : c.skp k m j i = true := by unfold Ca.skp; simp only [Bool.or_eq_true]; exact .inr (.inl g13_29)
    have eD : (c.dk0 k m && c.dkA k m j && c.dkR k m j i) = (c.dk0 k m && c.dkA k m j && c.dkR k m j (i + 1)) := by rw [dkR_succ', hs]; simp
    have eLt : (c.ltA k m j && c.ltR k m j i) = (c.ltA k m j && c.ltR k m j (i + 1)) := by rw [ltR_succ', hs]; simp
    refine W 34 ?_
    exact ⟨⟨i + 1, by omega⟩, by simp only; omega, Sub.slots ⟨(by exact less_bo eD), (by exact less_bo eLt), J, J, J, J, J, J, J, J, J, J, J, trivial⟩⟩
   have g13_29' := g13_29
   try simp only [qq] at g13_29'
   refine W 10 ?_
   refine cy A (rline_pure hc (by omega) (by omega)) ?_
   refine W 4 ?_
   refine sq_split 171 J (fun g13_44 => ?_) (fun g13_44 => ?_)
   ·
    have g13_44' := g13_44
    try simp only [qq] at g13_44'
    have hs : c.skp k m j i = true := by unfold Ca.skp; simp only [Bool.or_eq_true]; exact .inr (.inr (.inl g13_44))
    have eD : (c.dk0 k m && c.dkA k m j && c.dkR k m j i) = (c.dk0 k m && c.dkA k m j && c.dkR k m j (i + 1)) := by rw [dkR_succ', hs]; simp
    have eLt : (c.ltA k m j && c.ltR k m j i) = (c.ltA k m j && c.ltR k m j (i + 1)) := by rw [ltR_succ', hs]; simp
    refine W 19 ?_
    exact ⟨⟨i + 1, by omega⟩, by simp only; omega, Sub.slots ⟨(by exact less_bo eD), (by exact less_bo eLt), J, J, J, J, J, J, J, J, J, J, J, trivial⟩⟩
   have g13_44' := g13_44
   try simp only [qq] at g13_44'
   refine W 11 ?_
   refine cy A (rline_pure hc (by omega) (by omega)) ?_
   refine W 3 ?_
   refine aw_cond J (fun c_186 => ?_) (fun c_186 => ?_)
   ·
    have c_186' := c_186
    try simp only [qq] at c_186'
    have hs : c.skp k m j i = true := by unfold Ca.skp; simp only [Bool.or_eq_true]; exact .inr (.inr (.inr c_186))
    have eD : (c.dk0 k m && c.dkA k m j && c.dkR k m j i) = (c.dk0 k m && c.dkA k m j && c.dkR k m j (i + 1)) := by rw [dkR_succ', hs]; simp
    have eLt : (c.ltA k m j && c.ltR k m j i) = (c.ltA k m j && c.ltR k m j (i + 1)) := by rw [ltR_succ', hs]; simp
    refine W 3 ?_
    exact ⟨⟨i + 1, by omega⟩, by simp only; omega, Sub.slots ⟨(by exact less_bo eD), (by exact less_bo eLt), J, J, J, J, J, J, J, J, J, J, J, trivial⟩⟩
   have c_186' := c_186
   try simp only [qq] at c_186'
   have hs : c.skp k m j i = false := by unfold Ca.skp; simp only [Bool.or_eq_false_iff]; exact ⟨g13_13, g13_29, g13_44, c_186⟩
   refine W 8 ?_
   refine iff (fun c_194 c_194' => ?_) (fun c_194 c_194' => ?_)
   ·
    have hch : c.chD j i = true := by unfold Ca.chD; rw [getD_get hjL, getD_get hiL]; exact decide_eq_true (UInt8.toNat_inj.1 (by have : (35 : UInt8).toNat = 35 := rfl; omega))
    have eD : (c.dk0 k m && c.dkA k m j && c.dkR k m j i) = (c.dk0 k m && c.dkA k m j && c.dkR k m j (i + 1)) := by rw [dkR_succ', hs, hch]; simp
    have eLt : false = (c.ltA k m j && c.ltR k m j (i + 1)) := by rw [ltR_succ', hs, hch]; simp
    refine W 4 ?_
    exact ⟨⟨i + 1, by omega⟩, by simp only; omega, Sub.slots ⟨(by exact less_bo eD), (by exact less_bo eLt), J, J, J, J, J, J, J, J, J, J, J, trivial⟩⟩
   have hch : c.chD j i = false := by unfold Ca.chD; rw [getD_get hjL, getD_get hiL]; exact decide_eq_false (fun e => c_194' (by rw [e]; rfl))
   have eD : false = (c.dk0 k m && c.dkA k m j && c.dkR k m j (i + 1)) := by rw [dkR_succ', hs, hch]; simp
   have eLt : (c.ltA k m j && c.ltR k m j i) = (c.ltA k m j && c.ltR k m j (i + 1)) := by rw [ltR_succ', hs, hch]; simp
   refine W 4 ?_
   exact ⟨⟨i + 1, by omega⟩, by simp only; omega, Sub.slots ⟨(by exact less_bo eD), (by exact less_bo eLt), J, J, J, J, J, J, J, J, J, J, J, trivial⟩⟩
  obtain rfl : i = w0 c.f := by omega
  have eA : (c.dk0 k m && c.dkA k m j && c.dkR k m j (w0 c.f)) = (c.dk0 k m && c.dkA k m (j + 1)) := by rw [c.dkA_succ k m j, Bool.and_assoc]
  have eB : (c.ltA k m j && c.ltR k m j (w0 c.f)) = c.ltA k m (j + 1) := by rw [c.ltA_succ k m j]
  refine W 3 ?_
  exact ⟨⟨j + 1, by omega⟩, by simp only; omega, Sub.slots ⟨(by exact less_bo eA), (by exact less_bo eB), J, J, J, J, J, J, J, J, J, J, trivial⟩⟩
 obtain rfl : j = c.f.length := by omega
 refine W 1 ?_
 refine aw_cond J (fun c_195 => ?_) (fun c_195 => ?_)
 ·
  have c_195' := c_195
  try simp only [qq] at c_195'
  have hsh : c.shade k m = 35 := by unfold Ca.shade; rw [if_pos c_195]
  refine W 1 ?_
  exact retQ_pure (v := .raw _) rfl rfl (Less.eq (by rw [← Ca.shade_cell hc, hsh]; rfl))
 have c_195' := c_195
 try simp only [qq] at c_195'
 refine W 1 ?_
 refine aw_cond J (fun c_196 => ?_) (fun c_196 => ?_)
 ·
  have c_196' := c_196
  try simp only [qq] at c_196'
  have hsh : c.shade k m = 46 := by unfold Ca.shade; rw [if_neg (by rw [c_195]; simp), if_pos c_196]
  refine W 1 ?_
  exact retQ_pure (v := .raw _) rfl rfl (Less.eq (by rw [← Ca.shade_cell hc, hsh]; rfl))
 have c_196' := c_196
 try simp only [qq] at c_196'
 have hsh : c.shade k m = 43 := by unfold Ca.shade; rw [if_neg (by rw [c_195]; simp), if_neg (by rw [c_196]; simp)]
 refine W 1 ?_
 exact retQ_pure (v := .raw _) rfl rfl (Less.eq (by rw [← Ca.shade_cell hc, hsh]; rfl))
end Go.Proofs.YtmbknoaneglilaaGreatDoor
namespace Go.Proofs.YtmbknoaneglilaaGreatDoor
open Go Go.Ab Ni Ol
instance sf163 : SlS Tryz.prog 163 24 1 24 := ⟨SlFact.of (by kernel_rfl)⟩
instance sl163 : SlE Tryz.prog 163 24 1 := ⟨by kernel_rfl⟩
end Go.Proofs.YtmbknoaneglilaaGreatDoor
namespace Go.Proofs.YtmbknoaneglilaaGreatDoor
open Go Go.Ab Ni Ol
instance en84 : EnT Tryz.prog 84 := ⟨Ent.of Tryz.func84 (by kernel_rfl) rfl⟩
instance sl126 : SlE Tryz.prog 126 28 3 := ⟨by kernel_rfl⟩
def jca (s : Sg) (l : List Fg) (ps : List Pc) (i : Nat) : Ca := ⟨s, l.getD i [], ps.getD i ⟨0, 0, 0⟩⟩
def jsh (s : Sg) (l : List Fg) (ps : List Pc) (n : Nat) : List (List (List UInt8)) := (List.range n).map fun i => (jca s l ps i).shadow
def jhere (s : Sg) (l : List Fg) (ps : List Pc) (m k n : Nat) : List (List UInt8) := (List.range n).map fun i => [(jca s l ps i).cell (k : Int) (m : Int)]
def jcell (s : Sg) (l : List Fg) (ps : List Pc) (m k : Nat) : UInt8 := if 0 < cnt 35 (jhere s l ps m k l.length) then 35 else if 0 < cnt 43 (jhere s l ps m k l.length) then 43 else 46
def jrow (s : Sg) (l : List Fg) (ps : List Pc) (m k : Nat) : List UInt8 := (List.range k).map (jcell s l ps m)
def joined (s : Sg) (l : List Fg) (ps : List Pc) (h : Nat) : List (List UInt8) := (List.range h).map fun m => jrow s l ps m s.wide.toNat
def joOK (s : Sg) (l : List Fg) (ps : List Pc) : Bool := stOK s && (decide (l.length ≤ 6) && (decide (ps.length = l.length) && (List.range l.length).all fun i => caOK (jca s l ps i)))
theorem jsh_succ (s : Sg) (l : List Fg) (ps : List Pc) (n : Nat) : jsh s l ps (n + 1) = jsh s l ps n ++ [(jca s l ps n).shadow] := by unfold jsh; rw [List.range_succ, List.map_append]; rfl
theorem jsh_len (s : Sg) (l : List Fg) (ps : List Pc) (n : Nat) : (jsh s l ps n).length = n := by unfold jsh; simp
theorem jsh_get {s : Sg} {l : List Fg} {ps : List Pc} {n i : Nat} (h : i < (jsh s l ps n).length) : (jsh s l ps n)[i] = (jca s l ps i).shadow := (List.getElem_map (f := fun i => (jca s l ps i).shadow) (l := List.range n) (h := h)).trans (by rw [List.getElem_range])
theorem jhere_succ (s : Sg) (l : List Fg) (ps : List Pc) (m k n : Nat) : jhere s l ps m k (n + 1) = jhere s l ps m k n ++ [[(jca s l ps n).cell (k : Int) (m : Int)]] := by unfold jhere; rw [List.range_succ, List.map_append]; rfl
theorem jhere_len (s : Sg) (l : List Fg) (ps : List Pc) (m k n : Nat) : (jhere s l ps m k n).length = n := by unfold jhere; simp
theorem jhere_row {s : Sg} {l : List Fg} {ps : List Pc} {m k n : Nat} : ∀ r ∈ jhere s l ps m k n, r.length ≤ 1000 := fun r hr => by
  unfold jhere at hr; obtain ⟨i, _, rfl⟩ := List.mem_map.1 hr; simp
theorem jrow_succ (s : Sg) (l : List Fg) (ps : List Pc) (m k : Nat) : jrow s l ps m (k + 1) = jrow s l ps m k ++ [jcell s l ps m k] := by unfold jrow; rw [List.range_succ, List.map_append]; rfl
theorem jrow_len (s : Sg) (l : List Fg) (ps : List Pc) (m k : Nat) : (jrow s l ps m k).length = k := by unfold jrow; simp
theorem joined_succ (s : Sg) (l : List Fg) (ps : List Pc) (h : Nat) : joined s l ps (h + 1) = joined s l ps h ++ [jrow s l ps h s.wide.toNat] := by unfold joined; rw [List.range_succ, List.map_append]; rfl
theorem joined_len (s : Sg) (l : List Fg) (ps : List Pc) (h : Nat) : (joined s l ps h).length = h := by unfold joined; simp
theorem jca_get {s : Sg} {l : List Fg} {ps : List Pc} {i : Nat} (h1 : i < l.length) (h2 : i < ps.length) : jca s l ps i = ⟨s, l[i], ps[i]⟩ := by unfold jca; rw [getD_get h1, getD_get h2]
theorem jo_bad {s : Sg} {l : List Fg} {ps : List Pc} {i : Nat} (h : i < l.length) (hb : caOK (jca s l ps i) = false) : joOK s l ps = false := by
  unfold joOK
  rw [show ((List.range l.length).all fun i => caOK (jca s l ps i)) = false from List.all_eq_false.2 ⟨i, List.mem_range.2 h, by rw [hb]; simp⟩]
  simp
theorem jo_ok {s : Sg} {l : List Fg} {ps : List Pc} (h1 : stOK s = true) (h2 : l.length ≤ 6) (h3 : ps.length = l.length) (h4 : ∀ i, i < l.length → caOK (jca s l ps i) = true) : joOK s l ps = true := by
  unfold joOK
  rw [h1, decide_eq_true h2, decide_eq_true h3, show ((List.range l.length).all fun i => caOK (jca s l ps i)) = true from List.all_eq_true.2 fun i hi => h4 i (List.mem_range.1 hi)]; rfl
theorem shad_cut {c : Ca} {m k : Nat} (hm : m < c.shadow.length) (hk : k < c.s.wide.toNat) : (c.shadow[m].take (k + 1)).drop k = [c.cell (k : Int) (m : Int)] := by
  rw [shad_row hm]
  unfold Ca.srow
  rw [← List.map_take, ← List.map_drop, List.take_range, List.drop_eq_getElem_cons (by simp; omega)]
  simp [Nat.min_eq_left (show k + 1 ≤ c.s.wide.toNat by omega)]
theorem bb_in3 (n : Nat) : AV.inB 5 (bb 3 n) = true := by cases n <;> rfl
theorem bb_in36 (n : Nat) : AV.inB 6 (bb 3 n) = true := by cases n <;> rfl
theorem joined_pure (s : Sg) (l : List Fg) (ps : List Pc) (hp : ps.length ≤ 1000000) (hl : l.length ≤ 1000000) : APure Tryz.prog 84 [stA s, figs l, .sl 3 (ps.map pcC)] (.tup [strs (if joOK s l ps = true then joined s l ps s.high.toNat else []), I (er (joOK s l ps))]) := by
  refine apure_of (rs := [.tmp 6, .tmp 7]) Tryz.func84 rfl rfl (Nat.le_of_ble_eq_true rfl) (by simp [AV.pureL, AV.pureB, AV.pureE, pureE_map]) (by first | rfl | (simp [AV.pureL, AV.pureB, AV.pureE, pureE_map])) fun e0 he0 => ?_
  refine W 4 ?_
  refine cl A (isstage_pure s) ?_
  refine W 2 ?_
  refine sq_split 23 J (fun g1_3 => ?_) (fun g1_3 => ?_)
  · skip
    have g1_3' := g1_3
    try simp only [qq] at g1_3'
    have hjb : joOK s l ps = false := by unfold joOK; rw [g1_3']; rfl
    refine W 14 ?_
    exact retQ_pure (v := .tup [.raw _, .raw _]) rfl rfl (less_tup ⟨Less.trans (less_nil 1) (Less.eq (by rw [hjb]; rfl)), Less.eq (by rw [hjb]; rfl), trivial⟩)
  · skip
    have g1_3' := g1_3
    try simp only [qq] at g1_3'
    refine W 5 ?_
    refine sq_split 28 J (fun g1_8 => ?_) (fun g1_8 => ?_)
    · skip
      have g1_8' := g1_8
      try simp only [qq] at g1_8'
      have hjb : joOK s l ps = false := by unfold joOK; rw [decide_eq_false (show ¬ l.length ≤ 6 by omega)]; simp
      refine W 9 ?_
      exact retQ_pure (v := .tup [.raw _, .raw _]) rfl rfl (less_tup ⟨Less.trans (less_nil 1) (Less.eq (by rw [hjb]; rfl)), Less.eq (by rw [hjb]; rfl), trivial⟩)
    · skip
      have g1_8' := g1_8
      try simp only [qq] at g1_8'
      refine W 6 ?_
      refine aw_cond J (fun c_34 => ?_) (fun c_34 => ?_)
      · skip
        have c_34' := c_34
        try simp only [qq] at c_34'
        have hjb : joOK s l ps = false := by unfold joOK; rw [decide_eq_false (show ¬ ps.length = l.length by omega)]; simp
        refine W 2 ?_
        exact retQ_pure (v := .tup [.raw _, .raw _]) rfl rfl (less_tup ⟨Less.trans (less_nil 1) (Less.eq (by rw [hjb]; rfl)), Less.eq (by rw [hjb]; rfl), trivial⟩)
      · skip
        have c_34' := c_34
        try simp only [qq] at c_34'
        have hst : stOK s = true := by simp_all
        have hl6 : l.length ≤ 6 := by omega
        have hps : ps.length = l.length := by omega
        obtain ⟨s1, s2, s3, s4, s5, s6⟩ := stOK_iff.1 hst
        refine V 4 ?_
        refine sq_nil (aw_block ?_)
        refine aw_sub (sub_token 8 1 J) ?_
        refine aw_loopk (ι := { i : Nat // i ≤ l.length ∧ ∀ q, q < i → caOK (jca s l ps q) = true }) [2, 3, 35, 36] (fun g => [(8, .own 1 1 ((jsh s l ps g.1).map fun sh => [strs sh])), (37, I g.1)]) (fun H g => H.set 1 (.tok ((jsh s l ps g.1).map fun sh => [strs sh]).length)) (fun g => l.length - g.1) (⟨0, Nat.zero_le _, by omega⟩) ⟨J, J, J, J, J, J, trivial⟩ rfl ?_
        rintro ⟨i, hi, hok⟩
        dsimp only [keepS, St.put, sget, slotsOf, nn1, nn2, nn3, nn4, nn5, nn6, Nat.reduceBEq, Nat.reduceAdd, nn7, nn8]
        have hjl := jsh_len s l ps i
        refine W 1 ?_
        refine iff (fun c_38 c_38' => ?_) (fun c_38 c_38' => ?_)
        · skip
          have hiL : i < l.length := by omega
          have hip : i < ps.length := by omega
          have ej := jca_get (s := s) hiL hip
          have k97 : APure Tryz.prog 97 [stA s, fgA l[i], pcA ps[i]] (.tup [caA (jca s l ps i), B (caOK (jca s l ps i))]) := by rw [ej]; exact casting_pure ⟨s, l[i], ps[i]⟩
          refine W 6 ?_
          refine aw_drawc [10] [11] _ mo (by kernel_rfl) (HSub.refl _) ?_
          first | refine dc_ev rfl (ev_load_agg J rfl ty23.h rfl) ?_ | refine dc_ev rfl (ev_load_agg_i J ty23.h (by exact Nat.le_of_ble_eq_true rfl)) ?_
          first | refine dc_ev rfl (ev_load_agg J rfl ty26.h rfl) ?_ | refine dc_ev rfl (ev_load_agg_i J ty26.h (by exact Nat.le_of_ble_eq_true rfl)) ?_
          first | refine dc_ev rfl (ev_mv (v := .sl _ _) J) ?_ | refine dc_ev rfl (ev_mv (v := .own _ _ _) J) ?_ | refine dc_ev rfl (ev_mv (v := .raw _) J) ?_ | refine dc_ev rfl (ev_mv (v := .slx _ _) J) ?_ | refine dc_ev rfl (ev_mv (v := .msl _ _ _ _) J) ?_
          refine dc_ev rfl (ev_mv (v := .raw _) J) ?_
          first | refine dc_ev rfl (ev_index_map sl126.h J J rfl (by omega)) ?_ | refine dc_ev rfl (ev_index sl126.h J J rfl rfl) ?_
          first | refine dc_ev rfl (ev_load_agg J rfl ty28.h rfl) ?_ | refine dc_ev rfl (ev_load_agg_i J ty28.h (by exact Nat.le_of_ble_eq_true rfl)) ?_
          refine dc_ev rfl (ev_call en97.h J (k97) ⟨J, J, J, trivial⟩) ?_
          refine dc_ev rfl (ev_mv (v := .tup _) J) ?_
          refine dc_ev rfl (ev_extract J rfl) ?_
          refine dc_ev rfl (ev_extract J rfl) ?_
          refine dc_alloc rfl rfl z139.h ?_
          refine dc_eff rfl rfl (eff_store rfl J J rfl rfl ty139.h rfl rfl) (by apply HL.sub; repeat' (first | exact HL.nil _ | apply HL.same | apply HL.tok)) ?_
          refine dc_ev rfl (ev_as (v := .raw _) J) ?_
          refine dc_nil ?_
          refine W 2 ?_
          refine aw_cond J (fun c_53 => ?_) (fun c_53 => ?_)
          · skip
            have c_53' := c_53
            try simp only [qq] at c_53'
            have hno : caOK (jca s l ps i) = false := by simpa using c_53
            have hjb := jo_bad hiL hno
            refine W 2 ?_
            exact retQ_pure (v := .tup [.raw _, .raw _]) rfl rfl (less_tup ⟨Less.trans (less_nil 1) (Less.eq (by rw [hjb]; rfl)), Less.eq (by rw [hjb]; rfl), trivial⟩)
          · skip
            have c_53' := c_53
            try simp only [qq] at c_53'
            have hca : caOK (jca s l ps i) = true := by simpa using c_53
            have hcB := caOK_B hca
            have eS : (jsh s l ps (i + 1)).map (fun sh => [strs sh]) = (jsh s l ps i).map (fun sh => [strs sh]) ++ [[strs (jca s l ps i).shadow]] := by rw [jsh_succ, List.map_append]; rfl
            refine W 2 ?_
            refine cl A (shadow_pure hcB) ?_
            refine sq_ev rfl (ev_buildSlice (es := [[_]]) sf163.h rfl rfl rfl rfl) ?_
            first | refine sq_append rfl sf163.h Tryz.underlying163 rfl rfl J (Nat.succ_pos _) (by simp; omega) (by simp; omega) ?_ | refine sq_append rfl sf163.h Tryz.underlying163 rfl rfl (less_slx _ _) (Nat.succ_pos _) (by simp; omega) (by simp; omega) ?_
            refine W 3 ?_
            exact ⟨⟨i + 1, by omega, fun q hq => (by by_cases e : q = i; (subst e; exact hca); exact hok q (by omega))⟩, by simp only; omega, Sub.fin 2 ⟨Less.eq (b := .own 1 1 ((jsh s l ps (i + 1)).map fun sh => [strs sh])) (by rw [eS] <;> rfl), J, J, J, J, J, trivial⟩ (congrArg (fun n => [_, AObj.tok n]) (congrArg List.length eS.symm)) (by simp [slotsIn, objsIn, sget, keepS, AObj.inB, AV.inB, AV.inL, AV.inE, inE_map, bb_in3, bb_in36, inE_ints, inE_strs, inE_figs, inE_cloths, -List.map_append, -List.map_take, -List.map_map]) (by simp [slotsIn, objsIn, sget, keepS, AObj.inB, AV.inB, AV.inL, AV.inE, inE_map, bb_in3, bb_in36, inE_ints, inE_strs, inE_figs, inE_cloths, -List.map_append, -List.map_take, -List.map_map]) (by simp [he0])⟩
        · skip
          obtain rfl : i = l.length := by omega
          have hjo := jo_ok hst hl6 hps hok
          refine V 4 ?_
          refine sq_nil (aw_block ?_)
          refine aw_sub (sub_token 13 1 J) ?_
          refine aw_loopk (ι := { m : Nat // m ≤ s.high.toNat }) [3, 8, 61] (fun g => [(13, .own 2 1 ((joined s l ps g.1).map fun x => [S x])), (62, I g.1)]) (fun H g => H.set 2 (.tok ((joined s l ps g.1).map fun x => [S x]).length)) (fun g => s.high.toNat - g.1) (⟨0, Nat.zero_le _⟩) ⟨J, J, J, J, J, trivial⟩ rfl ?_
          rintro ⟨m, hm⟩
          dsimp only [keepS, St.put, sget, slotsOf, nn1, nn2, nn3, nn4, nn5, nn6, Nat.reduceBEq, Nat.reduceAdd, nn7, nn8]
          have hjq := joined_len s l ps m
          refine W 1 ?_
          refine iff (fun c_63 c_63' => ?_) (fun c_63 c_63' => ?_)
          · skip
            have hmL : m < s.high.toNat := by omega
            have eO : (joined s l ps (m + 1)).map (fun x => [S x]) = (joined s l ps m).map (fun x => [S x]) ++ [[S (jrow s l ps m s.wide.toNat)]] := by rw [joined_succ, List.map_append]; rfl
            refine W 2 ?_
            refine sq_alloc_t rfl z191.h ?_
            refine V 3 ?_
            refine sq_nil (aw_block ?_)
            refine aw_sub (sub_bld (k := 3) (bt := 191) (et := 5) (a := .raw (.pointer none)) rfl) ?_
            dsimp only [keepS, St.put, sget, slotsOf, nn1, nn2, nn3, nn4, nn5, nn6, Nat.reduceBEq, Nat.reduceAdd, nn7, nn8]
            refine aw_loopk (ι := { k : Nat // k ≤ s.wide.toNat }) [3, 8, 13, 14, 15, 61, 62, 66] (fun g => [(67, I g.1)]) (fun H g => (H.set 3 (.tcells 191 [bb 3 g.1, .ownb 4 1 5 (bys (jrow s l ps m g.1))])).set 4 (.tok (jrow s l ps m g.1).length)) (fun g => s.wide.toNat - g.1) (⟨0, Nat.zero_le _⟩) ⟨J, J, J, J, J, J, J, J, J, trivial⟩ rfl ?_
            rintro ⟨k, hk⟩
            dsimp only [keepS, St.put, sget, slotsOf, nn1, nn2, nn3, nn4, nn5, nn6, Nat.reduceBEq, Nat.reduceAdd, nn7, nn8]
            have hjr := jrow_len s l ps m k
            refine W 1 ?_
            refine iff (fun c_68 c_68' => ?_) (fun c_68 c_68' => ?_)
            · skip
              have hkL : k < s.wide.toNat := by omega
              refine V 6 ?_
              refine sq_nil (aw_block ?_)
              refine aw_sub (sub_token 17 1 J) ?_
              refine aw_loopk (ι := { q : Nat // q ≤ l.length }) [3, 8, 13, 14, 15, 16, 61, 62, 66, 67, 70, 71] (fun g => [(17, .own 5 1 ((jhere s l ps m k g.1).map fun x => [S x])), (72, I g.1)]) (fun H g => H.set 5 (.tok ((jhere s l ps m k g.1).map fun x => [S x]).length)) (fun g => l.length - g.1) (⟨0, Nat.zero_le _⟩) ⟨J, J, J, J, J, J, J, J, J, J, J, J, J, J, trivial⟩ rfl ?_
              rintro ⟨q, hq⟩
              dsimp only [keepS, St.put, sget, slotsOf, nn1, nn2, nn3, nn4, nn5, nn6, Nat.reduceBEq, Nat.reduceAdd, nn7, nn8]
              have hjh := jhere_len s l ps m k q
              refine W 1 ?_
              refine iff (fun c_73 c_73' => ?_) (fun c_73 c_73' => ?_)
              · skip
                have hqL : q < l.length := by omega
                have hqJ : q < (jsh s l ps l.length).length := by rw [jsh_len]; exact hqL
                have hsm : m < (jca s l ps q).shadow.length := by rw [shad_len]; exact hmL
                have eH : (jhere s l ps m k (q + 1)).map (fun x => [S x]) = (jhere s l ps m k q).map (fun x => [S x]) ++ [[S [(jca s l ps q).cell (k : Int) (m : Int)]]] := by rw [jhere_succ, List.map_append]; rfl
                refine W 0 ?_
                refine sq_ev rfl (ev_index_map (k := q) sl163.h (less_own _ _ _) J rfl hqJ) ?_
                refine sq_ev rfl (ev_less (ev_load_i J ty24.h rfl) (Less.eq (b := strs (jca s l ps q).shadow) (by rw [jsh_get hqJ]))) ?_
                refine W 9 ?_
                refine sq_ev rfl (ev_less (ev_cutBoth Tryz.underlying9 J J (hi := k + 1) (by exact less_int (by simp)) (by omega) (by rw [shad_row hsm, srow_len]; exact hkL)) (Less.eq (by rw [shad_cut hsm hkL]))) ?_
                refine sq_ev rfl (ev_buildSlice (es := [[_]]) sf24.h rfl rfl rfl rfl) ?_
                first | refine sq_append rfl sf24.h Tryz.underlying24 rfl rfl J (Nat.succ_pos _) (by simp; omega) (by simp; omega) ?_ | refine sq_append rfl sf24.h Tryz.underlying24 rfl rfl (less_slx _ _) (Nat.succ_pos _) (by simp; omega) (by simp; omega) ?_
                refine W 3 ?_
                exact ⟨⟨q + 1, by omega⟩, by simp only; omega, Sub.fin 6 ⟨Less.eq (b := .own 5 1 ((jhere s l ps m k (q + 1)).map fun x => [S x])) (by rw [eH] <;> rfl), J, J, J, J, J, J, J, J, J, J, J, J, J, trivial⟩ (congrArg (fun n => [_, _, _, _, _, AObj.tok n]) (congrArg List.length eH.symm)) (by simp [slotsIn, objsIn, sget, keepS, AObj.inB, AV.inB, AV.inL, AV.inE, inE_map, bb_in3, bb_in36, inE_ints, inE_strs, inE_figs, inE_cloths, -List.map_append, -List.map_take, -List.map_map]) (by simp [slotsIn, objsIn, sget, keepS, AObj.inB, AV.inB, AV.inL, AV.inE, inE_map, bb_in3, bb_in36, inE_ints, inE_strs, inE_figs, inE_cloths, -List.map_append, -List.map_take, -List.map_map]) (by simp [he0])⟩
              · skip
                obtain rfl : q = l.length := by omega
                refine W 0 ?_
                refine sq_ev rfl (ev_less (ev_mv (v := .own _ _ _) J) (less_own _ _ _)) ?_
                refine cl A (count_pure 35 (jhere s l ps m k l.length) (by rw [jhere_len]; omega) jhere_row) ?_
                refine W 2 ?_
                refine aw_cond J (fun c_89 => ?_) (fun c_89 => ?_)
                · skip
                  have c_89' := c_89
                  try simp only [qq] at c_89'
                  have eW : jrow s l ps m (k + 1) = jrow s l ps m k ++ [35] := by rw [jrow_succ, show jcell s l ps m k = 35 from by unfold jcell; rw [if_pos c_89']]
                  refine W 0 ?_
                  refine sq_call (args := [.ptr 3 0, C 35]) rfl en144.h J ⟨J, J, trivial⟩ (writebyte_call (k := 3) (j := 4) (l := jrow s l ps m k) (c := 35) (bb_or 3 k) rfl rfl (by rw [jrow_len]; omega)) ?_ (by rintro v H' ⟨h, _⟩; cases h)
                  rintro _ _ ⟨h, rfl⟩
                  cases h
                  refine W 2 ?_
                  exact ⟨⟨k + 1, by omega⟩, by simp only; omega, Sub.fin 5 ⟨J, J, J, J, J, J, J, J, J, trivial⟩ (congrArg (fun l => [_, _, _, AObj.tcells 191 [.ptr 3 0, .ownb 4 1 5 (bys l)], .tok l.length]) eW.symm) (by simp [slotsIn, objsIn, sget, keepS, AObj.inB, AV.inB, AV.inL, AV.inE, inE_map, bb_in3, bb_in36, inE_ints, inE_strs, inE_figs, inE_cloths, -List.map_append, -List.map_take, -List.map_map]) (by simp [slotsIn, objsIn, sget, keepS, AObj.inB, AV.inB, AV.inL, AV.inE, inE_map, bb_in3, bb_in36, inE_ints, inE_strs, inE_figs, inE_cloths, -List.map_append, -List.map_take, -List.map_map]) (by simp [he0])⟩
                · skip
                  have c_89' := c_89
                  try simp only [qq] at c_89'
                  refine W 0 ?_
                  refine sq_ev rfl (ev_less (ev_mv (v := .own _ _ _) J) (less_own _ _ _)) ?_
                  refine cl A (count_pure 43 (jhere s l ps m k l.length) (by rw [jhere_len]; omega) jhere_row) ?_
                  refine W 2 ?_
                  refine aw_cond J (fun c_94 => ?_) (fun c_94 => ?_)
                  · skip
                    have c_94' := c_94
                    try simp only [qq] at c_94'
                    have eW : jrow s l ps m (k + 1) = jrow s l ps m k ++ [43] := by rw [jrow_succ, show jcell s l ps m k = 43 from by unfold jcell; rw [if_neg (by omega), if_pos c_94']]
                    refine W 0 ?_
                    refine sq_call (args := [.ptr 3 0, C 43]) rfl en144.h J ⟨J, J, trivial⟩ (writebyte_call (k := 3) (j := 4) (l := jrow s l ps m k) (c := 43) (bb_or 3 k) rfl rfl (by rw [jrow_len]; omega)) ?_ (by rintro v H' ⟨h, _⟩; cases h)
                    rintro _ _ ⟨h, rfl⟩
                    cases h
                    refine W 2 ?_
                    exact ⟨⟨k + 1, by omega⟩, by simp only; omega, Sub.fin 5 ⟨J, J, J, J, J, J, J, J, J, trivial⟩ (congrArg (fun l => [_, _, _, AObj.tcells 191 [.ptr 3 0, .ownb 4 1 5 (bys l)], .tok l.length]) eW.symm) (by simp [slotsIn, objsIn, sget, keepS, AObj.inB, AV.inB, AV.inL, AV.inE, inE_map, bb_in3, bb_in36, inE_ints, inE_strs, inE_figs, inE_cloths, -List.map_append, -List.map_take, -List.map_map]) (by simp [slotsIn, objsIn, sget, keepS, AObj.inB, AV.inB, AV.inL, AV.inE, inE_map, bb_in3, bb_in36, inE_ints, inE_strs, inE_figs, inE_cloths, -List.map_append, -List.map_take, -List.map_map]) (by simp [he0])⟩
                  · skip
                    have c_94' := c_94
                    try simp only [qq] at c_94'
                    have eW : jrow s l ps m (k + 1) = jrow s l ps m k ++ [46] := by rw [jrow_succ, show jcell s l ps m k = 46 from by unfold jcell; rw [if_neg (by omega), if_neg (by omega)]]
                    refine W 0 ?_
                    refine sq_call (args := [.ptr 3 0, C 46]) rfl en144.h J ⟨J, J, trivial⟩ (writebyte_call (k := 3) (j := 4) (l := jrow s l ps m k) (c := 46) (bb_or 3 k) rfl rfl (by rw [jrow_len]; omega)) ?_ (by rintro v H' ⟨h, _⟩; cases h)
                    rintro _ _ ⟨h, rfl⟩
                    cases h
                    refine W 2 ?_
                    exact ⟨⟨k + 1, by omega⟩, by simp only; omega, Sub.fin 5 ⟨J, J, J, J, J, J, J, J, J, trivial⟩ (congrArg (fun l => [_, _, _, AObj.tcells 191 [.ptr 3 0, .ownb 4 1 5 (bys l)], .tok l.length]) eW.symm) (by simp [slotsIn, objsIn, sget, keepS, AObj.inB, AV.inB, AV.inL, AV.inE, inE_map, bb_in3, bb_in36, inE_ints, inE_strs, inE_figs, inE_cloths, -List.map_append, -List.map_take, -List.map_map]) (by simp [slotsIn, objsIn, sget, keepS, AObj.inB, AV.inB, AV.inL, AV.inE, inE_map, bb_in3, bb_in36, inE_ints, inE_strs, inE_figs, inE_cloths, -List.map_append, -List.map_take, -List.map_map]) (by simp [he0])⟩
            · skip
              obtain rfl : k = s.wide.toNat := by omega
              refine W 1 ?_
              refine sq_call (args := [.ptr 3 0]) rfl en145.h J ⟨J, trivial⟩ (bstring_call (k := 3) (j := 4) (l := jrow s l ps m s.wide.toNat) rfl rfl (by intro h; have := congrArg List.length h; rw [jrow_len] at this; simp at this; omega) (by rw [jrow_len]; omega)) ?_ (by rintro v H' ⟨h, _⟩; cases h)
              rintro _ _ ⟨h, rfl⟩
              cases h
              refine sq_ev rfl (ev_buildSlice (es := [[_]]) sf24.h rfl rfl rfl rfl) ?_
              first | refine sq_append rfl sf24.h Tryz.underlying24 rfl rfl J (Nat.succ_pos _) (by simp; omega) (by simp; omega) ?_ | refine sq_append rfl sf24.h Tryz.underlying24 rfl rfl (less_slx _ _) (Nat.succ_pos _) (by simp; omega) (by simp; omega) ?_
              refine W 3 ?_
              exact ⟨⟨m + 1, by omega⟩, by simp only; omega, Sub.fin 3 ⟨Less.eq (b := .own 2 1 ((joined s l ps (m + 1)).map fun x => [S x])) (by rw [eO] <;> rfl), J, J, J, J, trivial⟩ (congrArg (fun n => [_, _, AObj.tok n]) (congrArg List.length eO.symm)) (by simp [slotsIn, objsIn, sget, keepS, AObj.inB, AV.inB, AV.inL, AV.inE, inE_map, bb_in3, bb_in36, inE_ints, inE_strs, inE_figs, inE_cloths, -List.map_append, -List.map_take, -List.map_map]) (by simp [slotsIn, objsIn, sget, keepS, AObj.inB, AV.inB, AV.inL, AV.inE, inE_map, bb_in3, bb_in36, inE_ints, inE_strs, inE_figs, inE_cloths, -List.map_append, -List.map_take, -List.map_map]) (by simp [he0])⟩
          · skip
            obtain rfl : m = s.high.toNat := by omega
            refine W 3 ?_
            exact retQ_pure (v := .tup [.own _ _ _, .raw _]) rfl rfl (less_tup ⟨Less.trans (less_own _ _ _) (Less.eq (by rw [if_pos hjo])), Less.eq (by rw [hjo]; rfl), trivial⟩)
end Go.Proofs.YtmbknoaneglilaaGreatDoor
namespace Go.Proofs.YtmbknoaneglilaaGreatDoor
open Go Go.Ab Ni Ol
instance en86 : EnT Tryz.prog 86 := ⟨Ent.of Tryz.func86 (by kernel_rfl) rfl⟩
theorem rplaces_pure (s : Sg) (ps : List Pc) (h : 2 ≤ s.far ∧ s.far ≤ 40) : APure Tryz.prog 86 [stA s, .sl 3 (ps.map pcC)] (B ((ps.take 6).all (pcOK s))) := by
 refine apure_of (rs := [.tmp 4]) Tryz.func86 rfl rfl (Nat.le_of_ble_eq_true rfl) (by simp [AV.pureL, AV.pureB, AV.pureE, pureE_map]) (by first | rfl | (simp [AV.pureL, AV.pureB, AV.pureE, pureE_map])) fun e0 he0 => ?_
 refine W 3 ?_
 refine aw_loopk (ι := { k : Nat // k ≤ ps.length ∧ k ≤ 6 ∧ ∀ i, (h : i < ps.length) → i < k → pcOK s ps[i] = true }) [1, 2] (fun g => [(5, I g.1)]) (fun H g => H) (fun g => 6 - g.1) (⟨0, Nat.zero_le _, by omega, by omega⟩) ⟨J, J, J, trivial⟩ rfl ?_
 rintro ⟨k, hk, hok⟩
 dsimp only [keepS, St.put, sget, slotsOf, nn1, nn2, nn3, nn4, nn5, nn6, Nat.reduceBEq, Nat.reduceAdd, nn7, nn8]
 refine W 5 ?_
 refine sq_split 10 J (fun g2_4 => ?_) (fun g2_4 => ?_)
 ·
  have g2_4' := g2_4
  try simp only [qq] at g2_4'
  have hkL : k < ps.length := by omega
  refine W 3 ?_
  refine aw_cond J (fun c_13 => ?_) (fun c_13 => ?_)
  ·
   have c_13' := c_13
   try simp only [qq] at c_13'
   refine W 0 ?_
   refine aw_draw 7 mo (by kernel_rfl) ?_
   refine WD 5 ?_
   refine dcl A (rplace_pure s _ h) ?_
   refine WD 1 ?_
   refine W 0 ?_
   refine aw_cond J (fun c_22 => ?_) (fun c_22 => ?_)
   ·
    have c_22' := c_22
    try simp only [qq] at c_22'
    refine W 1 ?_
    exact retQ_pure (v := .raw _) rfl rfl (Less.eq (by rw [allT_no (i := k) (n := 6) hkL (by omega) (by simpa using c_22)]))
   have c_22' := c_22
   try simp only [qq] at c_22'
   refine V 3 ?_
   refine sq_nil ?_
   have hgood : pcOK s ps[k] = true := by simpa using c_22
   exact ⟨⟨k + 1, by omega, by omega, fun i h hi => (by by_cases e : i = k; (subst e; exact hgood); exact hok.2 i h (by omega))⟩, by simp only; omega, Sub.slots ⟨J, J, J, trivial⟩⟩
  have c_13' := c_13
  try simp only [qq] at c_13'
  refine W 1 ?_
  exact retQ_pure (v := .raw _) rfl rfl (Less.eq (by rw [allT_yes (n := 6) (fun i h hi => hok.2 i h (by omega))]))
 have g2_4' := g2_4
 try simp only [qq] at g2_4'
 refine W 5 ?_
 exact retQ_pure (v := .raw _) rfl rfl (Less.eq (by rw [allT_yes (n := 6) (fun i h hi => hok.2 i h (by omega))]))
theorem rmeets_pure {c : Ca} {g : Fg} {q : Pc} (hc : CaB c) (hd : CaB (Ca.mk c.s g q)) : APure Tryz.prog 88 [stA c.s, fgA c.f, pcA c.p, fgA g, pcA q] (I (meetsC c (Ca.mk c.s g q))) := by
 refine apure_of (rs := [.tmp 10]) Tryz.func88 rfl rfl (Nat.le_of_ble_eq_true rfl) (by simp [AV.pureL, AV.pureB, AV.pureE, pureE_map]) (by first | rfl | (simp [AV.pureL, AV.pureB, AV.pureE, pureE_map])) fun e0 he0 => ?_
 obtain ⟨s1, s2, s3, s4, s5, s6⟩ := hc.st
 refine W 8 ?_
 refine aw_loopk (ι := { m : Nat // m ≤ c.s.high.toNat ∧ (mall c (Ca.mk c.s g q) m).any dd = false }) [5, 6, 7, 8, 9] (fun g0 => [(11, I (soft (mall c (Ca.mk c.s g q) g0.1))), (12, I g0.1)]) (fun H g0 => H) (fun g0 => c.s.high.toNat - g0.1) (⟨0, Nat.zero_le _, rfl⟩) ⟨(by exact less_int rfl), J, J, J, J, J, J, trivial⟩ rfl ?_
 rintro ⟨m, hm, hd1⟩
 dsimp only [keepS, St.put, sget, slotsOf, nn1, nn2, nn3, nn4, nn5, nn6, Nat.reduceBEq, Nat.reduceAdd, nn7, nn8]
 refine W 4 ?_
 refine iff (fun c_19 c_19' => ?_) (fun c_19 c_19' => ?_)
 ·
  refine W 1 ?_
  refine aw_loopk (ι := { k : Nat // k ≤ c.s.wide.toNat ∧ (mrow c (Ca.mk c.s g q) m k).any dd = false }) [5, 6, 7, 8, 9, 12] (fun g0 => [(11, I (soft (mall c (Ca.mk c.s g q) m ++ mrow c (Ca.mk c.s g q) m g0.1))), (13, I g0.1)]) (fun H g0 => H) (fun g0 => c.s.wide.toNat - g0.1) (⟨0, Nat.zero_le _, rfl⟩) ⟨(by exact less_int (by simp [mrow])), J, J, J, J, J, J, J, trivial⟩ rfl ?_
  rintro ⟨k, hk, hd2⟩
  dsimp only [keepS, St.put, sget, slotsOf, nn1, nn2, nn3, nn4, nn5, nn6, Nat.reduceBEq, Nat.reduceAdd, nn7, nn8]
  refine W 4 ?_
  refine iff (fun c_25 c_25' => ?_) (fun c_25 c_25' => ?_)
  ·
   have hmh : m < c.s.high.toNat := by omega
   have hkw : k < c.s.wide.toNat := by omega
   refine W 0 ?_
   refine aw_draw 14 mo (by kernel_rfl) ?_
   refine WD 5 ?_
   refine dcl A (shade_pure hc (by omega) (by omega)) ?_
   refine WD 5 ?_
   refine dcl A (shade_pure (c := (Ca.mk c.s g q)) hd (by omega) (by omega)) ?_
   refine WD 2 ?_
   refine W 3 ?_
   refine sq_split 42 J (fun g9_2 => ?_) (fun g9_2 => ?_)
   ·
    have g9_2' := g9_2
    try simp only [qq] at g9_2'
    refine W 3 ?_
    refine aw_cond J (fun c_45 => ?_) (fun c_45 => ?_)
    ·
     have c_45' := c_45
     try simp only [qq] at c_45'
     have hdd : dd (c.cell (k : Nat) (m : Nat), (Ca.mk c.s g q).cell (k : Nat) (m : Nat)) = true := by rw [dec35] at c_45 g9_2; unfold dd; simp only [c_45, g9_2, Bool.and_true]
     have hme := meets_dd hmh hkw hdd
     refine W 1 ?_
     exact retQ_pure (v := .raw _) rfl rfl ((by exact less_int hme.symm))
    have c_45' := c_45
    try simp only [qq] at c_45'
    have hdd : dd (c.cell (k : Nat) (m : Nat), (Ca.mk c.s g q).cell (k : Nat) (m : Nat)) = false := by rw [dec35] at c_45; unfold dd; simp only [c_45, Bool.and_false]
    have hnx : (mrow c (Ca.mk c.s g q) m (k + 1)).any dd = false := by rw [mrow_succ]; exact any_snoc hd2 hdd
    refine W 3 ?_
    refine sq_split 48 J (fun g11_2 => ?_) (fun g11_2 => ?_)
    ·
     have g11_2' := g11_2
     try simp only [qq] at g11_2'
     refine W 3 ?_
     refine aw_cond J (fun c_51 => ?_) (fun c_51 => ?_)
     ·
      have c_51' := c_51
      try simp only [qq] at c_51'
      have hnl : nl (c.cell (k : Nat) (m : Nat), (Ca.mk c.s g q).cell (k : Nat) (m : Nat)) = true := by rw [dec46n] at c_51 g11_2; unfold nl; simp only [c_51, g11_2, Bool.and_true]
      have eF : 2 = soft (mall c (Ca.mk c.s g q) m ++ mrow c (Ca.mk c.s g q) m (k + 1)) := by rw [mrow_succ, ← List.append_assoc, soft_snoc]; rw [hnl]; rfl
      refine W 4 ?_
      exact ⟨⟨k + 1, by omega, hnx⟩, by simp only; omega, Sub.slots ⟨(by exact less_int eF), J, J, J, J, J, J, J, trivial⟩⟩
     have c_51' := c_51
     try simp only [qq] at c_51'
     have hnl : nl (c.cell (k : Nat) (m : Nat), (Ca.mk c.s g q).cell (k : Nat) (m : Nat)) = false := by rw [dec46n] at c_51; unfold nl; simp only [c_51, Bool.and_false]
     have eF : (soft (mall c (Ca.mk c.s g q) m ++ mrow c (Ca.mk c.s g q) m k)) = soft (mall c (Ca.mk c.s g q) m ++ mrow c (Ca.mk c.s g q) m (k + 1)) := by rw [mrow_succ, ← List.append_assoc, soft_snoc]; rw [hnl]; rfl
     refine W 3 ?_
     exact ⟨⟨k + 1, by omega, hnx⟩, by simp only; omega, Sub.slots ⟨(by exact less_int eF), J, J, J, J, J, J, J, trivial⟩⟩
    have g11_2' := g11_2
    try simp only [qq] at g11_2'
    have hnl : nl (c.cell (k : Nat) (m : Nat), (Ca.mk c.s g q).cell (k : Nat) (m : Nat)) = false := by rw [dec46n] at g11_2; unfold nl; simp only [g11_2, Bool.false_and]
    have eF : (soft (mall c (Ca.mk c.s g q) m ++ mrow c (Ca.mk c.s g q) m k)) = soft (mall c (Ca.mk c.s g q) m ++ mrow c (Ca.mk c.s g q) m (k + 1)) := by rw [mrow_succ, ← List.append_assoc, soft_snoc]; rw [hnl]; rfl
    refine W 7 ?_
    exact ⟨⟨k + 1, by omega, hnx⟩, by simp only; omega, Sub.slots ⟨(by exact less_int eF), J, J, J, J, J, J, J, trivial⟩⟩
   have g9_2' := g9_2
   try simp only [qq] at g9_2'
   have hdd : dd (c.cell (k : Nat) (m : Nat), (Ca.mk c.s g q).cell (k : Nat) (m : Nat)) = false := by rw [dec35] at g9_2; unfold dd; simp only [g9_2, Bool.false_and]
   have hnx : (mrow c (Ca.mk c.s g q) m (k + 1)).any dd = false := by rw [mrow_succ]; exact any_snoc hd2 hdd
   refine W 7 ?_
   refine sq_split 48 J (fun g11_2 => ?_) (fun g11_2 => ?_)
   ·
    have g11_2' := g11_2
    try simp only [qq] at g11_2'
    refine W 3 ?_
    refine aw_cond J (fun c_51 => ?_) (fun c_51 => ?_)
    ·
     have c_51' := c_51
     try simp only [qq] at c_51'
     have hnl : nl (c.cell (k : Nat) (m : Nat), (Ca.mk c.s g q).cell (k : Nat) (m : Nat)) = true := by rw [dec46n] at c_51 g11_2; unfold nl; simp only [c_51, g11_2, Bool.and_true]
     have eF : 2 = soft (mall c (Ca.mk c.s g q) m ++ mrow c (Ca.mk c.s g q) m (k + 1)) := by rw [mrow_succ, ← List.append_assoc, soft_snoc]; rw [hnl]; rfl
     refine W 4 ?_
     exact ⟨⟨k + 1, by omega, hnx⟩, by simp only; omega, Sub.slots ⟨(by exact less_int eF), J, J, J, J, J, J, J, trivial⟩⟩
    have c_51' := c_51
    try simp only [qq] at c_51'
    have hnl : nl (c.cell (k : Nat) (m : Nat), (Ca.mk c.s g q).cell (k : Nat) (m : Nat)) = false := by rw [dec46n] at c_51; unfold nl; simp only [c_51, Bool.and_false]
    have eF : (soft (mall c (Ca.mk c.s g q) m ++ mrow c (Ca.mk c.s g q) m k)) = soft (mall c (Ca.mk c.s g q) m ++ mrow c (Ca.mk c.s g q) m (k + 1)) := by rw [mrow_succ, ← List.append_assoc, soft_snoc]; rw [hnl]; rfl
    refine W 3 ?_
    exact ⟨⟨k + 1, by omega, hnx⟩, by simp only; omega, Sub.slots ⟨(by exact less_int eF), J, J, J, J, J, J, J, trivial⟩⟩
   have g11_2' := g11_2
   try simp only [qq] at g11_2'
   have hnl : nl (c.cell (k : Nat) (m : Nat), (Ca.mk c.s g q).cell (k : Nat) (m : Nat)) = false := by rw [dec46n] at g11_2; unfold nl; simp only [g11_2, Bool.false_and]
   have eF : (soft (mall c (Ca.mk c.s g q) m ++ mrow c (Ca.mk c.s g q) m k)) = soft (mall c (Ca.mk c.s g q) m ++ mrow c (Ca.mk c.s g q) m (k + 1)) := by rw [mrow_succ, ← List.append_assoc, soft_snoc]; rw [hnl]; rfl
   refine W 7 ?_
   exact ⟨⟨k + 1, by omega, hnx⟩, by simp only; omega, Sub.slots ⟨(by exact less_int eF), J, J, J, J, J, J, J, trivial⟩⟩
  refine V 3 ?_
  refine sq_nil ?_
  have hkt : k = c.s.wide.toNat := by omega
  exact ⟨⟨m + 1, by omega, by rw [mall_succ, List.any_append, hd1, ← hkt, hd2]; rfl⟩, by simp only; omega, Sub.slots ⟨(by exact less_int (show (soft (mall c (Ca.mk c.s g q) m ++ mrow c (Ca.mk c.s g q) m k)) = _ by rw [mall_succ, hkt])), J, J, J, J, J, J, trivial⟩⟩
 have hmt : mall c (Ca.mk c.s g q) m = mall c (Ca.mk c.s g q) c.s.high.toNat := by rw [show m = c.s.high.toNat by omega]
 refine W 2 ?_
 exact retQ_pure (v := .raw _) rfl rfl ((by exact less_int (by unfold meetsC; rw [← hmt, meetsP_soft hd1])))
end Go.Proofs.YtmbknoaneglilaaGreatDoor
namespace Go.Proofs.YtmbknoaneglilaaGreatDoor
open Go Go.Ab Ni Ol
instance en87 : EnT Tryz.prog 87 := ⟨Ent.of Tryz.func87 (by kernel_rfl) rfl⟩
def jfold (s : Sg) (l : List Fg) (ps : List Pc) (m k n : Nat) : UInt8 := if 0 < cnt 35 (jhere s l ps m k n) then 35 else if 0 < cnt 43 (jhere s l ps m k n) then 43 else 46
theorem less_ch {a b : UInt8} (h : a = b) : Less (C a) (C b) := Less.eq (by rw [h])
theorem jcnt_succ (ch : UInt8) (s : Sg) (l : List Fg) (ps : List Pc) (m k n : Nat) : cnt ch (jhere s l ps m k (n + 1)) = cnt ch (jhere s l ps m k n) + (if (jca s l ps n).cell (k : Int) (m : Int) = ch then 1 else 0) := by
  rw [jhere_succ]
  unfold Ol.cnt
  rw [List.map_append, List.sum_append]
  by_cases h : (jca s l ps n).cell (k : Int) (m : Int) = ch
  · simp [h]
  · simp [h]
theorem jcnt_nn (ch : UInt8) (s : Sg) (l : List Fg) (ps : List Pc) (m k n : Nat) : 0 ≤ cnt ch (jhere s l ps m k n) := (cnt_bd ch _ 1000 jhere_row).1
theorem jf_succ (s : Sg) (l : List Fg) (ps : List Pc) (m k n : Nat) : jfold s l ps m k (n + 1) = if (jca s l ps n).cell (k : Int) (m : Int) = 35 then 35 else if (jca s l ps n).cell (k : Int) (m : Int) = 43 ∧ jfold s l ps m k n = 46 then 43 else jfold s l ps m k n := by
  have h1 := jcnt_nn 35 s l ps m k n
  have h2 := jcnt_nn 43 s l ps m k n
  unfold jfold
  rw [jcnt_succ, jcnt_succ]
  by_cases a : (jca s l ps n).cell (k : Int) (m : Int) = 35
  · rw [if_pos a, if_pos a, if_pos (show 0 < Ol.cnt 35 (jhere s l ps m k n) + 1 by omega)]
  · rw [if_neg a, if_neg a, Int.add_zero]
    by_cases b : (jca s l ps n).cell (k : Int) (m : Int) = 43
    · rw [if_pos b]
      by_cases c : 0 < cnt 35 (jhere s l ps m k n)
      · rw [if_pos c, if_pos c, if_neg (by intro e; exact absurd e.2 (by decide))]
      · rw [if_neg c, if_neg c, if_pos (show 0 < cnt 43 (jhere s l ps m k n) + 1 by omega)]
        by_cases d : 0 < cnt 43 (jhere s l ps m k n)
        · rw [if_pos d, if_neg (by intro e; exact absurd e.2 (by decide))]
        · rw [if_neg d, if_pos ⟨b, rfl⟩]
    · rw [if_neg b, Int.add_zero, if_neg (show ¬ ((jca s l ps n).cell (k : Int) (m : Int) = 43 ∧ (if 0 < cnt 35 (jhere s l ps m k n) then (35 : UInt8) else if 0 < cnt 43 (jhere s l ps m k n) then 43 else 46) = 46) from fun e => b e.1)]
theorem rjoined_pure {s : Sg} {l : List Fg} {ps : List Pc} (hst : stOK s = true) (hl : l.length ≤ 6) (hps : ps.length = l.length) (hcB : ∀ i, i < l.length → CaB (jca s l ps i)) : APure Tryz.prog 87 [stA s, figs l, .sl 3 (ps.map pcC)] (strs (joined s l ps s.high.toNat)) := by
  refine apure_of (rs := [.tmp 6]) Tryz.func87 rfl rfl (Nat.le_of_ble_eq_true rfl) (by simp [AV.pureL, AV.pureB, AV.pureE, pureE_map]) (by first | rfl | (simp [AV.pureL, AV.pureB, AV.pureE, pureE_map])) fun e0 he0 => ?_
  obtain ⟨s1, s2, s3, s4, s5, s6⟩ := stOK_iff.1 hst
  refine V 4 ?_
  refine sq_nil (aw_block ?_)
  refine aw_sub (sub_token 7 1 J) ?_
  refine aw_loopk (ι := { m : Nat // m ≤ s.high.toNat }) [1, 2, 3] (fun g => [(7, .own 1 1 ((joined s l ps g.1).map fun x => [S x])), (8, I g.1)]) (fun H g => H.set 1 (.tok ((joined s l ps g.1).map fun x => [S x]).length)) (fun g => s.high.toNat - g.1) (⟨0, Nat.zero_le _⟩) ⟨J, J, J, J, J, trivial⟩ rfl ?_
  rintro ⟨m, hm⟩
  dsimp only [keepS, St.put, sget, slotsOf, nn1, nn2, nn3, nn4, nn5, nn6, Nat.reduceBEq, Nat.reduceAdd, nn7, nn8]
  have hjq := joined_len s l ps m
  refine W 4 ?_
  refine iff (fun c_17 c_17' => ?_) (fun c_17 c_17' => ?_)
  · skip
    have hmL : m < s.high.toNat := by omega
    have eO : (joined s l ps (m + 1)).map (fun x => [S x]) = (joined s l ps m).map (fun x => [S x]) ++ [[S (jrow s l ps m s.wide.toNat)]] := by rw [joined_succ, List.map_append]; rfl
    refine V 2 ?_
    refine sq_nil (aw_block ?_)
    refine aw_sub (sub_token 9 1 J) ?_
    refine aw_loopk (ι := { k : Nat // k ≤ s.wide.toNat }) [1, 2, 3, 7, 8] (fun g => [(9, .own 2 1 ((jrow s l ps m g.1).map fun x => [C x])), (10, I g.1)]) (fun H g => H.set 2 (.tok ((jrow s l ps m g.1).map fun x => [C x]).length)) (fun g => s.wide.toNat - g.1) (⟨0, Nat.zero_le _⟩) ⟨J, J, J, J, J, J, J, trivial⟩ rfl ?_
    rintro ⟨k, hk⟩
    dsimp only [keepS, St.put, sget, slotsOf, nn1, nn2, nn3, nn4, nn5, nn6, Nat.reduceBEq, Nat.reduceAdd, nn7, nn8]
    have hjr := jrow_len s l ps m k
    refine W 4 ?_
    refine iff (fun c_23 c_23' => ?_) (fun c_23 c_23' => ?_)
    · skip
      have hkL : k < s.wide.toNat := by omega
      have eR : (jrow s l ps m (k + 1)).map (fun x => [C x]) = (jrow s l ps m k).map (fun x => [C x]) ++ [[C (jfold s l ps m k l.length)]] := by rw [jrow_succ, List.map_append]; rfl
      refine W 2 ?_
      refine aw_loopk (ι := { n : Nat // n ≤ l.length }) [1, 2, 3, 7, 8, 9, 10] (fun g => [(11, C (jfold s l ps m k g.1)), (12, I g.1)]) (fun H g => H) (fun g => l.length - g.1) (⟨0, Nat.zero_le _⟩) ⟨(by exact less_ch (a := 46) rfl), J, J, J, J, J, J, J, J, trivial⟩ rfl ?_
      rintro ⟨n, hn⟩
      dsimp only [keepS, St.put, sget, slotsOf, nn1, nn2, nn3, nn4, nn5, nn6, Nat.reduceBEq, Nat.reduceAdd, nn7, nn8]
      refine W 4 ?_
      refine iff (fun c_29 c_29' => ?_) (fun c_29 c_29' => ?_)
      · skip
        have hnL : n < l.length := by omega
        have hnp : n < ps.length := by omega
        have ej := jca_get (s := s) hnL hnp
        have hcb := hcB n hnL
        have k139 : APure Tryz.prog 139 [stA s, fgA l[n], pcA ps[n], I (k : Int), I (m : Int)] (C ((jca s l ps n).cell (k : Int) (m : Int))) := by rw [ej] at hcb ⊢; exact shade_pure (c := ⟨s, l[n], ps[n]⟩) hcb (by omega) (by omega)
        refine W 0 ?_
        refine aw_draw 13 mo (by kernel_rfl) ?_
        refine WD 11 ?_
        refine dcl A (k139) ?_
        refine WD 1 ?_
        refine W 3 ?_
        refine sq_split 46 J (fun g14_2 => ?_) (fun g14_2 => ?_)
        · skip
          have g14_2' := g14_2
          try simp only [qq] at g14_2'
          have h35 : (jca s l ps n).cell (k : Int) (m : Int) = 35 := UInt8.toNat_inj.1 (by show _ = 35; omega)
          have eF : (jca s l ps n).cell (k : Int) (m : Int) = jfold s l ps m k (n + 1) := by rw [jf_succ, if_pos h35, h35]
          refine W 13 ?_
          exact ⟨⟨n + 1, by omega⟩, by simp only; omega, Sub.fin 3 ⟨(by exact less_ch eF), J, J, J, J, J, J, J, J, trivial⟩ rfl (by simp [slotsIn, objsIn, sget, keepS, AObj.inB, AV.inB, AV.inL, AV.inE, inE_map, inE_bys, inE_ints, inE_strs, inE_figs, inE_cloths, -List.map_append, -List.map_take, -List.map_map]) (by simp [slotsIn, objsIn, sget, keepS, AObj.inB, AV.inB, AV.inL, AV.inE, inE_map, inE_bys, inE_ints, inE_strs, inE_figs, inE_cloths, -List.map_append, -List.map_take, -List.map_map]) (by simp [he0])⟩
        · skip
          have g14_2' := g14_2
          try simp only [qq] at g14_2'
          have h35 : ¬ (jca s l ps n).cell (k : Int) (m : Int) = 35 := fun e => g14_2' (by rw [e]; rfl)
          refine W 3 ?_
          refine sq_split 49 J (fun g14_5 => ?_) (fun g14_5 => ?_)
          · skip
            have g14_5' := g14_5
            try simp only [qq] at g14_5'
            have h43 : (jca s l ps n).cell (k : Int) (m : Int) = 43 := UInt8.toNat_inj.1 (by show _ = 43; omega)
            refine W 4 ?_
            refine aw_cond J (fun c_53 => ?_) (fun c_53 => ?_)
            · skip
              have c_53' := c_53
              try simp only [qq] at c_53'
              have h46 : jfold s l ps m k n = 46 := UInt8.toNat_inj.1 (by show _ = 46; omega)
              have eF : (jca s l ps n).cell (k : Int) (m : Int) = jfold s l ps m k (n + 1) := by rw [jf_succ, if_neg h35, if_pos ⟨h43, h46⟩, h43]
              refine W 5 ?_
              exact ⟨⟨n + 1, by omega⟩, by simp only; omega, Sub.fin 3 ⟨(by exact less_ch eF), J, J, J, J, J, J, J, J, trivial⟩ rfl (by simp [slotsIn, objsIn, sget, keepS, AObj.inB, AV.inB, AV.inL, AV.inE, inE_map, inE_bys, inE_ints, inE_strs, inE_figs, inE_cloths, -List.map_append, -List.map_take, -List.map_map]) (by simp [slotsIn, objsIn, sget, keepS, AObj.inB, AV.inB, AV.inL, AV.inE, inE_map, inE_bys, inE_ints, inE_strs, inE_figs, inE_cloths, -List.map_append, -List.map_take, -List.map_map]) (by simp [he0])⟩
            · skip
              have c_53' := c_53
              try simp only [qq] at c_53'
              have h46 : ¬ jfold s l ps m k n = 46 := fun e => c_53' (by rw [e]; rfl)
              have eF : jfold s l ps m k n = jfold s l ps m k (n + 1) := by rw [jf_succ, if_neg h35, if_neg (fun e => h46 e.2)]
              refine W 3 ?_
              exact ⟨⟨n + 1, by omega⟩, by simp only; omega, Sub.fin 3 ⟨(by exact less_ch eF), J, J, J, J, J, J, J, J, trivial⟩ rfl (by simp [slotsIn, objsIn, sget, keepS, AObj.inB, AV.inB, AV.inL, AV.inE, inE_map, inE_bys, inE_ints, inE_strs, inE_figs, inE_cloths, -List.map_append, -List.map_take, -List.map_map]) (by simp [slotsIn, objsIn, sget, keepS, AObj.inB, AV.inB, AV.inL, AV.inE, inE_map, inE_bys, inE_ints, inE_strs, inE_figs, inE_cloths, -List.map_append, -List.map_take, -List.map_map]) (by simp [he0])⟩
          · skip
            have g14_5' := g14_5
            try simp only [qq] at g14_5'
            have h43 : ¬ (jca s l ps n).cell (k : Int) (m : Int) = 43 := fun e => g14_5' (by rw [e]; rfl)
            have eF : jfold s l ps m k n = jfold s l ps m k (n + 1) := by rw [jf_succ, if_neg h35, if_neg (fun e => h43 e.1)]
            refine W 8 ?_
            exact ⟨⟨n + 1, by omega⟩, by simp only; omega, Sub.fin 3 ⟨(by exact less_ch eF), J, J, J, J, J, J, J, J, trivial⟩ rfl (by simp [slotsIn, objsIn, sget, keepS, AObj.inB, AV.inB, AV.inL, AV.inE, inE_map, inE_bys, inE_ints, inE_strs, inE_figs, inE_cloths, -List.map_append, -List.map_take, -List.map_map]) (by simp [slotsIn, objsIn, sget, keepS, AObj.inB, AV.inB, AV.inL, AV.inE, inE_map, inE_bys, inE_ints, inE_strs, inE_figs, inE_cloths, -List.map_append, -List.map_take, -List.map_map]) (by simp [he0])⟩
      · skip
        obtain rfl : n = l.length := by omega
        refine W 2 ?_
        refine sq_ev rfl (ev_buildSlice (es := [[_]]) sf92.h rfl rfl rfl rfl) ?_
        first | refine sq_append rfl sf92.h Tryz.underlying92 rfl rfl J (Nat.succ_pos _) (by simp; omega) (by simp; omega) ?_ | refine sq_append rfl sf92.h Tryz.underlying92 rfl rfl (less_slx _ _) (Nat.succ_pos _) (by simp; omega) (by simp; omega) ?_
        refine W 4 ?_
        exact ⟨⟨k + 1, by omega⟩, by simp only; omega, Sub.fin 3 ⟨Less.eq (b := .own 2 1 ((jrow s l ps m (k + 1)).map fun x => [C x])) (by rw [eR] <;> rfl), J, J, J, J, J, J, trivial⟩ (congrArg (fun n => [_, _, AObj.tok n]) (congrArg List.length eR.symm)) (by simp [slotsIn, objsIn, sget, keepS, AObj.inB, AV.inB, AV.inL, AV.inE, inE_map, inE_bys, inE_ints, inE_strs, inE_figs, inE_cloths, -List.map_append, -List.map_take, -List.map_map]) (by simp [slotsIn, objsIn, sget, keepS, AObj.inB, AV.inB, AV.inL, AV.inE, inE_map, inE_bys, inE_ints, inE_strs, inE_figs, inE_cloths, -List.map_append, -List.map_take, -List.map_map]) (by simp [he0])⟩
    · skip
      obtain rfl : k = s.wide.toNat := by omega
      refine W 2 ?_
      refine sq_ev rfl (ev_less (ev_bytesS (ns := (jrow s l ps m s.wide.toNat).map fun (x : UInt8) => ((x.toNat : Nat) : Int)) Tryz.underlying92 Tryz.underlying5 Tryz.underlying9 (Less.trans (less_own _ _ _) (Less.eq (bys_ints (jrow s l ps m s.wide.toNat))))) (Less.eq (congrArg S (bys_back (jrow s l ps m s.wide.toNat))))) ?_
      refine sq_ev rfl (ev_buildSlice (es := [[_]]) sf24.h rfl rfl rfl rfl) ?_
      first | refine sq_append rfl sf24.h Tryz.underlying24 rfl rfl J (Nat.succ_pos _) (by simp; omega) (by simp; omega) ?_ | refine sq_append rfl sf24.h Tryz.underlying24 rfl rfl (less_slx _ _) (Nat.succ_pos _) (by simp; omega) (by simp; omega) ?_
      refine W 4 ?_
      exact ⟨⟨m + 1, by omega⟩, by simp only; omega, Sub.fin 2 ⟨Less.eq (b := .own 1 1 ((joined s l ps (m + 1)).map fun x => [S x])) (by rw [eO] <;> rfl), J, J, J, J, trivial⟩ (congrArg (fun n => [_, AObj.tok n]) (congrArg List.length eO.symm)) (by simp [slotsIn, objsIn, sget, keepS, AObj.inB, AV.inB, AV.inL, AV.inE, inE_map, inE_bys, inE_ints, inE_strs, inE_figs, inE_cloths, -List.map_append, -List.map_take, -List.map_map]) (by simp [slotsIn, objsIn, sget, keepS, AObj.inB, AV.inB, AV.inL, AV.inE, inE_map, inE_bys, inE_ints, inE_strs, inE_figs, inE_cloths, -List.map_append, -List.map_take, -List.map_map]) (by simp [he0])⟩
  · skip
    obtain rfl : m = s.high.toNat := by omega
    refine W 2 ?_
    exact retQ_pure (v := .own _ _ _) rfl rfl (less_own _ _ _)
end Go.Proofs.YtmbknoaneglilaaGreatDoor
namespace Go.Proofs.YtmbknoaneglilaaGreatDoor
open Go Go.Ab Ni Ol
theorem jo_facts {s : Sg} {l : List Fg} {ps : List Pc} (h : joOK s l ps = true) : stOK s = true ∧ l.length ≤ 6 ∧ ps.length = l.length ∧ ∀ i, i < l.length → caOK (jca s l ps i) = true := by
  unfold joOK at h
  simp only [Bool.and_eq_true, decide_eq_true_eq, List.all_eq_true, List.mem_range] at h
  exact ⟨h.1, h.2.1, h.2.2.1, h.2.2.2⟩
theorem jo_f {s : Sg} {l : List Fg} {ps : List Pc} (h : joOK s l ps = true) : ((l.take 6).all fgOK && decide (l.length ≤ 6)) = true := by
  obtain ⟨_, h2, h3, h4⟩ := jo_facts h
  rw [allT_yes (n := 6) (fun i hi _ => by have := caOK_f (h4 i hi); rw [jca_get hi (by omega)] at this; exact this.2.1), decide_eq_true h2]; rfl
theorem jo_p {s : Sg} {l : List Fg} {ps : List Pc} (h : joOK s l ps = true) : (ps.take 6).all (pcOK s) = true := by
  obtain ⟨_, h2, h3, h4⟩ := jo_facts h
  exact allT_yes (n := 6) (fun i hi _ => by have := caOK_f (h4 i (by omega)); rw [jca_get (by omega) hi] at this; exact this.2.2)
theorem take_all {α : Type} {q : α → Bool} {l : List α} (h : (l.take 6).all q = true) (hl : l.length ≤ 6) : ∀ i, (hi : i < l.length) → q l[i] = true := fun i hi => by
  rw [List.take_of_length_le hl, List.all_eq_true] at h; exact h _ (List.getElem_mem hi)
theorem jo_valid {s : Sg} {l : List Fg} {ps : List Pc} (h1 : stOK s = true) (h2 : ((l.take 6).all fgOK && decide (l.length ≤ 6)) = true) (h3 : ps.length = l.length) (h4 : (ps.take 6).all (pcOK s) = true) : joOK s l ps = true := by
  obtain ⟨a, b⟩ := gate_bool h2
  have b := of_decide_eq_true b
  refine jo_ok h1 b h3 fun i hi => ?_
  rw [jca_get hi (by omega)]
  unfold caOK
  simp only [Bool.and_eq_true]
  exact ⟨⟨h1, take_all a b i hi⟩, take_all h4 (by omega) i (by omega)⟩
theorem joins_gate (s : Sg) (l : List Fg) (ps : List Pc) (one two : Int) (hg : (fewB l && decide (ps.length ≤ 8)) = false) : APure Tryz.prog 21 [stA s, figs l, .sl 3 (ps.map pcC), I one, I two] (B true) := by
  refine apure_of (rs := [.tmp 10]) Tryz.func21 rfl rfl (Nat.le_of_ble_eq_true rfl) (by simp [AV.pureL, AV.pureB, AV.pureE, pureE_map]) (by first | rfl | (simp [AV.pureL, AV.pureB, AV.pureE, pureE_map])) fun e0 he0 => ?_
  refine W 3 ?_
  refine cl A (few_pure l) ?_
  refine W 2 ?_
  refine sq_split 22 J (fun g1_3 => ?_) (fun g1_3 => ?_)
  · skip
    have g1_3' := g1_3
    try simp only [qq] at g1_3'
    refine W 5 ?_
    refine cl A (known_pure) ?_
    refine W 1 ?_
    exact retQ_pure (v := .raw _) rfl rfl J
  · skip
    have g1_3' := g1_3
    try simp only [qq] at g1_3'
    refine W 4 ?_
    refine aw_cond J (fun c_26 => ?_) (fun c_26 => ?_)
    · skip
      have c_26' := c_26
      try simp only [qq] at c_26'
      refine W 0 ?_
      refine cl A (known_pure) ?_
      refine W 1 ?_
      exact retQ_pure (v := .raw _) rfl rfl J
    · skip
      have c_26' := c_26
      try simp only [qq] at c_26'
      first | (exfalso; simp_all; done) | (exfalso; simp_all; omega)
theorem joins_out {s : Sg} {l : List Fg} {ps : List Pc} (k34 : APure Tryz.prog 34 [figs l] (B true)) (hl : l.length ≤ 8) (hp : ps.length ≤ 8) {one two : Int} (ho : ¬ (0 ≤ one ∧ one < l.length ∧ one < ps.length ∧ 0 ≤ two ∧ two < l.length ∧ two < ps.length)) : APure Tryz.prog 21 [stA s, figs l, .sl 3 (ps.map pcC), I one, I two] (B true) := by
  refine apure_of (rs := [.tmp 10]) Tryz.func21 rfl rfl (Nat.le_of_ble_eq_true rfl) (by simp [AV.pureL, AV.pureB, AV.pureE, pureE_map]) (by first | rfl | (simp [AV.pureL, AV.pureB, AV.pureE, pureE_map])) fun e0 he0 => ?_
  refine W 3 ?_
  refine cl A (k34) ?_
  refine W 6 ?_
  refine aw_cond J (fun c_26 => ?_) (fun c_26 => ?_)
  · skip
    have c_26' := c_26
    try simp only [qq] at c_26'
    first | exact absurd c_26 (by decide) | (exfalso; simp at c_26; done) | (exfalso; simp at c_26; omega) | (exfalso; simp_all; done) | (exfalso; simp_all; omega)
  · skip
    have c_26' := c_26
    try simp only [qq] at c_26'
    refine W 3 ?_
    refine cl A (joined_pure s l ps (by omega) (by omega)) ?_
    refine V 5 ?_
    refine sq_nil (aw_seq (aw_seq ?_))
    refine aw_join [(55, B (!joOK s l ps))] [1, 2, 3, 4, 5, 11, 12] ?_ ?_
    · skip
      refine W 1 ?_
      refine cl A (rstage_pure s) ?_
      refine W 2 ?_
      refine sq_split 38 J (fun g4_3 => ?_) (fun g4_3 => ?_)
      · skip
        have g4_3' := g4_3
        try simp only [qq] at g4_3'
        have hjb : joOK s l ps = false := by cases h : joOK s l ps with | false => rfl | true => have q1 := jo_facts h; have q2 := jo_f h; have q3 := jo_p h; have q4 := q1.2.2.1; first | (exfalso; omega) | (rw [q1.1] at g4_3; exact absurd g4_3 (by decide)) | (rw [q2] at g4_8; exact absurd g4_8 (by decide)) | (simp_all; done) | (exfalso; simp_all; omega) | (exfalso; omega)
        refine W 17 ?_
        exact ⟨⟨(by first | exact less_bo (by rw [hjb]; rfl) | exact less_bo e55), J, J, J, J, J, J, J, trivial⟩, rfl, rfl⟩
      · skip
        have g4_3' := g4_3
        try simp only [qq] at g4_3'
        refine W 1 ?_
        refine cy A (rfigures_pure l) ?_
        refine W 3 ?_
        refine sq_split 43 J (fun g4_8 => ?_) (fun g4_8 => ?_)
        · skip
          have g4_8' := g4_8
          try simp only [qq] at g4_8'
          have hjb : joOK s l ps = false := by cases h : joOK s l ps with | false => rfl | true => have q1 := jo_facts h; have q2 := jo_f h; have q3 := jo_p h; have q4 := q1.2.2.1; first | (exfalso; omega) | (rw [q1.1] at g4_3; exact absurd g4_3 (by decide)) | (rw [q2] at g4_8; exact absurd g4_8 (by decide)) | (simp_all; done) | (exfalso; simp_all; omega) | (exfalso; omega)
          refine W 12 ?_
          exact ⟨⟨(by first | exact less_bo (by rw [hjb]; rfl) | exact less_bo e55), J, J, J, J, J, J, J, trivial⟩, rfl, rfl⟩
        · skip
          have g4_8' := g4_8
          try simp only [qq] at g4_8'
          refine W 7 ?_
          refine sq_split 50 J (fun g4_15 => ?_) (fun g4_15 => ?_)
          · skip
            have g4_15' := g4_15
            try simp only [qq] at g4_15'
            have hjb : joOK s l ps = false := by cases h : joOK s l ps with | false => rfl | true => have q1 := jo_facts h; have q2 := jo_f h; have q3 := jo_p h; have q4 := q1.2.2.1; first | (exfalso; omega) | (rw [q1.1] at g4_3; exact absurd g4_3 (by decide)) | (rw [q2] at g4_8; exact absurd g4_8 (by decide)) | (simp_all; done) | (exfalso; simp_all; omega) | (exfalso; omega)
            refine W 5 ?_
            exact ⟨⟨(by first | exact less_bo (by rw [hjb]; rfl) | exact less_bo e55), J, J, J, J, J, J, J, trivial⟩, rfl, rfl⟩
          · skip
            have g4_15' := g4_15
            try simp only [qq] at g4_15'
            have e55 : (!(ps.take 6).all (pcOK s)) = !joOK s l ps := by cases h : joOK s l ps with | true => rw [jo_p h] | false => cases h4 : (ps.take 6).all (pcOK s) with | false => rfl | true => rw [jo_valid (by simpa using g4_3) (by simpa using g4_8) (by omega) h4] at h; cases h
            refine W 2 ?_
            refine cy A (rplaces_pure s ps (far_of g4_3)) ?_
            refine W 2 ?_
            exact ⟨⟨(by first | exact less_bo (by rw [hjb]; rfl) | exact less_bo e55), J, J, J, J, J, J, J, trivial⟩, rfl, rfl⟩
    · skip
      dsimp only [keepS, St.put, sget, slotsOf, nn1, nn2, nn3, nn4, nn5, nn6, Nat.reduceBEq, Nat.reduceAdd, nn7, nn8]
      refine aw_join [] [1, 2, 3, 4, 5] ?_ ?_
      · skip
        refine aw_cond J (fun c_55 => ?_) (fun c_55 => ?_)
        · skip
          have c_55' := c_55
          try simp only [qq] at c_55'
          have hjb : joOK s l ps = false := by simpa using c_55
          have hE : er (joOK s l ps) = 2 := by rw [hjb]; rfl
          have hJ : (if joOK s l ps = true then joined s l ps s.high.toNat else []) = [] := by rw [hjb]; rfl
          have hJl : (if joOK s l ps = true then joined s l ps s.high.toNat else []).length = 0 := by rw [hJ]; rfl
          refine W 3 ?_
          refine sq_split 58 J (fun g5_2 => ?_) (fun g5_2 => ?_)
          · skip
            have g5_2' := g5_2
            try simp only [qq] at g5_2'
            first | exact absurd g5_2 (by decide) | (exfalso; simp at g5_2; done) | (exfalso; simp at g5_2; omega) | (exfalso; simp_all; done) | (exfalso; simp_all; omega)
          · skip
            have g5_2' := g5_2
            try simp only [qq] at g5_2'
            refine W 4 ?_
            refine aw_cond J (fun c_62 => ?_) (fun c_62 => ?_)
            · skip
              have c_62' := c_62
              try simp only [qq] at c_62'
              first | exact absurd c_62 (by decide) | (exfalso; simp at c_62; done) | (exfalso; simp at c_62; omega) | (exfalso; simp_all; done) | (exfalso; simp_all; omega)
            · skip
              have c_62' := c_62
              try simp only [qq] at c_62'
              refine W 0 ?_
              exact ⟨⟨J, J, J, J, J, trivial⟩, rfl, rfl⟩
        · skip
          have c_55' := c_55
          try simp only [qq] at c_55'
          have hjo : joOK s l ps = true := by simpa using c_55
          obtain ⟨hst, hl6, hps, hcs⟩ := jo_facts hjo
          have hE : er (joOK s l ps) = 0 := by rw [hjo]; rfl
          obtain ⟨s1, s2, s3⟩ := stOK_iff.1 hst
          have hjl := joined_len s l ps s.high.toNat
          have k77 := samec_pure (joined s l ps s.high.toNat) (joined s l ps s.high.toNat) (by omega) (by omega)
          rw [decide_eq_true rfl] at k77
          refine W 3 ?_
          refine sq_split 65 J (fun g7_2 => ?_) (fun g7_2 => ?_)
          · skip
            have g7_2' := g7_2
            try simp only [qq] at g7_2'
            first | exact absurd g7_2 (by decide) | (exfalso; simp at g7_2; done) | (exfalso; simp at g7_2; omega) | (exfalso; simp_all; done) | (exfalso; simp_all; omega)
          · skip
            have g7_2' := g7_2
            try simp only [qq] at g7_2'
            refine sq_yes rfl rfl (less_b g7_2) rfl (ev_less (ev_mv (v := .sl _ _) J) (Less.eq (b := strs (joined s l ps s.high.toNat)) (by rw [if_pos hjo]))) ?_
            refine W 3 ?_
            refine cy A (rjoined_pure hst hl6 hps fun i hi => caOK_B (hcs i hi)) ?_
            refine cy A (k77) ?_
            refine W 2 ?_
            refine aw_cond J (fun c_73 => ?_) (fun c_73 => ?_)
            · skip
              have c_73' := c_73
              try simp only [qq] at c_73'
              first | exact absurd c_73 (by decide) | (exfalso; simp at c_73; done) | (exfalso; simp at c_73; omega) | (exfalso; simp_all; done) | (exfalso; simp_all; omega)
            · skip
              have c_73' := c_73
              try simp only [qq] at c_73'
              refine W 0 ?_
              exact ⟨⟨J, J, J, J, J, trivial⟩, rfl, rfl⟩
      · skip
        dsimp only [keepS, St.put, sget, slotsOf, nn1, nn2, nn3, nn4, nn5, nn6, Nat.reduceBEq, Nat.reduceAdd, nn7, nn8]
        refine W 3 ?_
        refine sq_split 76 J (fun g9_2 => ?_) (fun g9_2 => ?_)
        · skip
          have g9_2' := g9_2
          try simp only [qq] at g9_2'
          refine W 28 ?_
          refine cl A (known_pure) ?_
          refine W 1 ?_
          exact retQ_pure (v := .raw _) rfl rfl J
        · skip
          have g9_2' := g9_2
          try simp only [qq] at g9_2'
          refine W 6 ?_
          refine sq_split 82 J (fun g9_8 => ?_) (fun g9_8 => ?_)
          · skip
            have g9_8' := g9_8
            try simp only [qq] at g9_8'
            refine W 22 ?_
            refine cl A (known_pure) ?_
            refine W 1 ?_
            exact retQ_pure (v := .raw _) rfl rfl J
          · skip
            have g9_8' := g9_8
            try simp only [qq] at g9_8'
            refine W 6 ?_
            refine sq_split 88 J (fun g9_14 => ?_) (fun g9_14 => ?_)
            · skip
              have g9_14' := g9_14
              try simp only [qq] at g9_14'
              refine W 16 ?_
              refine cl A (known_pure) ?_
              refine W 1 ?_
              exact retQ_pure (v := .raw _) rfl rfl J
            · skip
              have g9_14' := g9_14
              try simp only [qq] at g9_14'
              refine W 4 ?_
              refine sq_split 92 J (fun g9_18 => ?_) (fun g9_18 => ?_)
              · skip
                have g9_18' := g9_18
                try simp only [qq] at g9_18'
                refine W 12 ?_
                refine cl A (known_pure) ?_
                refine W 1 ?_
                exact retQ_pure (v := .raw _) rfl rfl J
              · skip
                have g9_18' := g9_18
                try simp only [qq] at g9_18'
                refine W 6 ?_
                refine sq_split 98 J (fun g9_24 => ?_) (fun g9_24 => ?_)
                · skip
                  have g9_24' := g9_24
                  try simp only [qq] at g9_24'
                  refine W 6 ?_
                  refine cl A (known_pure) ?_
                  refine W 1 ?_
                  exact retQ_pure (v := .raw _) rfl rfl J
                · skip
                  have g9_24' := g9_24
                  try simp only [qq] at g9_24'
                  refine W 5 ?_
                  refine aw_cond J (fun c_103 => ?_) (fun c_103 => ?_)
                  · skip
                    have c_103' := c_103
                    try simp only [qq] at c_103'
                    refine W 0 ?_
                    refine cl A (known_pure) ?_
                    refine W 1 ?_
                    exact retQ_pure (v := .raw _) rfl rfl J
                  · skip
                    have c_103' := c_103
                    try simp only [qq] at c_103'
                    exfalso; omega
theorem joins_bad {s : Sg} {l : List Fg} {ps : List Pc} (k34 : APure Tryz.prog 34 [figs l] (B true)) (hl : l.length ≤ 8) (hp : ps.length ≤ 8) {a b : Nat} (ha : a < l.length) (ha2 : a < ps.length) (hb : b < l.length) (hb2 : b < ps.length) (k73 : APure Tryz.prog 73 [stA s, fgA l[a], pcA ps[a], fgA l[b], pcA ps[b]] (.tup [I 0, I 2])) (hno : (stOK s && (fgOK l[a] && (pcOK s ps[a] && (fgOK l[b] && pcOK s ps[b])))) = false) : APure Tryz.prog 21 [stA s, figs l, .sl 3 (ps.map pcC), I (a : Int), I (b : Int)] (B true) := by
  refine apure_of (rs := [.tmp 10]) Tryz.func21 rfl rfl (Nat.le_of_ble_eq_true rfl) (by simp [AV.pureL, AV.pureB, AV.pureE, pureE_map]) (by first | rfl | (simp [AV.pureL, AV.pureB, AV.pureE, pureE_map])) fun e0 he0 => ?_
  refine W 3 ?_
  refine cl A (k34) ?_
  refine W 6 ?_
  refine aw_cond J (fun c_26 => ?_) (fun c_26 => ?_)
  · skip
    have c_26' := c_26
    try simp only [qq] at c_26'
    first | exact absurd c_26 (by decide) | (exfalso; simp at c_26; done) | (exfalso; simp at c_26; omega) | (exfalso; simp_all; done) | (exfalso; simp_all; omega)
  · skip
    have c_26' := c_26
    try simp only [qq] at c_26'
    refine W 3 ?_
    refine cl A (joined_pure s l ps (by omega) (by omega)) ?_
    refine V 5 ?_
    refine sq_nil (aw_seq (aw_seq ?_))
    refine aw_join [(55, B (!joOK s l ps))] [1, 2, 3, 4, 5, 11, 12] ?_ ?_
    · skip
      refine W 1 ?_
      refine cl A (rstage_pure s) ?_
      refine W 2 ?_
      refine sq_split 38 J (fun g4_3 => ?_) (fun g4_3 => ?_)
      · skip
        have g4_3' := g4_3
        try simp only [qq] at g4_3'
        have hjb : joOK s l ps = false := by cases h : joOK s l ps with | false => rfl | true => have q1 := jo_facts h; have q2 := jo_f h; have q3 := jo_p h; have q4 := q1.2.2.1; first | (exfalso; omega) | (rw [q1.1] at g4_3; exact absurd g4_3 (by decide)) | (rw [q2] at g4_8; exact absurd g4_8 (by decide)) | (simp_all; done) | (exfalso; simp_all; omega) | (exfalso; omega)
        refine W 17 ?_
        exact ⟨⟨(by first | exact less_bo (by rw [hjb]; rfl) | exact less_bo e55), J, J, J, J, J, J, J, trivial⟩, rfl, rfl⟩
      · skip
        have g4_3' := g4_3
        try simp only [qq] at g4_3'
        refine W 1 ?_
        refine cy A (rfigures_pure l) ?_
        refine W 3 ?_
        refine sq_split 43 J (fun g4_8 => ?_) (fun g4_8 => ?_)
        · skip
          have g4_8' := g4_8
          try simp only [qq] at g4_8'
          have hjb : joOK s l ps = false := by cases h : joOK s l ps with | false => rfl | true => have q1 := jo_facts h; have q2 := jo_f h; have q3 := jo_p h; have q4 := q1.2.2.1; first | (exfalso; omega) | (rw [q1.1] at g4_3; exact absurd g4_3 (by decide)) | (rw [q2] at g4_8; exact absurd g4_8 (by decide)) | (simp_all; done) | (exfalso; simp_all; omega) | (exfalso; omega)
          refine W 12 ?_
          exact ⟨⟨(by first | exact less_bo (by rw [hjb]; rfl) | exact less_bo e55), J, J, J, J, J, J, J, trivial⟩, rfl, rfl⟩
        · skip
          have g4_8' := g4_8
          try simp only [qq] at g4_8'
          refine W 7 ?_
          refine sq_split 50 J (fun g4_15 => ?_) (fun g4_15 => ?_)
          · skip
            have g4_15' := g4_15
            try simp only [qq] at g4_15'
            have hjb : joOK s l ps = false := by cases h : joOK s l ps with | false => rfl | true => have q1 := jo_facts h; have q2 := jo_f h; have q3 := jo_p h; have q4 := q1.2.2.1; first | (exfalso; omega) | (rw [q1.1] at g4_3; exact absurd g4_3 (by decide)) | (rw [q2] at g4_8; exact absurd g4_8 (by decide)) | (simp_all; done) | (exfalso; simp_all; omega) | (exfalso; omega)
            refine W 5 ?_
            exact ⟨⟨(by first | exact less_bo (by rw [hjb]; rfl) | exact less_bo e55), J, J, J, J, J, J, J, trivial⟩, rfl, rfl⟩
          · skip
            have g4_15' := g4_15
            try simp only [qq] at g4_15'
            have e55 : (!(ps.take 6).all (pcOK s)) = !joOK s l ps := by cases h : joOK s l ps with | true => rw [jo_p h] | false => cases h4 : (ps.take 6).all (pcOK s) with | false => rfl | true => rw [jo_valid (by simpa using g4_3) (by simpa using g4_8) (by omega) h4] at h; cases h
            refine W 2 ?_
            refine cy A (rplaces_pure s ps (far_of g4_3)) ?_
            refine W 2 ?_
            exact ⟨⟨(by first | exact less_bo (by rw [hjb]; rfl) | exact less_bo e55), J, J, J, J, J, J, J, trivial⟩, rfl, rfl⟩
    · skip
      dsimp only [keepS, St.put, sget, slotsOf, nn1, nn2, nn3, nn4, nn5, nn6, Nat.reduceBEq, Nat.reduceAdd, nn7, nn8]
      refine aw_join [] [1, 2, 3, 4, 5] ?_ ?_
      · skip
        refine aw_cond J (fun c_55 => ?_) (fun c_55 => ?_)
        · skip
          have c_55' := c_55
          try simp only [qq] at c_55'
          have hjb : joOK s l ps = false := by simpa using c_55
          have hE : er (joOK s l ps) = 2 := by rw [hjb]; rfl
          have hJ : (if joOK s l ps = true then joined s l ps s.high.toNat else []) = [] := by rw [hjb]; rfl
          have hJl : (if joOK s l ps = true then joined s l ps s.high.toNat else []).length = 0 := by rw [hJ]; rfl
          refine W 3 ?_
          refine sq_split 58 J (fun g5_2 => ?_) (fun g5_2 => ?_)
          · skip
            have g5_2' := g5_2
            try simp only [qq] at g5_2'
            first | exact absurd g5_2 (by decide) | (exfalso; simp at g5_2; done) | (exfalso; simp at g5_2; omega) | (exfalso; simp_all; done) | (exfalso; simp_all; omega)
          · skip
            have g5_2' := g5_2
            try simp only [qq] at g5_2'
            refine W 4 ?_
            refine aw_cond J (fun c_62 => ?_) (fun c_62 => ?_)
            · skip
              have c_62' := c_62
              try simp only [qq] at c_62'
              first | exact absurd c_62 (by decide) | (exfalso; simp at c_62; done) | (exfalso; simp at c_62; omega) | (exfalso; simp_all; done) | (exfalso; simp_all; omega)
            · skip
              have c_62' := c_62
              try simp only [qq] at c_62'
              refine W 0 ?_
              exact ⟨⟨J, J, J, J, J, trivial⟩, rfl, rfl⟩
        · skip
          have c_55' := c_55
          try simp only [qq] at c_55'
          have hjo : joOK s l ps = true := by simpa using c_55
          obtain ⟨hst, hl6, hps, hcs⟩ := jo_facts hjo
          have hE : er (joOK s l ps) = 0 := by rw [hjo]; rfl
          obtain ⟨s1, s2, s3⟩ := stOK_iff.1 hst
          have hjl := joined_len s l ps s.high.toNat
          have k77 := samec_pure (joined s l ps s.high.toNat) (joined s l ps s.high.toNat) (by omega) (by omega)
          rw [decide_eq_true rfl] at k77
          refine W 3 ?_
          refine sq_split 65 J (fun g7_2 => ?_) (fun g7_2 => ?_)
          · skip
            have g7_2' := g7_2
            try simp only [qq] at g7_2'
            first | exact absurd g7_2 (by decide) | (exfalso; simp at g7_2; done) | (exfalso; simp at g7_2; omega) | (exfalso; simp_all; done) | (exfalso; simp_all; omega)
          · skip
            have g7_2' := g7_2
            try simp only [qq] at g7_2'
            refine sq_yes rfl rfl (less_b g7_2) rfl (ev_less (ev_mv (v := .sl _ _) J) (Less.eq (b := strs (joined s l ps s.high.toNat)) (by rw [if_pos hjo]))) ?_
            refine W 3 ?_
            refine cy A (rjoined_pure hst hl6 hps fun i hi => caOK_B (hcs i hi)) ?_
            refine cy A (k77) ?_
            refine W 2 ?_
            refine aw_cond J (fun c_73 => ?_) (fun c_73 => ?_)
            · skip
              have c_73' := c_73
              try simp only [qq] at c_73'
              first | exact absurd c_73 (by decide) | (exfalso; simp at c_73; done) | (exfalso; simp at c_73; omega) | (exfalso; simp_all; done) | (exfalso; simp_all; omega)
            · skip
              have c_73' := c_73
              try simp only [qq] at c_73'
              refine W 0 ?_
              exact ⟨⟨J, J, J, J, J, trivial⟩, rfl, rfl⟩
      · skip
        dsimp only [keepS, St.put, sget, slotsOf, nn1, nn2, nn3, nn4, nn5, nn6, Nat.reduceBEq, Nat.reduceAdd, nn7, nn8]
        refine W 3 ?_
        refine sq_split 76 J (fun g9_2 => ?_) (fun g9_2 => ?_)
        · skip
          have g9_2' := g9_2
          try simp only [qq] at g9_2'
          first | exact absurd g9_2 (by decide) | (exfalso; simp at g9_2; done) | (exfalso; simp at g9_2; omega) | (exfalso; simp_all; done) | (exfalso; simp_all; omega)
        · skip
          have g9_2' := g9_2
          try simp only [qq] at g9_2'
          refine W 6 ?_
          refine sq_split 82 J (fun g9_8 => ?_) (fun g9_8 => ?_)
          · skip
            have g9_8' := g9_8
            try simp only [qq] at g9_8'
            first | exact absurd g9_8 (by decide) | (exfalso; simp at g9_8; done) | (exfalso; simp at g9_8; omega) | (exfalso; simp_all; done) | (exfalso; simp_all; omega)
          · skip
            have g9_8' := g9_8
            try simp only [qq] at g9_8'
            refine W 6 ?_
            refine sq_split 88 J (fun g9_14 => ?_) (fun g9_14 => ?_)
            · skip
              have g9_14' := g9_14
              try simp only [qq] at g9_14'
              first | exact absurd g9_14 (by decide) | (exfalso; simp at g9_14; done) | (exfalso; simp at g9_14; omega) | (exfalso; simp_all; done) | (exfalso; simp_all; omega)
            · skip
              have g9_14' := g9_14
              try simp only [qq] at g9_14'
              refine W 4 ?_
              refine sq_split 92 J (fun g9_18 => ?_) (fun g9_18 => ?_)
              · skip
                have g9_18' := g9_18
                try simp only [qq] at g9_18'
                first | exact absurd g9_18 (by decide) | (exfalso; simp at g9_18; done) | (exfalso; simp at g9_18; omega) | (exfalso; simp_all; done) | (exfalso; simp_all; omega)
              · skip
                have g9_18' := g9_18
                try simp only [qq] at g9_18'
                refine W 6 ?_
                refine sq_split 98 J (fun g9_24 => ?_) (fun g9_24 => ?_)
                · skip
                  have g9_24' := g9_24
                  try simp only [qq] at g9_24'
                  first | exact absurd g9_24 (by decide) | (exfalso; simp at g9_24; done) | (exfalso; simp at g9_24; omega) | (exfalso; simp_all; done) | (exfalso; simp_all; omega)
                · skip
                  have g9_24' := g9_24
                  try simp only [qq] at g9_24'
                  refine W 5 ?_
                  refine aw_cond J (fun c_103 => ?_) (fun c_103 => ?_)
                  · skip
                    have c_103' := c_103
                    try simp only [qq] at c_103'
                    first | exact absurd c_103 (by decide) | (exfalso; simp at c_103; done) | (exfalso; simp at c_103; omega) | (exfalso; simp_all; done) | (exfalso; simp_all; omega)
                  · skip
                    have c_103' := c_103
                    try simp only [qq] at c_103'
                    refine W 0 ?_
                    refine aw_drawc [16, 17, 18, 19] [20, 21, 22, 23] _ mo (by kernel_rfl) (HSub.refl _) ?_
                    first | refine dc_ev rfl (ev_mv (v := .sl _ _) J) ?_ | refine dc_ev rfl (ev_mv (v := .own _ _ _) J) ?_ | refine dc_ev rfl (ev_mv (v := .raw _) J) ?_ | refine dc_ev rfl (ev_mv (v := .slx _ _) J) ?_ | refine dc_ev rfl (ev_mv (v := .msl _ _ _ _) J) ?_
                    refine dc_ev rfl (ev_mv (v := .raw _) J) ?_
                    first | refine dc_ev rfl (ev_index_map sl45.h J J rfl (by omega)) ?_ | refine dc_ev rfl (ev_index sl45.h J J rfl rfl) ?_
                    first | refine dc_ev rfl (ev_load_agg J rfl ty26.h rfl) ?_ | refine dc_ev rfl (ev_load_agg_i J ty26.h (by exact Nat.le_of_ble_eq_true rfl)) ?_
                    first | refine dc_ev rfl (ev_mv (v := .sl _ _) J) ?_ | refine dc_ev rfl (ev_mv (v := .own _ _ _) J) ?_ | refine dc_ev rfl (ev_mv (v := .raw _) J) ?_ | refine dc_ev rfl (ev_mv (v := .slx _ _) J) ?_ | refine dc_ev rfl (ev_mv (v := .msl _ _ _ _) J) ?_
                    refine dc_ev rfl (ev_mv (v := .raw _) J) ?_
                    first | refine dc_ev rfl (ev_index_map sl126.h J J rfl (by omega)) ?_ | refine dc_ev rfl (ev_index sl126.h J J rfl rfl) ?_
                    first | refine dc_ev rfl (ev_load_agg J rfl ty28.h rfl) ?_ | refine dc_ev rfl (ev_load_agg_i J ty28.h (by exact Nat.le_of_ble_eq_true rfl)) ?_
                    first | refine dc_ev rfl (ev_mv (v := .sl _ _) J) ?_ | refine dc_ev rfl (ev_mv (v := .own _ _ _) J) ?_ | refine dc_ev rfl (ev_mv (v := .raw _) J) ?_ | refine dc_ev rfl (ev_mv (v := .slx _ _) J) ?_ | refine dc_ev rfl (ev_mv (v := .msl _ _ _ _) J) ?_
                    refine dc_ev rfl (ev_mv (v := .raw _) J) ?_
                    first | refine dc_ev rfl (ev_index_map sl45.h J J rfl (by omega)) ?_ | refine dc_ev rfl (ev_index sl45.h J J rfl rfl) ?_
                    first | refine dc_ev rfl (ev_load_agg J rfl ty26.h rfl) ?_ | refine dc_ev rfl (ev_load_agg_i J ty26.h (by exact Nat.le_of_ble_eq_true rfl)) ?_
                    first | refine dc_ev rfl (ev_mv (v := .sl _ _) J) ?_ | refine dc_ev rfl (ev_mv (v := .own _ _ _) J) ?_ | refine dc_ev rfl (ev_mv (v := .raw _) J) ?_ | refine dc_ev rfl (ev_mv (v := .slx _ _) J) ?_ | refine dc_ev rfl (ev_mv (v := .msl _ _ _ _) J) ?_
                    refine dc_ev rfl (ev_mv (v := .raw _) J) ?_
                    first | refine dc_ev rfl (ev_index_map sl126.h J J rfl (by omega)) ?_ | refine dc_ev rfl (ev_index sl126.h J J rfl rfl) ?_
                    first | refine dc_ev rfl (ev_load_agg J rfl ty28.h rfl) ?_ | refine dc_ev rfl (ev_load_agg_i J ty28.h (by exact Nat.le_of_ble_eq_true rfl)) ?_
                    refine dc_alloc rfl rfl z26.h ?_
                    refine dc_alloc rfl rfl z28.h ?_
                    refine dc_alloc rfl rfl z26.h ?_
                    refine dc_alloc rfl rfl z28.h ?_
                    refine dc_eff rfl rfl (eff_store rfl J J rfl rfl ty26.h rfl rfl) (by apply HL.sub; repeat' (first | exact HL.nil _ | apply HL.same | apply HL.tok)) ?_
                    refine dc_eff rfl rfl (eff_store rfl J J rfl rfl ty28.h rfl rfl) (by apply HL.sub; repeat' (first | exact HL.nil _ | apply HL.same | apply HL.tok)) ?_
                    refine dc_eff rfl rfl (eff_store rfl J J rfl rfl ty26.h rfl rfl) (by apply HL.sub; repeat' (first | exact HL.nil _ | apply HL.same | apply HL.tok)) ?_
                    refine dc_eff rfl rfl (eff_store rfl J J rfl rfl ty28.h rfl rfl) (by apply HL.sub; repeat' (first | exact HL.nil _ | apply HL.same | apply HL.tok)) ?_
                    refine dc_nil ?_
                    refine W 5 ?_
                    refine cl A (k73) ?_
                    refine W 6 ?_
                    refine cl A (rstage_pure s) ?_
                    refine W 2 ?_
                    refine sq_split 133 J (fun g13_3 => ?_) (fun g13_3 => ?_)
                    · skip
                      have g13_3' := g13_3
                      try simp only [qq] at g13_3'
                      refine W 29 ?_
                      refine cy A (known_pure) ?_
                      refine W 2 ?_
                      exact retQ_pure (v := .raw _) rfl rfl J
                    · skip
                      have g13_3' := g13_3
                      try simp only [qq] at g13_3'
                      refine W 1 ?_
                      refine cy A (rfigure_pure _) ?_
                      refine W 3 ?_
                      refine sq_split 138 J (fun g13_8 => ?_) (fun g13_8 => ?_)
                      · skip
                        have g13_8' := g13_8
                        try simp only [qq] at g13_8'
                        refine W 24 ?_
                        refine cy A (known_pure) ?_
                        refine W 2 ?_
                        exact retQ_pure (v := .raw _) rfl rfl J
                      · skip
                        have g13_8' := g13_8
                        try simp only [qq] at g13_8'
                        refine W 2 ?_
                        refine cy A (rplace_pure s _ (far_of g13_3)) ?_
                        refine W 3 ?_
                        refine sq_split 144 J (fun g13_14 => ?_) (fun g13_14 => ?_)
                        · skip
                          have g13_14' := g13_14
                          try simp only [qq] at g13_14'
                          refine W 18 ?_
                          refine cy A (known_pure) ?_
                          refine W 2 ?_
                          exact retQ_pure (v := .raw _) rfl rfl J
                        · skip
                          have g13_14' := g13_14
                          try simp only [qq] at g13_14'
                          refine W 1 ?_
                          refine cy A (rfigure_pure _) ?_
                          refine W 3 ?_
                          refine sq_split 149 J (fun g13_19 => ?_) (fun g13_19 => ?_)
                          · skip
                            have g13_19' := g13_19
                            try simp only [qq] at g13_19'
                            refine W 13 ?_
                            refine cy A (known_pure) ?_
                            refine W 2 ?_
                            exact retQ_pure (v := .raw _) rfl rfl J
                          · skip
                            have g13_19' := g13_19
                            try simp only [qq] at g13_19'
                            refine W 2 ?_
                            refine cy A (rplace_pure s _ (far_of g13_3)) ?_
                            refine W 2 ?_
                            refine aw_cond J (fun c_154 => ?_) (fun c_154 => ?_)
                            · skip
                              have c_154' := c_154
                              try simp only [qq] at c_154'
                              refine W 7 ?_
                              refine cy A (known_pure) ?_
                              refine W 2 ?_
                              exact retQ_pure (v := .raw _) rfl rfl J
                            · skip
                              have c_154' := c_154
                              try simp only [qq] at c_154'
                              exfalso; simp_all
theorem joins_good {s : Sg} {l : List Fg} {ps : List Pc} (k34 : APure Tryz.prog 34 [figs l] (B true)) (hl : l.length ≤ 8) (hp : ps.length ≤ 8) {a b : Nat} (ha : a < l.length) (ha2 : a < ps.length) (hb : b < l.length) (hb2 : b < ps.length) {w : Int} (k73 : APure Tryz.prog 73 [stA s, fgA l[a], pcA ps[a], fgA l[b], pcA ps[b]] (.tup [I w, I 0])) (hst0 : stOK s = true) (k24 : APure Tryz.prog 24 [stA s] (B true)) (k25 : APure Tryz.prog 25 [fgA l[a]] (B true)) (k26 : APure Tryz.prog 26 [stA s, pcA ps[a]] (B true)) (k25b : APure Tryz.prog 25 [fgA l[b]] (B true)) (k26b : APure Tryz.prog 26 [stA s, pcA ps[b]] (B true)) (k88 : APure Tryz.prog 88 [stA s, fgA l[a], pcA ps[a], fgA l[b], pcA ps[b]] (I w)) : APure Tryz.prog 21 [stA s, figs l, .sl 3 (ps.map pcC), I (a : Int), I (b : Int)] (B true) := by
  refine apure_of (rs := [.tmp 10]) Tryz.func21 rfl rfl (Nat.le_of_ble_eq_true rfl) (by simp [AV.pureL, AV.pureB, AV.pureE, pureE_map]) (by first | rfl | (simp [AV.pureL, AV.pureB, AV.pureE, pureE_map])) fun e0 he0 => ?_
  refine W 3 ?_
  refine cl A (k34) ?_
  refine W 6 ?_
  refine aw_cond J (fun c_26 => ?_) (fun c_26 => ?_)
  · skip
    have c_26' := c_26
    try simp only [qq] at c_26'
    first | exact absurd c_26 (by decide) | (exfalso; simp at c_26; done) | (exfalso; simp at c_26; omega) | (exfalso; simp_all; done) | (exfalso; simp_all; omega)
  · skip
    have c_26' := c_26
    try simp only [qq] at c_26'
    refine W 3 ?_
    refine cl A (joined_pure s l ps (by omega) (by omega)) ?_
    refine V 5 ?_
    refine sq_nil (aw_seq (aw_seq ?_))
    refine aw_join [(55, B (!joOK s l ps))] [1, 2, 3, 4, 5, 11, 12] ?_ ?_
    · skip
      refine W 1 ?_
      refine cl A (rstage_pure s) ?_
      refine W 2 ?_
      refine sq_split 38 J (fun g4_3 => ?_) (fun g4_3 => ?_)
      · skip
        have g4_3' := g4_3
        try simp only [qq] at g4_3'
        have hjb : joOK s l ps = false := by cases h : joOK s l ps with | false => rfl | true => have q1 := jo_facts h; have q2 := jo_f h; have q3 := jo_p h; have q4 := q1.2.2.1; first | (exfalso; omega) | (rw [q1.1] at g4_3; exact absurd g4_3 (by decide)) | (rw [q2] at g4_8; exact absurd g4_8 (by decide)) | (simp_all; done) | (exfalso; simp_all; omega) | (exfalso; omega)
        refine W 17 ?_
        exact ⟨⟨(by first | exact less_bo (by rw [hjb]; rfl) | exact less_bo e55), J, J, J, J, J, J, J, trivial⟩, rfl, rfl⟩
      · skip
        have g4_3' := g4_3
        try simp only [qq] at g4_3'
        refine W 1 ?_
        refine cy A (rfigures_pure l) ?_
        refine W 3 ?_
        refine sq_split 43 J (fun g4_8 => ?_) (fun g4_8 => ?_)
        · skip
          have g4_8' := g4_8
          try simp only [qq] at g4_8'
          have hjb : joOK s l ps = false := by cases h : joOK s l ps with | false => rfl | true => have q1 := jo_facts h; have q2 := jo_f h; have q3 := jo_p h; have q4 := q1.2.2.1; first | (exfalso; omega) | (rw [q1.1] at g4_3; exact absurd g4_3 (by decide)) | (rw [q2] at g4_8; exact absurd g4_8 (by decide)) | (simp_all; done) | (exfalso; simp_all; omega) | (exfalso; omega)
          refine W 12 ?_
          exact ⟨⟨(by first | exact less_bo (by rw [hjb]; rfl) | exact less_bo e55), J, J, J, J, J, J, J, trivial⟩, rfl, rfl⟩
        · skip
          have g4_8' := g4_8
          try simp only [qq] at g4_8'
          refine W 7 ?_
          refine sq_split 50 J (fun g4_15 => ?_) (fun g4_15 => ?_)
          · skip
            have g4_15' := g4_15
            try simp only [qq] at g4_15'
            have hjb : joOK s l ps = false := by cases h : joOK s l ps with | false => rfl | true => have q1 := jo_facts h; have q2 := jo_f h; have q3 := jo_p h; have q4 := q1.2.2.1; first | (exfalso; omega) | (rw [q1.1] at g4_3; exact absurd g4_3 (by decide)) | (rw [q2] at g4_8; exact absurd g4_8 (by decide)) | (simp_all; done) | (exfalso; simp_all; omega) | (exfalso; omega)
            refine W 5 ?_
            exact ⟨⟨(by first | exact less_bo (by rw [hjb]; rfl) | exact less_bo e55), J, J, J, J, J, J, J, trivial⟩, rfl, rfl⟩
          · skip
            have g4_15' := g4_15
            try simp only [qq] at g4_15'
            have e55 : (!(ps.take 6).all (pcOK s)) = !joOK s l ps := by cases h : joOK s l ps with | true => rw [jo_p h] | false => cases h4 : (ps.take 6).all (pcOK s) with | false => rfl | true => rw [jo_valid (by simpa using g4_3) (by simpa using g4_8) (by omega) h4] at h; cases h
            refine W 2 ?_
            refine cy A (rplaces_pure s ps (far_of g4_3)) ?_
            refine W 2 ?_
            exact ⟨⟨(by first | exact less_bo (by rw [hjb]; rfl) | exact less_bo e55), J, J, J, J, J, J, J, trivial⟩, rfl, rfl⟩
    · skip
      dsimp only [keepS, St.put, sget, slotsOf, nn1, nn2, nn3, nn4, nn5, nn6, Nat.reduceBEq, Nat.reduceAdd, nn7, nn8]
      refine aw_join [] [1, 2, 3, 4, 5] ?_ ?_
      · skip
        refine aw_cond J (fun c_55 => ?_) (fun c_55 => ?_)
        · skip
          have c_55' := c_55
          try simp only [qq] at c_55'
          have hjb : joOK s l ps = false := by simpa using c_55
          have hE : er (joOK s l ps) = 2 := by rw [hjb]; rfl
          have hJ : (if joOK s l ps = true then joined s l ps s.high.toNat else []) = [] := by rw [hjb]; rfl
          have hJl : (if joOK s l ps = true then joined s l ps s.high.toNat else []).length = 0 := by rw [hJ]; rfl
          refine W 3 ?_
          refine sq_split 58 J (fun g5_2 => ?_) (fun g5_2 => ?_)
          · skip
            have g5_2' := g5_2
            try simp only [qq] at g5_2'
            first | exact absurd g5_2 (by decide) | (exfalso; simp at g5_2; done) | (exfalso; simp at g5_2; omega) | (exfalso; simp_all; done) | (exfalso; simp_all; omega)
          · skip
            have g5_2' := g5_2
            try simp only [qq] at g5_2'
            refine W 4 ?_
            refine aw_cond J (fun c_62 => ?_) (fun c_62 => ?_)
            · skip
              have c_62' := c_62
              try simp only [qq] at c_62'
              first | exact absurd c_62 (by decide) | (exfalso; simp at c_62; done) | (exfalso; simp at c_62; omega) | (exfalso; simp_all; done) | (exfalso; simp_all; omega)
            · skip
              have c_62' := c_62
              try simp only [qq] at c_62'
              refine W 0 ?_
              exact ⟨⟨J, J, J, J, J, trivial⟩, rfl, rfl⟩
        · skip
          have c_55' := c_55
          try simp only [qq] at c_55'
          have hjo : joOK s l ps = true := by simpa using c_55
          obtain ⟨hst, hl6, hps, hcs⟩ := jo_facts hjo
          have hE : er (joOK s l ps) = 0 := by rw [hjo]; rfl
          obtain ⟨s1, s2, s3⟩ := stOK_iff.1 hst
          have hjl := joined_len s l ps s.high.toNat
          have k77 := samec_pure (joined s l ps s.high.toNat) (joined s l ps s.high.toNat) (by omega) (by omega)
          rw [decide_eq_true rfl] at k77
          refine W 3 ?_
          refine sq_split 65 J (fun g7_2 => ?_) (fun g7_2 => ?_)
          · skip
            have g7_2' := g7_2
            try simp only [qq] at g7_2'
            first | exact absurd g7_2 (by decide) | (exfalso; simp at g7_2; done) | (exfalso; simp at g7_2; omega) | (exfalso; simp_all; done) | (exfalso; simp_all; omega)
          · skip
            have g7_2' := g7_2
            try simp only [qq] at g7_2'
            refine sq_yes rfl rfl (less_b g7_2) rfl (ev_less (ev_mv (v := .sl _ _) J) (Less.eq (b := strs (joined s l ps s.high.toNat)) (by rw [if_pos hjo]))) ?_
            refine W 3 ?_
            refine cy A (rjoined_pure hst hl6 hps fun i hi => caOK_B (hcs i hi)) ?_
            refine cy A (k77) ?_
            refine W 2 ?_
            refine aw_cond J (fun c_73 => ?_) (fun c_73 => ?_)
            · skip
              have c_73' := c_73
              try simp only [qq] at c_73'
              first | exact absurd c_73 (by decide) | (exfalso; simp at c_73; done) | (exfalso; simp at c_73; omega) | (exfalso; simp_all; done) | (exfalso; simp_all; omega)
            · skip
              have c_73' := c_73
              try simp only [qq] at c_73'
              refine W 0 ?_
              exact ⟨⟨J, J, J, J, J, trivial⟩, rfl, rfl⟩
      · skip
        dsimp only [keepS, St.put, sget, slotsOf, nn1, nn2, nn3, nn4, nn5, nn6, Nat.reduceBEq, Nat.reduceAdd, nn7, nn8]
        refine W 3 ?_
        refine sq_split 76 J (fun g9_2 => ?_) (fun g9_2 => ?_)
        · skip
          have g9_2' := g9_2
          try simp only [qq] at g9_2'
          first | exact absurd g9_2 (by decide) | (exfalso; simp at g9_2; done) | (exfalso; simp at g9_2; omega) | (exfalso; simp_all; done) | (exfalso; simp_all; omega)
        · skip
          have g9_2' := g9_2
          try simp only [qq] at g9_2'
          refine W 6 ?_
          refine sq_split 82 J (fun g9_8 => ?_) (fun g9_8 => ?_)
          · skip
            have g9_8' := g9_8
            try simp only [qq] at g9_8'
            first | exact absurd g9_8 (by decide) | (exfalso; simp at g9_8; done) | (exfalso; simp at g9_8; omega) | (exfalso; simp_all; done) | (exfalso; simp_all; omega)
          · skip
            have g9_8' := g9_8
            try simp only [qq] at g9_8'
            refine W 6 ?_
            refine sq_split 88 J (fun g9_14 => ?_) (fun g9_14 => ?_)
            · skip
              have g9_14' := g9_14
              try simp only [qq] at g9_14'
              first | exact absurd g9_14 (by decide) | (exfalso; simp at g9_14; done) | (exfalso; simp at g9_14; omega) | (exfalso; simp_all; done) | (exfalso; simp_all; omega)
            · skip
              have g9_14' := g9_14
              try simp only [qq] at g9_14'
              refine W 4 ?_
              refine sq_split 92 J (fun g9_18 => ?_) (fun g9_18 => ?_)
              · skip
                have g9_18' := g9_18
                try simp only [qq] at g9_18'
                first | exact absurd g9_18 (by decide) | (exfalso; simp at g9_18; done) | (exfalso; simp at g9_18; omega) | (exfalso; simp_all; done) | (exfalso; simp_all; omega)
              · skip
                have g9_18' := g9_18
                try simp only [qq] at g9_18'
                refine W 6 ?_
                refine sq_split 98 J (fun g9_24 => ?_) (fun g9_24 => ?_)
                · skip
                  have g9_24' := g9_24
                  try simp only [qq] at g9_24'
                  first | exact absurd g9_24 (by decide) | (exfalso; simp at g9_24; done) | (exfalso; simp at g9_24; omega) | (exfalso; simp_all; done) | (exfalso; simp_all; omega)
                · skip
                  have g9_24' := g9_24
                  try simp only [qq] at g9_24'
                  refine W 5 ?_
                  refine aw_cond J (fun c_103 => ?_) (fun c_103 => ?_)
                  · skip
                    have c_103' := c_103
                    try simp only [qq] at c_103'
                    first | exact absurd c_103 (by decide) | (exfalso; simp at c_103; done) | (exfalso; simp at c_103; omega) | (exfalso; simp_all; done) | (exfalso; simp_all; omega)
                  · skip
                    have c_103' := c_103
                    try simp only [qq] at c_103'
                    refine W 0 ?_
                    refine aw_drawc [16, 17, 18, 19] [20, 21, 22, 23] _ mo (by kernel_rfl) (HSub.refl _) ?_
                    first | refine dc_ev rfl (ev_mv (v := .sl _ _) J) ?_ | refine dc_ev rfl (ev_mv (v := .own _ _ _) J) ?_ | refine dc_ev rfl (ev_mv (v := .raw _) J) ?_ | refine dc_ev rfl (ev_mv (v := .slx _ _) J) ?_ | refine dc_ev rfl (ev_mv (v := .msl _ _ _ _) J) ?_
                    refine dc_ev rfl (ev_mv (v := .raw _) J) ?_
                    first | refine dc_ev rfl (ev_index_map sl45.h J J rfl (by omega)) ?_ | refine dc_ev rfl (ev_index sl45.h J J rfl rfl) ?_
                    first | refine dc_ev rfl (ev_load_agg J rfl ty26.h rfl) ?_ | refine dc_ev rfl (ev_load_agg_i J ty26.h (by exact Nat.le_of_ble_eq_true rfl)) ?_
                    first | refine dc_ev rfl (ev_mv (v := .sl _ _) J) ?_ | refine dc_ev rfl (ev_mv (v := .own _ _ _) J) ?_ | refine dc_ev rfl (ev_mv (v := .raw _) J) ?_ | refine dc_ev rfl (ev_mv (v := .slx _ _) J) ?_ | refine dc_ev rfl (ev_mv (v := .msl _ _ _ _) J) ?_
                    refine dc_ev rfl (ev_mv (v := .raw _) J) ?_
                    first | refine dc_ev rfl (ev_index_map sl126.h J J rfl (by omega)) ?_ | refine dc_ev rfl (ev_index sl126.h J J rfl rfl) ?_
                    first | refine dc_ev rfl (ev_load_agg J rfl ty28.h rfl) ?_ | refine dc_ev rfl (ev_load_agg_i J ty28.h (by exact Nat.le_of_ble_eq_true rfl)) ?_
                    first | refine dc_ev rfl (ev_mv (v := .sl _ _) J) ?_ | refine dc_ev rfl (ev_mv (v := .own _ _ _) J) ?_ | refine dc_ev rfl (ev_mv (v := .raw _) J) ?_ | refine dc_ev rfl (ev_mv (v := .slx _ _) J) ?_ | refine dc_ev rfl (ev_mv (v := .msl _ _ _ _) J) ?_
                    refine dc_ev rfl (ev_mv (v := .raw _) J) ?_
                    first | refine dc_ev rfl (ev_index_map sl45.h J J rfl (by omega)) ?_ | refine dc_ev rfl (ev_index sl45.h J J rfl rfl) ?_
                    first | refine dc_ev rfl (ev_load_agg J rfl ty26.h rfl) ?_ | refine dc_ev rfl (ev_load_agg_i J ty26.h (by exact Nat.le_of_ble_eq_true rfl)) ?_
                    first | refine dc_ev rfl (ev_mv (v := .sl _ _) J) ?_ | refine dc_ev rfl (ev_mv (v := .own _ _ _) J) ?_ | refine dc_ev rfl (ev_mv (v := .raw _) J) ?_ | refine dc_ev rfl (ev_mv (v := .slx _ _) J) ?_ | refine dc_ev rfl (ev_mv (v := .msl _ _ _ _) J) ?_
                    refine dc_ev rfl (ev_mv (v := .raw _) J) ?_
                    first | refine dc_ev rfl (ev_index_map sl126.h J J rfl (by omega)) ?_ | refine dc_ev rfl (ev_index sl126.h J J rfl rfl) ?_
                    first | refine dc_ev rfl (ev_load_agg J rfl ty28.h rfl) ?_ | refine dc_ev rfl (ev_load_agg_i J ty28.h (by exact Nat.le_of_ble_eq_true rfl)) ?_
                    refine dc_alloc rfl rfl z26.h ?_
                    refine dc_alloc rfl rfl z28.h ?_
                    refine dc_alloc rfl rfl z26.h ?_
                    refine dc_alloc rfl rfl z28.h ?_
                    refine dc_eff rfl rfl (eff_store rfl J J rfl rfl ty26.h rfl rfl) (by apply HL.sub; repeat' (first | exact HL.nil _ | apply HL.same | apply HL.tok)) ?_
                    refine dc_eff rfl rfl (eff_store rfl J J rfl rfl ty28.h rfl rfl) (by apply HL.sub; repeat' (first | exact HL.nil _ | apply HL.same | apply HL.tok)) ?_
                    refine dc_eff rfl rfl (eff_store rfl J J rfl rfl ty26.h rfl rfl) (by apply HL.sub; repeat' (first | exact HL.nil _ | apply HL.same | apply HL.tok)) ?_
                    refine dc_eff rfl rfl (eff_store rfl J J rfl rfl ty28.h rfl rfl) (by apply HL.sub; repeat' (first | exact HL.nil _ | apply HL.same | apply HL.tok)) ?_
                    refine dc_nil ?_
                    refine W 5 ?_
                    refine cl A (k73) ?_
                    refine W 6 ?_
                    refine cl A (k24) ?_
                    refine W 3 ?_
                    refine cy A (k25) ?_
                    refine W 5 ?_
                    refine cy A (k26) ?_
                    refine W 4 ?_
                    refine cy A (k25b) ?_
                    refine W 5 ?_
                    refine cy A (k26b) ?_
                    refine W 2 ?_
                    refine aw_cond J (fun c_154 => ?_) (fun c_154 => ?_)
                    · skip
                      have c_154' := c_154
                      try simp only [qq] at c_154'
                      first | exact absurd c_154 (by decide) | (exfalso; simp at c_154; done) | (exfalso; simp at c_154; omega) | (exfalso; simp_all; done) | (exfalso; simp_all; omega)
                    · skip
                      have c_154' := c_154
                      try simp only [qq] at c_154'
                      refine W 9 ?_
                      refine cy A (k88) ?_
                      refine W 3 ?_
                      refine sq_split 176 J (fun g15_12 => ?_) (fun g15_12 => ?_)
                      · skip
                        have g15_12' := g15_12
                        try simp only [qq] at g15_12'
                        refine cy A (known_pure) ?_
                        refine W 2 ?_
                        exact retQ_pure (v := .raw _) rfl rfl J
                      · skip
                        have g15_12' := g15_12
                        try simp only [qq] at g15_12'
                        first | exact absurd g15_12 (by decide) | (exfalso; simp at g15_12; done) | (exfalso; simp at g15_12; omega) | (exfalso; simp_all; done) | (exfalso; simp_all; omega)
end Go.Proofs.YtmbknoaneglilaaGreatDoor
namespace Go.Proofs.YtmbknoaneglilaaGreatDoor
open Go Go.Ab Ni Ol
theorem law21 (s : Sg) (l : List Fg) (ps : List Pc) (one two : Int) : APure Tryz.prog 21 [stA s, figs l, .sl 3 (ps.map pcC), I one, I two] (B true) := by
  cases hg : (fewB l && decide (ps.length ≤ 8)) with
  | false => exact joins_gate s l ps one two hg
  | true =>
    obtain ⟨hfew, hp⟩ := gate_bool hg
    have hp := of_decide_eq_true hp
    have hsz := fewB_sz hfew
    have k34 : APure Tryz.prog 34 [figs l] (B true) := by have := few_pure l; rwa [hfew] at this
    by_cases ho : 0 ≤ one ∧ one < l.length ∧ one < ps.length ∧ 0 ≤ two ∧ two < l.length ∧ two < ps.length
    · obtain ⟨a, rfl⟩ : ∃ n : Nat, one = n := ⟨one.toNat, by omega⟩
      obtain ⟨b, rfl⟩ : ∃ n : Nat, two = n := ⟨two.toNat, by omega⟩
      have ha : a < l.length := by omega
      have ha2 : a < ps.length := by omega
      have hb : b < l.length := by omega
      have hb2 : b < ps.length := by omega
      have k73 := meets_pure ⟨s, l[a], ps[a]⟩ l[b] ps[b]
      cases hok : (stOK s && (fgOK l[a] && (pcOK s ps[a] && (fgOK l[b] && pcOK s ps[b])))) with
      | false =>
        have hno : (caOK ⟨s, l[a], ps[a]⟩ && caOK ⟨s, l[b], ps[b]⟩) = false := by
          cases h : (caOK ⟨s, l[a], ps[a]⟩ && caOK ⟨s, l[b], ps[b]⟩) with
          | false => rfl
          | true =>
            obtain ⟨h1, h2⟩ := gate_bool h
            obtain ⟨a1, a2, a3⟩ := caOK_f h1
            obtain ⟨b1, b2, b3⟩ := caOK_f h2
            simp only at a1 a2 a3 b1 b2 b3
            rw [a1, a2, a3, b2, b3] at hok; cases hok
        rw [hno] at k73
        exact joins_bad k34 hsz.1 hp ha ha2 hb hb2 k73 hok
      | true =>
        simp only [Bool.and_eq_true] at hok
        obtain ⟨h1, h2, h3, h4, h5⟩ := hok
        have o1 : caOK ⟨s, l[a], ps[a]⟩ = true := by unfold caOK; rw [h1, h2, h3]; rfl
        have o2 : caOK ⟨s, l[b], ps[b]⟩ = true := by unfold caOK; rw [h1, h4, h5]; rfl
        have hs := stOK_iff.1 h1
        have k24 : APure Tryz.prog 24 [stA s] (B true) := by have := rstage_pure s; rwa [h1] at this
        have k25 : APure Tryz.prog 25 [fgA l[a]] (B true) := by have := rfigure_pure l[a]; rwa [h2] at this
        have k26 : APure Tryz.prog 26 [stA s, pcA ps[a]] (B true) := by have := rplace_pure s ps[a] (by omega); rwa [h3] at this
        have k25b : APure Tryz.prog 25 [fgA l[b]] (B true) := by have := rfigure_pure l[b]; rwa [h4] at this
        have k26b : APure Tryz.prog 26 [stA s, pcA ps[b]] (B true) := by have := rplace_pure s ps[b] (by omega); rwa [h5] at this
        rw [show (caOK ⟨s, l[a], ps[a]⟩ && caOK ⟨s, l[b], ps[b]⟩) = true by rw [o1, o2]; rfl] at k73
        have k88 := rmeets_pure (c := ⟨s, l[a], ps[a]⟩) (caOK_B o1) (caOK_B o2)
        exact joins_good k34 hsz.1 hp ha ha2 hb hb2 k73 h1 k24 k25 k26 k25b k26b k88
    · exact joins_out k34 hsz.1 hp ho
end Go.Proofs.YtmbknoaneglilaaGreatDoor
