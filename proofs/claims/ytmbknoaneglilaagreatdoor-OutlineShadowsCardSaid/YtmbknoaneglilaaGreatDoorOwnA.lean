/-
  A part of the proof: conditions: none beyond each theorem's own.
-/
import Derived.Test.YtmbknoaneglilaaGreatDoorSpecA
import Derived.Test.YtmbknoaneglilaaGreatDoorLogicD
import Derived.KernelRfl
import Derived.Lib.LaidTab
import Derived.Lib.ItoaNum
import Derived.Test.YtmbknoaneglilaaGreatDoorProg
import Derived.Test.YtmbknoaneglilaaGreatDoorWalkB
import Derived.Test.YtmbknoaneglilaaGreatDoorWalkG
import Derived.Test.YtmbknoaneglilaaGreatDoorLogicA
import Derived.Test.YtmbknoaneglilaaGreatDoorLogicB
import Derived.Test.YtmbknoaneglilaaGreatDoorLogicC
import Derived.Test.YtmbknoaneglilaaGreatDoorShelf
import Derived.Test.YtmbknoaneglilaaGreatDoorWalkA
import Derived.Test.YtmbknoaneglilaaGreatDoorWalkC
import Derived.Test.YtmbknoaneglilaaGreatDoorWalkD
import Derived.Test.YtmbknoaneglilaaGreatDoorWalkE
import Derived.Test.YtmbknoaneglilaaGreatDoorWalkF
import Derived.Test.YtmbknoaneglilaaGreatDoorRow
set_option linter.all false
set_option maxHeartbeats 8000000
namespace Ol
open Ni (inn)
theorem mists_iff {a b : List Th} : mists a b = true ↔ ∃ t ∈ a, ∃ u ∈ b, agree t.sh u.sh = true := by
  unfold mists mist; simp only [List.any_eq_true]
theorem pairI_inv {L : List (List Th)} {i : Nat} (h : pairI L i = none) : ∀ k, i < k → k < L.length → mists (L.getD i []) (L.getD k []) = false := by
  intro k hik hk
  unfold pairI at h
  cases hf : (List.range L.length).find? (fun k => decide (i < k) && mists (L.getD i []) (L.getD k [])) with
  | some q => rw [hf] at h; cases h
  | none =>
    rw [List.find?_eq_none] at hf
    have := hf k (List.mem_range.2 hk)
    simpa [hik] using this
theorem pair_none_inv {L : List (List Th)} (h : pairOf L = none) : ∀ i k, i < k → k < L.length → mists (L.getD i []) (L.getD k []) = false := by
  intro i k hik hk
  unfold pairOf at h
  rw [List.findSome?_eq_none_iff] at h
  exact pairI_inv (h i (List.mem_range.2 (by omega))) k hik hk
theorem findSome_inv {α : Type} {f : Nat → Option α} : ∀ {n : Nat} {a : α}, (List.range n).findSome? f = some a → ∃ i, i < n ∧ f i = some a ∧ ∀ j, j < i → f j = none
  | 0, a, h => by simp at h
  | n + 1, a, h => by
    rw [List.range_succ, List.findSome?_append] at h
    cases hp : (List.range n).findSome? f with
    | some b =>
      rw [hp] at h; simp only [Option.some_or, Option.some.injEq] at h; subst h
      obtain ⟨i, h1, h2, h3⟩ := findSome_inv hp
      exact ⟨i, by omega, h2, h3⟩
    | none =>
      rw [hp] at h
      rw [List.findSome?_eq_none_iff] at hp
      refine ⟨n, by omega, by simpa using h, fun j hj => hp j (List.mem_range.2 hj)⟩
theorem pair_some_inv {L : List (List Th)} {a b : Nat} (h : pairOf L = some (a, b)) : (a < b ∧ b < L.length) ∧ ∀ i k, i < k → k < L.length → mists (L.getD i []) (L.getD k []) = true → a < i ∨ (a = i ∧ b ≤ k) := by
  obtain ⟨i0, hi0, hp, hno⟩ := findSome_inv h
  have hp' := hp
  unfold pairI at hp'
  cases hf : (List.range L.length).find? (fun k => decide (i0 < k) && mists (L.getD i0 []) (L.getD k [])) with
  | none => rw [hf] at hp'; cases hp'
  | some q =>
    rw [hf] at hp'
    simp only [Option.map_some, Option.some.injEq, Prod.mk.injEq] at hp'
    obtain ⟨rfl, rfl⟩ := hp'
    rw [List.find?_range_eq_some] at hf
    obtain ⟨h1, h2, h3⟩ := hf
    simp only [Bool.and_eq_true, decide_eq_true_eq] at h1
    refine ⟨⟨h1.1, List.mem_range.1 h2⟩, fun i k hik hk hm => ?_⟩
    rcases Nat.lt_trichotomy i0 i with h | h | h
    · exact .inl h
    · subst h
      refine .inr ⟨rfl, ?_⟩
      rcases Nat.lt_or_ge k q with hq | hq
      · have := h3 k hq
        simp only [hik, decide_true, Bool.true_and, hm, Bool.not_true] at this
        cases this
      · exact hq
    · have := pairI_inv (hno i h) k hik hk
      rw [hm] at this; cases this
end Ol
namespace Ol
open Ni (inn)
theorem mts_ex {c : Ca} (hF : 0 < c.s.far) {e : Int × Int} (h : e.1 < e.2) : ∃ i, i ∈ rng (c.mts e).1 (c.mts e).2 := by
  refine ⟨e.1 / c.s.far, (mem_mts hF).2 ⟨?_, ?_⟩⟩
  · exact (floor_le hF).1 (Int.le_refl _)
  · have := Int.ediv_mul_le e.1 (show c.s.far ≠ 0 by omega); omega
theorem boxAll_iff {c : Ca} {h v : Int × Int} : c.boxAll h v = true ↔ ∀ m ∈ rng v.1 v.2, ∀ i ∈ rng h.1 h.2, c.hide m i = true := by
  unfold Ca.boxAll Ca.rowAll; simp only [List.all_eq_true]
theorem cell_35 {c : Ca} {k m : Int} : c.cell k m = 35 ↔ ∀ j ∈ rng (c.mts (c.dwn m)).1 (c.mts (c.dwn m)).2, ∀ i ∈ rng (c.mts (c.acr k)).1 (c.mts (c.acr k)).2, c.hide j i = true := by
  rw [← boxAll_iff]
  unfold Ca.cell Ca.cellAt
  by_cases h : c.boxAll (c.mts (c.acr k)) (c.mts (c.dwn m)) = true
  · rw [if_pos h]; exact ⟨fun _ => h, fun _ => rfl⟩
  · rw [if_neg h]
    refine ⟨fun e => ?_, fun e => absurd e h⟩
    split at e <;> cases e
theorem CaB.good {c : Ca} (h : CaB c) : Good c := by
  have h1 := h.st; have h2 := h.pc
  exact ⟨by omega, by omega, by omega, by omega⟩
theorem frm_step (c : Ca) (k axis edge : Int) : c.frm (k + 1) axis edge = c.frm k axis edge + (c.s.far - c.p.near) := by
  unfold Ca.frm
  rw [show k + 1 - axis = (k - axis) + 1 by omega, Int.add_mul]; omega
theorem acr_lt {c : Ca} (h : Good c) (k : Int) : (c.acr k).1 < (c.acr k).2 := by
  have := h.blur; have := h.near
  unfold Ca.acr; simp only; rw [frm_step]; omega
theorem dwn_lt {c : Ca} (h : Good c) (k : Int) : (c.dwn k).1 < (c.dwn k).2 := by
  have := h.blur; have := h.near
  unfold Ca.dwn; simp only; rw [frm_step]; omega
theorem cell_46 {c : Ca} (g : Good c) {k m : Int} : c.cell k m = 46 ↔ ∀ j ∈ rng (c.mts (c.dwn m)).1 (c.mts (c.dwn m)).2, ∀ i ∈ rng (c.mts (c.acr k)).1 (c.mts (c.acr k)).2, c.hide j i = false := by
  have hno : c.boxAny (c.mts (c.acr k)) (c.mts (c.dwn m)) = false ↔ ∀ j ∈ rng (c.mts (c.dwn m)).1 (c.mts (c.dwn m)).2, ∀ i ∈ rng (c.mts (c.acr k)).1 (c.mts (c.acr k)).2, c.hide j i = false := by
    unfold Ca.boxAny Ca.rowAny
    simp only [List.any_eq_false, Bool.not_eq_true]
  rw [← hno]
  unfold Ca.cell Ca.cellAt
  by_cases h : c.boxAll (c.mts (c.acr k)) (c.mts (c.dwn m)) = true
  · rw [if_pos h]
    obtain ⟨i, hi⟩ := mts_ex g.far (acr_lt g k)
    obtain ⟨j, hj⟩ := mts_ex g.far (dwn_lt g m)
    refine ⟨fun e => (by cases e), fun e => ?_⟩
    rw [hno] at e
    have h1 := boxAll_iff.1 h j hj i hi
    rw [e j hj i hi] at h1; cases h1
  · rw [if_neg h]
    cases hb : c.boxAny (c.mts (c.acr k)) (c.mts (c.dwn m)) with
    | true => rw [if_pos rfl]; exact ⟨fun e => (by cases e), fun e => (by cases e)⟩
    | false => rw [if_neg (by simp)]; exact ⟨fun _ => rfl, fun _ => rfl⟩
theorem Gr.good {c d : Ca} (g : Gr c d) (h : Good c) : Good d := ⟨by rw [g.f]; exact h.far, by rw [g.f, g.p]; exact h.near, by rw [g.p]; exact h.pos, by have := h.fl; have := g.fl; omega⟩
end Ol
namespace Ol
open Ni (inn)
theorem shadow_len (c : Ca) : c.shadow.length = c.s.high.toNat := by simp [Ca.shadow]
theorem shadow_wide {c : Ca} {r : List UInt8} (h : r ∈ c.shadow) : r.length = c.s.wide.toNat := by
  unfold Ca.shadow at h
  obtain ⟨m, _, rfl⟩ := List.mem_map.1 h
  simp [Ca.srow]
theorem cell_ch3 (c : Ca) (k m : Int) : c.cell k m = 35 ∨ c.cell k m = 43 ∨ c.cell k m = 46 := by
  unfold Ca.cell Ca.cellAt
  split
  · exact .inl rfl
  · split
    · exact .inr (.inl rfl)
    · exact .inr (.inr rfl)
end Ol
namespace Ol
open Ni (inn)
namespace Ca
def ln (c : Ca) (axis x : Int) : Int := axis * (c.s.far - c.p.near) + (x - axis) * c.s.far
def eR (c : Ca) (k : Int) : Int := (k + 1) * (c.s.far - c.p.near) + c.s.flame * c.p.near
def skp (c : Ca) (k m : Int) (j i : Nat) : Bool := decide (c.ln c.s.x (c.p.x + i) ≥ c.eR k) || (decide (c.ln c.s.x (c.p.x + i + 1) ≤ c.eL k) || (decide (c.ln c.s.y (c.p.y + j) ≥ c.eR m) || decide (c.ln c.s.y (c.p.y + j + 1) ≤ c.eL m)))
def chD (c : Ca) (j i : Nat) : Bool := decide ((c.f.getD j []).getD i 0 = 35)
def dk0 (c : Ca) (k m : Int) : Bool := decide (c.ln c.s.x c.p.x ≤ c.eL k) && (decide (c.ln c.s.x (c.p.x + (w0 c.f : Nat)) ≥ c.eR k) && (decide (c.ln c.s.y c.p.y ≤ c.eL m) && decide (c.ln c.s.y (c.p.y + (c.f.length : Nat)) ≥ c.eR m)))
def dkR (c : Ca) (k m : Int) (j n : Nat) : Bool := (List.range n).all fun i => c.skp k m j i || c.chD j i
def ltR (c : Ca) (k m : Int) (j n : Nat) : Bool := (List.range n).all fun i => c.skp k m j i || !c.chD j i
def dkA (c : Ca) (k m : Int) (n : Nat) : Bool := (List.range n).all fun j => c.dkR k m j (w0 c.f)
def ltA (c : Ca) (k m : Int) (n : Nat) : Bool := (List.range n).all fun j => c.ltR k m j (w0 c.f)
def shade (c : Ca) (k m : Int) : UInt8 := if (c.dk0 k m && c.dkA k m c.f.length) = true then 35 else if c.ltA k m c.f.length = true then 46 else 43
theorem dkR_succ (c : Ca) (k m : Int) (j n : Nat) : c.dkR k m j (n + 1) = (c.dkR k m j n && (c.skp k m j n || c.chD j n)) := by unfold dkR; rw [List.range_succ, List.all_append]; simp
theorem ltR_succ (c : Ca) (k m : Int) (j n : Nat) : c.ltR k m j (n + 1) = (c.ltR k m j n && (c.skp k m j n || !c.chD j n)) := by unfold ltR; rw [List.range_succ, List.all_append]; simp
theorem dkA_succ (c : Ca) (k m : Int) (n : Nat) : c.dkA k m (n + 1) = (c.dkA k m n && c.dkR k m n (w0 c.f)) := by unfold dkA; rw [List.range_succ, List.all_append]; simp
theorem ltA_succ (c : Ca) (k m : Int) (n : Nat) : c.ltA k m (n + 1) = (c.ltA k m n && c.ltR k m n (w0 c.f)) := by unfold ltA; rw [List.range_succ, List.all_append]; simp
theorem ln_R (c : Ca) (k a e i : Int) : c.ln a (e + i) ≥ c.eR k ↔ ¬ i * c.s.far < c.frm (k + 1) a e + c.blur := by
  unfold ln eR frm blur
  have q1 : (e + i - a) * c.s.far = (e - a) * c.s.far + i * c.s.far := by rw [show e + i - a = (e - a) + i by omega, Int.add_mul]
  have q2 : (a - e) * c.s.far = -((e - a) * c.s.far) := by rw [show a - e = -(e - a) by omega, Int.neg_mul]
  have q3 := Int.sub_mul (k + 1) a (c.s.far - c.p.near)
  omega
theorem ln_L (c : Ca) (k a e i : Int) : c.ln a (e + i) ≤ c.eL k ↔ ¬ c.frm k a e - c.blur < i * c.s.far := by
  unfold ln eL frm blur
  have q1 : (e + i - a) * c.s.far = (e - a) * c.s.far + i * c.s.far := by rw [show e + i - a = (e - a) + i by omega, Int.add_mul]
  have q2 : (a - e) * c.s.far = -((e - a) * c.s.far) := by rw [show a - e = -(e - a) by omega, Int.neg_mul]
  have q3 := Int.sub_mul k a (c.s.far - c.p.near)
  omega
theorem skp_iff {c : Ca} (hF : 0 < c.s.far) {k m : Int} {j i : Nat} : c.skp k m j i = false ↔ (i : Int) ∈ rng (c.mts (c.acr k)).1 (c.mts (c.acr k)).2 ∧ (j : Int) ∈ rng (c.mts (c.dwn m)).1 (c.mts (c.dwn m)).2 := by
  rw [mem_mts hF, mem_mts hF]
  unfold skp acr dwn
  simp only [Bool.or_eq_false_iff, decide_eq_false_iff_not, Int.add_assoc]
  rw [ln_R, ln_L, ln_R, ln_L]
  simp only [Decidable.not_not]
  constructor
  · rintro ⟨h1, h2, h3, h4⟩; exact ⟨⟨h2, h1⟩, h4, h3⟩
  · rintro ⟨⟨h2, h1⟩, h4, h3⟩; exact ⟨h1, h2, h3, h4⟩
theorem chD_hide {c : Ca} (B : CaB c) {j i : Nat} (hj : j < c.f.length) (hi : i < w0 c.f) : c.hide j i = c.chD j i := by
  have hw := B.row j hj
  rw [hide_in B hj (by omega)]
  unfold chD
  rw [getD_get hj, getD_get (by omega)]
theorem within_iff {F L R : Int} {n : Nat} (hF : 0 < F) (hLR : L < R) : (∀ i : Int, L < (i + 1) * F → i * F < R → 0 ≤ i ∧ i < n) ↔ (0 ≤ L ∧ R ≤ n * F) := by
  constructor
  · intro h
    constructor
    · apply Int.not_lt.1
      intro hl
      have h1 := Int.ediv_mul_le L (show F ≠ 0 by omega)
      have h2 := Int.lt_ediv_add_one_mul_self L hF
      have := (h (L / F) h2 (by omega)).1
      have h3 : L / F < 0 := Int.ediv_neg_of_neg_of_pos hl hF
      omega
    · apply Int.not_lt.1
      intro hl
      by_cases hm : L < (n + 1 : Int) * F
      · have := (h n hm hl).2; omega
      · have h1 := Int.ediv_mul_le L (show F ≠ 0 by omega)
        have h2 := Int.lt_ediv_add_one_mul_self L hF
        have := (h (L / F) h2 (by omega)).2
        have h3 : (n + 1 : Int) ≤ L / F := (Int.le_ediv_iff_mul_le hF).2 (by omega)
        omega
  · rintro ⟨h1, h2⟩ i h3 h4
    constructor
    · apply Int.not_lt.1
      intro hn
      have : (i + 1) * F ≤ 0 * F := Int.mul_le_mul_of_nonneg_right (by omega) (by omega)
      omega
    · apply Int.not_le.1
      intro hn
      have : (n : Int) * F ≤ i * F := Int.mul_le_mul_of_nonneg_right hn (by omega)
      omega
theorem dk0_iff {c : Ca} (B : CaB c) (k m : Int) : c.dk0 k m = true ↔ (∀ i ∈ rng (c.mts (c.acr k)).1 (c.mts (c.acr k)).2, 0 ≤ i ∧ i < (w0 c.f : Int)) ∧ ∀ j ∈ rng (c.mts (c.dwn m)).1 (c.mts (c.dwn m)).2, 0 ≤ j ∧ j < (c.f.length : Int) := by
  have g := B.good
  have e1 := within_iff (n := w0 c.f) g.far (acr_lt g k)
  have e2 := within_iff (n := c.f.length) g.far (dwn_lt g m)
  have r1 : (∀ i ∈ rng (c.mts (c.acr k)).1 (c.mts (c.acr k)).2, 0 ≤ i ∧ i < (w0 c.f : Int)) ↔ 0 ≤ (c.acr k).1 ∧ (c.acr k).2 ≤ (w0 c.f : Int) * c.s.far := by
    rw [← e1]
    exact ⟨fun h i a b => h i ((mem_mts g.far).2 ⟨a, b⟩), fun h i hi => h i ((mem_mts g.far).1 hi).1 ((mem_mts g.far).1 hi).2⟩
  have r2 : (∀ i ∈ rng (c.mts (c.dwn m)).1 (c.mts (c.dwn m)).2, 0 ≤ i ∧ i < (c.f.length : Int)) ↔ 0 ≤ (c.dwn m).1 ∧ (c.dwn m).2 ≤ (c.f.length : Int) * c.s.far := by
    rw [← e2]
    exact ⟨fun h i a b => h i ((mem_mts g.far).2 ⟨a, b⟩), fun h i hi => h i ((mem_mts g.far).1 hi).1 ((mem_mts g.far).1 hi).2⟩
  rw [r1, r2]
  unfold dk0
  simp only [Bool.and_eq_true, decide_eq_true_eq]
  have l1 := ln_L c k c.s.x c.p.x 0
  have l2 := ln_L c m c.s.y c.p.y 0
  rw [Int.add_zero, Int.zero_mul] at l1 l2
  rw [l1, l2, ln_R, ln_R]
  unfold acr dwn
  simp only [Int.not_lt]
  constructor
  · rintro ⟨a, b, c, d⟩; exact ⟨⟨a, b⟩, c, d⟩
  · rintro ⟨⟨a, b⟩, c, d⟩; exact ⟨a, b, c, d⟩
theorem shade_cell {c : Ca} (B : CaB c) (k m : Int) : c.shade k m = c.cell k m := by
  have g := B.good
  have hA : (c.dk0 k m && c.dkA k m c.f.length) = true ↔ c.cell k m = 35 := by
    rw [Bool.and_eq_true, dk0_iff B, cell_35]
    unfold dkA dkR
    simp only [List.all_eq_true, List.mem_range, Bool.or_eq_true]
    constructor
    · rintro ⟨⟨h1, h2⟩, h3⟩ j hj i hi
      obtain ⟨i', rfl⟩ : ∃ n : Nat, i = n := ⟨i.toNat, by have := h1 i hi; omega⟩
      obtain ⟨j', rfl⟩ : ∃ n : Nat, j = n := ⟨j.toNat, by have := h2 j hj; omega⟩
      have a1 := h1 _ hi; have a2 := h2 _ hj
      rw [chD_hide B (by omega) (by omega)]
      rcases h3 j' (by omega) i' (by omega) with h | h
      · rw [(skp_iff g.far).2 ⟨hi, hj⟩] at h; cases h
      · exact h
    · intro h
      obtain ⟨i0, hi0⟩ := mts_ex g.far (acr_lt g k)
      obtain ⟨j0, hj0⟩ := mts_ex g.far (dwn_lt g m)
      have inb : ∀ j i, c.hide j i = true → (0 ≤ j ∧ j < (c.f.length : Int)) ∧ (0 ≤ i ∧ i < (w0 c.f : Int)) := fun j i hh => by
        unfold hide inn at hh
        simp only [Bool.and_eq_true, decide_eq_true_eq] at hh
        omega
      refine ⟨⟨fun i hi => (inb _ _ (h j0 hj0 i hi)).2, fun j hj => (inb _ _ (h j hj i0 hi0)).1⟩, fun j hj i hi => ?_⟩
      cases hs : c.skp k m j i with
      | true => exact .inl rfl
      | false =>
        have := (skp_iff g.far).1 hs
        right; rw [← chD_hide B hj hi]; exact h _ this.2 _ this.1
  have hB : c.ltA k m c.f.length = true ↔ c.cell k m = 46 := by
    rw [cell_46 g]
    unfold ltA ltR
    simp only [List.all_eq_true, List.mem_range, Bool.or_eq_true, Bool.not_eq_true']
    constructor
    · intro h3 j hj i hi
      by_cases hin : (inn j 0 (c.f.length - 1) && inn i 0 ((w0 c.f : Int) - 1)) = true
      · have hin' := hin
        unfold inn at hin'
        simp only [Bool.and_eq_true, decide_eq_true_eq] at hin'
        obtain ⟨i', rfl⟩ : ∃ n : Nat, i = n := ⟨i.toNat, by omega⟩
        obtain ⟨j', rfl⟩ : ∃ n : Nat, j = n := ⟨j.toNat, by omega⟩
        rw [chD_hide B (by omega) (by omega)]
        rcases h3 j' (by omega) i' (by omega) with h | h
        · rw [(skp_iff g.far).2 ⟨hi, hj⟩] at h; cases h
        · exact h
      · exact hide_out (by simpa using hin)
    · intro h j hj i hi
      cases hs : c.skp k m j i with
      | true => exact .inl rfl
      | false =>
        have := (skp_iff g.far).1 hs
        right; rw [← chD_hide B hj hi]; exact h _ this.2 _ this.1
  unfold shade
  by_cases h1 : (c.dk0 k m && c.dkA k m c.f.length) = true
  · rw [if_pos h1, hA.1 h1]
  · rw [if_neg h1]
    by_cases h2 : c.ltA k m c.f.length = true
    · rw [if_pos h2, hB.1 h2]
    · rw [if_neg h2]
      rcases cell_ch3 c k m with e | e | e
      · exact absurd (hA.2 e) h1
      · exact e.symm
      · exact absurd (hB.2 e) h2
end Ca
end Ol
namespace Ol
open Ni (inn)
theorem mem_rdgs {x : Sn} {t : Th} : t ∈ rdgs x ↔ t.rd.fig < x.l.length ∧ t ∈ rdN x t.rd.fig := by
  unfold rdgs
  rw [List.mem_flatMap]
  constructor
  · rintro ⟨i, hi, h⟩
    have := rdN_fig h
    subst this
    exact ⟨List.mem_range.1 hi, h⟩
  · rintro ⟨h1, h2⟩; exact ⟨_, List.mem_range.2 h1, h2⟩
theorem good_mists {x : Sn} {t u : Th} (ht : t ∈ rdgs x) (hu : u ∈ rdgs x) (h : goodP t u) : mists ((byF x).getD t.rd.fig []) ((byF x).getD u.rd.fig []) = true := by
  obtain ⟨a1, a2⟩ := mem_rdgs.1 ht
  obtain ⟨b1, b2⟩ := mem_rdgs.1 hu
  have g : ∀ {i : Nat}, i < x.l.length → (byF x).getD i [] = rdN x i := fun {i} hi => by
    unfold byF; rw [getD_get (by simpa using hi)]; simp
  rw [g a1, g b1]
  exact mists_iff.2 ⟨t, a2, u, b2, h.2⟩
theorem MInv.done {x : Sn} {M : Option (Nat × Nat)} (h : MInv (rdgs x) M (rdgs x).length 0) : misOf x = M := by
  have g : ∀ {i : Nat}, i < x.l.length → (byF x).getD i [] = rdN x i := fun {i} hi => by
    unfold byF; rw [getD_get (by simpa using hi)]; simp
  have hl : (byF x).length = x.l.length := by simp [byF]
  have real : ∀ {a b : Nat}, a < b → b < x.l.length → mists ((byF x).getD a []) ((byF x).getD b []) = true → leM M a b := fun {a b} hab hb hm => by
    rw [g (by omega), g hb] at hm
    obtain ⟨t, ht, u, hu, hag⟩ := mists_iff.1 hm
    have ft := rdN_fig ht
    have fu := rdN_fig hu
    have mt : t ∈ rdgs x := mem_rdgs.2 ⟨by omega, by rw [ft]; exact ht⟩
    have mu : u ∈ rdgs x := mem_rdgs.2 ⟨by omega, by rw [fu]; exact hu⟩
    obtain ⟨p, hp, rfl⟩ := List.getElem_of_mem mt
    obtain ⟨q, hq, rfl⟩ := List.getElem_of_mem mu
    have := h.least p q hp hq (.inl hp) ⟨by omega, hag⟩
    rw [ft, fu] at this; exact this
  cases hm : misOf x with
  | none =>
    cases M with
    | none => rfl
    | some m =>
      obtain ⟨t, ht, u, hu, hg, e1, e2⟩ := h.real m rfl
      have h1 := good_mists ht hu hg
      have h2 := pair_none_inv hm _ _ hg.1 (by rw [hl]; exact (mem_rdgs.1 hu).1)
      rw [h1] at h2; cases h2
  | some m' =>
    obtain ⟨a, b⟩ := m'
    obtain ⟨⟨hab, hbl⟩, hmin⟩ := pair_some_inv hm
    rw [hl] at hbl hmin
    obtain ⟨i, hi, e, _⟩ := findSome_inv (show (List.range (byF x).length).findSome? (pairI (byF x)) = some (a, b) from hm)
    have hmm : mists ((byF x).getD a []) ((byF x).getD b []) = true := by
      unfold pairI at e
      cases hf : (List.range (byF x).length).find? (fun k => decide (i < k) && mists ((byF x).getD i []) ((byF x).getD k [])) with
      | none => rw [hf] at e; cases e
      | some k =>
        rw [hf] at e
        simp only [Option.map_some, Option.some.injEq, Prod.mk.injEq] at e
        have h1 := List.find?_some hf
        simp only [Bool.and_eq_true] at h1
        rw [← e.1, ← e.2]; exact h1.2
    have hle := real hab hbl hmm
    cases M with
    | none => unfold leM at hle; simp only [mA] at hle; omega
    | some m =>
      obtain ⟨t, ht, u, hu, hg, e1, e2⟩ := h.real m rfl
      have h1 := good_mists ht hu hg
      have h2 := hmin _ _ hg.1 (mem_rdgs.1 hu).1 h1
      unfold leM at hle
      simp only [mA, mB] at hle
      obtain ⟨m1, m2⟩ := m
      simp only at *
      congr 1
      refine Prod.ext ?_ ?_ <;> simp only <;> omega
end Ol
namespace Go.Proofs.YtmbknoaneglilaaGreatDoor
open Go Go.Ab Ni Ol
theorem en31 : Ent Tryz.prog 31 := Ent.of Tryz.func31 (by kernel_rfl) rfl
theorem en89 : Ent Tryz.prog 89 := Ent.of Tryz.func89 (by kernel_rfl) rfl
theorem rin_pure (n lo hi : Int) : APure Tryz.prog 89 [I n, I lo, I hi] (B (inn n lo hi)) := by
 refine apure_of (rs := [.tmp 6]) Tryz.func89 rfl rfl (Nat.le_of_ble_eq_true rfl) (by simp [AV.pureL, AV.pureB, AV.pureE, pureE_map]) (by first | rfl | (simp [AV.pureL, AV.pureB, AV.pureE, pureE_map])) fun e0 he0 => ?_
 refine aw_seq (aw_region ?_)
 refine asr J rfl (sq_nil (aw_seq (aw_region (mvr J rfl (mvr J rfl (sq_ev rfl (ev_geq J J) ?_))))))
 refine mvr J rfl ?_
 refine sq_split 10 J (fun g1 => ?_) (fun g1 => ?_)
 ·
  have g1' := g1
  try simp only [qq] at g1'
  refine sq_yes rfl rfl (less_b g1) rfl (ev_mv (v := .raw _) J) ?_
  refine sq_yes rfl rfl (less_b g1) rfl (ev_mv (v := .raw _) J) ?_
  refine sq_yes rfl rfl (less_b g1) rfl (ev_leq J J) ?_
  refine sq_ev rfl (ev_pickT (v := .raw _) (less_b g1) J) ?_
  refine asr J rfl (sq_nil (aw_ret ?_))
  exact retQ_pure (v := .raw _) rfl rfl (Less.eq (by simp [inn, *]))
 have g1' := g1
 try simp only [qq] at g1'
 refine sq_no rfl rfl (less_b g1) rfl rfl ?_
 refine sq_no rfl rfl (less_b g1) rfl rfl ?_
 refine sq_no rfl rfl (less_b g1) rfl rfl ?_
 refine sq_ev rfl (ev_pickF (v := .raw _) (less_b g1) J) ?_
 refine asr J rfl (sq_nil (aw_ret ?_))
 exact retQ_pure (v := .raw _) rfl rfl (Less.eq (by simp [inn, *]))
theorem rstage_pure (s : Sg) : APure Tryz.prog 24 [stA s] (B (stOK s)) := by
 refine apure_of (rs := [.tmp 2]) Tryz.func24 rfl rfl (Nat.le_of_ble_eq_true rfl) (by simp [AV.pureL, AV.pureB, AV.pureE, pureE_map]) (by first | rfl | (simp [AV.pureL, AV.pureB, AV.pureE, pureE_map])) fun e0 he0 => ?_
 refine aw_seq (aw_region (sq_box rfl J rfl (asr J rfl (sq_nil (aw_seq (aw_region (sq_ev rfl (ev_fieldAddr fo23_0 J) ?_)))))))
 refine sq_ev rfl (ev_load J rfl ty3 rfl) ?_
 refine sq_ev rfl (ev_call en89 J (rin_pure _ _ _) ⟨J, J, J, trivial⟩) ?_
 refine mvr J rfl ?_
 refine sq_split 6 J (fun g1 => ?_) (fun g1 => ?_)
 ·
  have g1' := g1
  try simp only [qq] at g1'
  refine sq_yes rfl rfl (less_b g1) rfl (ev_fieldAddr fo23_1 J) ?_
  refine sq_yes rfl rfl (less_b g1) rfl (ev_load J rfl ty3 rfl) ?_
  refine sq_yes rfl rfl (less_b g1) rfl (ev_call en89 J (rin_pure _ _ _) ⟨J, J, J, trivial⟩) ?_
  refine sq_ev rfl (ev_pickT (v := .raw _) (less_b g1) J) ?_
  refine mvr J rfl ?_
  refine sq_split 11 J (fun g2 => ?_) (fun g2 => ?_)
  ·
   have g2' := g2
   try simp only [qq] at g2'
   refine sq_yes rfl rfl (less_b g2) rfl (ev_fieldAddr fo23_2 J) ?_
   refine sq_yes rfl rfl (less_b g2) rfl (ev_load J rfl ty3 rfl) ?_
   refine sq_yes rfl rfl (less_b g2) rfl (ev_call en89 J (rin_pure _ _ _) ⟨J, J, J, trivial⟩) ?_
   refine sq_ev rfl (ev_pickT (v := .raw _) (less_b g2) J) ?_
   refine mvr J rfl ?_
   refine sq_split 16 J (fun g3 => ?_) (fun g3 => ?_)
   ·
    have g3' := g3
    try simp only [qq] at g3'
    refine sq_yes rfl rfl (less_b g3) rfl (ev_fieldAddr fo23_3 J) ?_
    refine sq_yes rfl rfl (less_b g3) rfl (ev_load J rfl ty3 rfl) ?_
    refine sq_yes rfl rfl (less_b g3) rfl (ev_call en89 J (rin_pure _ _ _) ⟨J, J, J, trivial⟩) ?_
    refine sq_ev rfl (ev_pickT (v := .raw _) (less_b g3) J) ?_
    refine mvr J rfl ?_
    refine sq_split 21 J (fun g4 => ?_) (fun g4 => ?_)
    ·
     have g4' := g4
     try simp only [qq] at g4'
     refine sq_yes rfl rfl (less_b g4) rfl (ev_fieldAddr fo23_4 J) ?_
     refine sq_yes rfl rfl (less_b g4) rfl (ev_load J rfl ty3 rfl) ?_
     refine sq_yes rfl rfl (less_b g4) rfl (ev_fieldAddr fo23_0 J) ?_
     refine sq_yes rfl rfl (less_b g4) rfl (ev_load J rfl ty3 rfl) ?_
     refine sq_yes rfl rfl (less_b g4) rfl (ev_call en89 J (rin_pure _ _ _) ⟨J, J, J, trivial⟩) ?_
     refine sq_ev rfl (ev_pickT (v := .raw _) (less_b g4) J) ?_
     refine mvr J rfl ?_
     refine sq_split 28 J (fun g5 => ?_) (fun g5 => ?_)
     ·
      have g5' := g5
      try simp only [qq] at g5'
      refine sq_yes rfl rfl (less_b g5) rfl (ev_fieldAddr fo23_5 J) ?_
      refine sq_yes rfl rfl (less_b g5) rfl (ev_load J rfl ty3 rfl) ?_
      refine sq_yes rfl rfl (less_b g5) rfl (ev_fieldAddr fo23_1 J) ?_
      refine sq_yes rfl rfl (less_b g5) rfl (ev_load J rfl ty3 rfl) ?_
      refine sq_yes rfl rfl (less_b g5) rfl (ev_call en89 J (rin_pure _ _ _) ⟨J, J, J, trivial⟩) ?_
      refine sq_ev rfl (ev_pickT (v := .raw _) (less_b g5) J) ?_
      refine asr J rfl (sq_nil (aw_ret ?_))
      exact retQ_pure (v := .raw _) rfl rfl (Less.eq (by simp [stOK, *]))
     have g5' := g5
     try simp only [qq] at g5'
     refine sq_no rfl rfl (less_b g5) rfl rfl ?_
     refine sq_no rfl rfl (less_b g5) rfl rfl ?_
     refine sq_no rfl rfl (less_b g5) rfl rfl ?_
     refine sq_no rfl rfl (less_b g5) rfl rfl ?_
     refine sq_no rfl rfl (less_b g5) rfl rfl ?_
     refine sq_ev rfl (ev_pickF (v := .raw _) (less_b g5) J) ?_
     refine asr J rfl (sq_nil (aw_ret ?_))
     exact retQ_pure (v := .raw _) rfl rfl (Less.eq (by simp [stOK, *]))
    have g4' := g4
    try simp only [qq] at g4'
    refine sq_no rfl rfl (less_b g4) rfl rfl ?_
    refine sq_no rfl rfl (less_b g4) rfl rfl ?_
    refine sq_no rfl rfl (less_b g4) rfl rfl ?_
    refine sq_no rfl rfl (less_b g4) rfl rfl ?_
    refine sq_no rfl rfl (less_b g4) rfl rfl ?_
    refine sq_ev rfl (ev_pickF (v := .raw _) (less_b g4) J) ?_
    refine mvr J rfl (sq_no rfl rfl J rfl rfl (sq_no rfl rfl J rfl rfl ?_))
    refine sq_no rfl rfl J rfl rfl (sq_no rfl rfl J rfl rfl (sq_no rfl rfl J rfl rfl (pf rfl J J (asr J rfl (sq_nil (aw_ret ?_))))))
    exact retQ_pure (v := .raw _) rfl rfl (Less.eq (by simp [stOK, *]))
   have g3' := g3
   try simp only [qq] at g3'
   refine sq_no rfl rfl (less_b g3) rfl rfl ?_
   refine sq_no rfl rfl (less_b g3) rfl rfl ?_
   refine sq_no rfl rfl (less_b g3) rfl rfl ?_
   refine sq_ev rfl (ev_pickF (v := .raw _) (less_b g3) J) ?_
   refine mvr J rfl (sq_no rfl rfl J rfl rfl (sq_no rfl rfl J rfl rfl ?_))
   refine sq_no rfl rfl J rfl rfl (sq_no rfl rfl J rfl rfl (sq_no rfl rfl J rfl rfl (pf rfl J J (mvr J rfl (sq_no rfl rfl J rfl rfl (sq_no rfl rfl J rfl rfl ?_))))))
   refine sq_no rfl rfl J rfl rfl (sq_no rfl rfl J rfl rfl (sq_no rfl rfl J rfl rfl (pf rfl J J (asr J rfl (sq_nil (aw_ret ?_))))))
   exact retQ_pure (v := .raw _) rfl rfl (Less.eq (by simp [stOK, *]))
  have g2' := g2
  try simp only [qq] at g2'
  refine sq_no rfl rfl (less_b g2) rfl rfl ?_
  refine sq_no rfl rfl (less_b g2) rfl rfl ?_
  refine sq_no rfl rfl (less_b g2) rfl rfl ?_
  refine sq_ev rfl (ev_pickF (v := .raw _) (less_b g2) J) ?_
  refine mvr J rfl ?_
  refine sq_no rfl rfl J rfl rfl (sq_no rfl rfl J rfl rfl (sq_no rfl rfl J rfl rfl (pf rfl J J (mvr J rfl (sq_no rfl rfl J rfl rfl (sq_no rfl rfl J rfl rfl ?_))))))
  refine sq_no rfl rfl J rfl rfl (sq_no rfl rfl J rfl rfl (sq_no rfl rfl J rfl rfl (pf rfl J J (mvr J rfl (sq_no rfl rfl J rfl rfl (sq_no rfl rfl J rfl rfl ?_))))))
  refine sq_no rfl rfl J rfl rfl (sq_no rfl rfl J rfl rfl (sq_no rfl rfl J rfl rfl (pf rfl J J (asr J rfl (sq_nil (aw_ret ?_))))))
  exact retQ_pure (v := .raw _) rfl rfl (Less.eq (by simp [stOK, *]))
 have g1' := g1
 try simp only [qq] at g1'
 refine sq_no rfl rfl (less_b g1) rfl rfl ?_
 refine sq_no rfl rfl (less_b g1) rfl rfl ?_
 refine sq_no rfl rfl (less_b g1) rfl rfl ?_
 refine sq_ev rfl (ev_pickF (v := .raw _) (less_b g1) J) ?_
 refine mvr J rfl (sq_no rfl rfl J rfl rfl (sq_no rfl rfl J rfl rfl (sq_no rfl rfl J rfl rfl (pf rfl J J (mvr J rfl ?_)))))
 refine sq_no rfl rfl J rfl rfl (sq_no rfl rfl J rfl rfl (sq_no rfl rfl J rfl rfl (pf rfl J J (mvr J rfl (sq_no rfl rfl J rfl rfl (sq_no rfl rfl J rfl rfl ?_))))))
 refine sq_no rfl rfl J rfl rfl (sq_no rfl rfl J rfl rfl (sq_no rfl rfl J rfl rfl (pf rfl J J (mvr J rfl (sq_no rfl rfl J rfl rfl (sq_no rfl rfl J rfl rfl ?_))))))
 refine sq_no rfl rfl J rfl rfl (sq_no rfl rfl J rfl rfl (sq_no rfl rfl J rfl rfl (pf rfl J J (asr J rfl (sq_nil (aw_ret ?_))))))
 exact retQ_pure (v := .raw _) rfl rfl (Less.eq (by simp [stOK, *]))
theorem rat_pure (x y : Int) : APure Tryz.prog 31 [I x, I y] (B (awayOK x && awayOK y)) := by
 refine apure_of (rs := [.tmp 4]) Tryz.func31 rfl rfl (Nat.le_of_ble_eq_true rfl) (by simp [AV.pureL, AV.pureB, AV.pureE, pureE_map]) (by first | rfl | (simp [AV.pureL, AV.pureB, AV.pureE, pureE_map])) fun e0 he0 => ?_
 refine aw_seq (aw_region (asr J rfl (sq_nil (aw_seq (aw_region (mvr J rfl (sq_ev rfl (ev_call en89 J (rin_pure _ _ _) ⟨J, J, J, trivial⟩) ?_)))))))
 refine mvr J rfl ?_
 refine sq_split 7 J (fun g1 => ?_) (fun g1 => ?_)
 ·
  have g1' := g1
  try simp only [qq] at g1'
  refine sq_yes rfl rfl (less_b g1) rfl (ev_mv (v := .raw _) J) ?_
  refine sq_yes rfl rfl (less_b g1) rfl (ev_call en89 J (rin_pure _ _ _) ⟨J, J, J, trivial⟩) ?_
  refine sq_ev rfl (ev_pickT (v := .raw _) (less_b g1) J) ?_
  refine asr J rfl (sq_nil (aw_ret ?_))
  exact retQ_pure (v := .raw _) rfl rfl (Less.eq (by simp [awayOK, *]))
 have g1' := g1
 try simp only [qq] at g1'
 refine sq_no rfl rfl (less_b g1) rfl rfl ?_
 refine sq_no rfl rfl (less_b g1) rfl rfl ?_
 refine sq_ev rfl (ev_pickF (v := .raw _) (less_b g1) J) ?_
 refine asr J rfl (sq_nil (aw_ret ?_))
 exact retQ_pure (v := .raw _) rfl rfl (Less.eq (by simp [awayOK, *]))
theorem rplace_pure (s : Sg) (p : Pc) (h : 2 ≤ s.far ∧ s.far ≤ 40) : APure Tryz.prog 26 [stA s, pcA p] (B (pcOK s p)) := by
 refine apure_of (rs := [.tmp 4]) Tryz.func26 rfl rfl (Nat.le_of_ble_eq_true rfl) (by simp [AV.pureL, AV.pureB, AV.pureE, pureE_map]) (by first | rfl | (simp [AV.pureL, AV.pureB, AV.pureE, pureE_map])) fun e0 he0 => ?_
 refine aw_seq (aw_region ?_)
 refine sq_box rfl J rfl (sq_box rfl J rfl (asr J rfl (sq_nil (aw_seq (aw_region (sq_ev rfl (ev_fieldAddr fo28_0 J) ?_))))))
 refine sq_ev rfl (ev_load J rfl ty3 rfl) ?_
 refine sq_ev rfl (ev_fieldAddr fo23_2 J) ?_
 refine sq_ev rfl (ev_load J rfl ty3 rfl) ?_
 refine sq_ev rfl (ev_sub J J (wr (by omega) (by omega))) ?_
 refine sq_ev rfl (ev_call en89 J (rin_pure _ _ _) ⟨J, J, J, trivial⟩) ?_
 refine mvr J rfl ?_
 refine sq_split 11 J (fun g1 => ?_) (fun g1 => ?_)
 ·
  have g1' := g1
  try simp only [qq] at g1'
  refine sq_yes rfl rfl (less_b g1) rfl (ev_fieldAddr fo28_1 J) ?_
  refine sq_yes rfl rfl (less_b g1) rfl (ev_load J rfl ty3 rfl) ?_
  refine sq_yes rfl rfl (less_b g1) rfl (ev_fieldAddr fo28_2 J) ?_
  refine sq_yes rfl rfl (less_b g1) rfl (ev_load J rfl ty3 rfl) ?_
  refine sq_yes rfl rfl (less_b g1) rfl (ev_call en31 J (rat_pure _ _) ⟨J, J, trivial⟩) ?_
  refine sq_ev rfl (ev_pickT (v := .raw _) (less_b g1) J) ?_
  refine asr J rfl (sq_nil (aw_ret ?_))
  exact retQ_pure (v := .raw _) rfl rfl (Less.eq (by simp [pcOK, Bool.and_assoc, *]))
 have g1' := g1
 try simp only [qq] at g1'
 refine sq_no rfl rfl (less_b g1) rfl rfl ?_
 refine sq_no rfl rfl (less_b g1) rfl rfl ?_
 refine sq_no rfl rfl (less_b g1) rfl rfl ?_
 refine sq_no rfl rfl (less_b g1) rfl rfl ?_
 refine sq_no rfl rfl (less_b g1) rfl rfl ?_
 refine sq_ev rfl (ev_pickF (v := .raw _) (less_b g1) J) ?_
 refine asr J rfl (sq_nil (aw_ret ?_))
 exact retQ_pure (v := .raw _) rfl rfl (Less.eq (by simp [pcOK, Bool.and_assoc, *]))
end Go.Proofs.YtmbknoaneglilaaGreatDoor
namespace Go.Proofs.YtmbknoaneglilaaGreatDoor
open Go Go.Ab Ni Ol
theorem ch_ok {c : UInt8} (h : (c.toNat : Int) = 35 ∨ (c.toNat : Int) = 46) : chOK c = true := by
  unfold chOK; simp only [decide_eq_true_eq]
  exact h.imp (fun h => UInt8.toNat_inj.1 (by show c.toNat = 35; omega)) (fun h => UInt8.toNat_inj.1 (by show c.toNat = 46; omega))
theorem ch_no {c : UInt8} (h : (c.toNat : Int) ≠ 35) (k : (c.toNat : Int) ≠ 46) : chOK c = false := by
  rw [Bool.eq_false_iff]; intro ho; unfold chOK at ho; simp only [decide_eq_true_eq] at ho
  rcases ho with e | e <;> (subst e; first | exact h rfl | exact k rfl)
theorem rfigure_pure (f : Fg) : APure Tryz.prog 25 [fgA f] (B (fgOK f)) := by
  refine apure_of (rs := [.tmp 2]) Tryz.func25 rfl rfl (Nat.le_of_ble_eq_true rfl) (by simp [AV.pureL, AV.pureB, AV.pureE, pureE_map]) (by first | rfl | (simp [AV.pureL, AV.pureB, AV.pureE, pureE_map])) fun e0 he0 => ?_
  refine aw_seq (aw_region ?_)
  refine sq_box rfl J rfl (asr J rfl (sq_nil (aw_seq (aw_seq (aw_region (sq_ev rfl (ev_fieldAddr fo26_0 J) ?_))))))
  refine sq_ev rfl (ev_load J rfl ty24 rfl) ?_
  refine sq_ev rfl (ev_len_map sl24 J) ?_
  refine sq_ev rfl (ev_call en89 J (rin_pure _ _ _) ⟨J, J, J, trivial⟩) ?_
  refine sq_ev rfl (ev_not J) ?_
  refine mvr J rfl ?_
  refine sq_split 11 J (fun g1_5 => ?_) (fun g1_5 => ?_)
  · skip
    have g1_5' := g1_5
    try simp only [qq] at g1_5'
    refine sq_no rfl rfl (less_b g1_5) rfl rfl ?_
    refine sq_no rfl rfl (less_b g1_5) rfl rfl ?_
    refine sq_no rfl rfl (less_b g1_5) rfl rfl ?_
    refine sq_no rfl rfl (less_b g1_5) rfl rfl ?_
    refine sq_no rfl rfl (less_b g1_5) rfl rfl ?_
    refine sq_no rfl rfl (less_b g1_5) rfl rfl ?_
    refine sq_no rfl rfl (less_b g1_5) rfl rfl ?_
    refine sq_ev rfl (ev_pickT (v := .raw _) (less_b g1_5) J) ?_
    refine sq_nil ?_
    refine aw_true J ?_
    refine aw_seq (aw_region (asr J rfl (sq_nil (aw_ret ?_))))
    exact retQ_pure (v := .raw _) rfl rfl (Less.eq (by unfold fgOK; simp_all))
  · skip
    have g1_5' := g1_5
    try simp only [qq] at g1_5'
    have h1 : inn f.length 1 6 = true := by simpa using g1_5
    have hlen : 1 ≤ f.length ∧ f.length ≤ 6 := by simp only [inn, Bool.and_eq_true, decide_eq_true_eq] at h1; omega
    have hw0 := w0_eq (f := f) (by omega)
    refine sq_yes rfl rfl (less_b g1_5) rfl (ev_fieldAddr fo26_0 J) ?_
    refine sq_yes rfl rfl (less_b g1_5) rfl (ev_load J rfl ty24 rfl) ?_
    refine sq_yes rfl rfl (less_b g1_5) rfl (ev_index_map (k := 0) sl24 J J rfl (by omega)) ?_
    refine sq_yes rfl rfl (less_b g1_5) rfl (ev_load_i J ty9 rfl) ?_
    refine sq_yes rfl rfl (less_b g1_5) rfl (ev_lenS Tryz.underlying9 J) ?_
    refine sq_yes rfl rfl (less_b g1_5) rfl (ev_call en89 J (rin_pure _ _ _) ⟨J, J, J, trivial⟩) ?_
    refine sq_yes rfl rfl (less_b g1_5) rfl (ev_not J) ?_
    refine sq_ev rfl (ev_pickF (v := .raw _) (less_b g1_5) J) ?_
    refine sq_nil ?_
    refine aw_cond J (fun c_19 => ?_) (fun c_19 => ?_)
    · skip
      have c_19' := c_19
      try simp only [qq] at c_19'
      refine aw_seq (aw_region (asr J rfl (sq_nil (aw_ret ?_))))
      exact retQ_pure (v := .raw _) rfl rfl (Less.eq (by unfold fgOK; rw [hw0]; simp_all))
    · skip
      have c_19' := c_19
      try simp only [qq] at c_19'
      have h2 : inn (w0 f) 1 6 = true := by rw [hw0]; simpa using c_19
      refine aw_skip (aw_seq (aw_region (asr J rfl ?_)))
      refine sq_nil (aw_seq (aw_seq (aw_region (asr J rfl (sq_nil (aw_block ?_))))))
      refine aw_loopk (ι := { k : Nat // k ≤ f.length ∧ ∀ i, (h : i < f.length) → i < k → fgRow (w0 f) f[i] = true }) [1] (fun i => [(3, B ((f.take i.1).any hasH)), (4, I i.1)]) (fun H i => H) (fun i => f.length - i.1) (⟨0, Nat.zero_le _, by omega⟩) ⟨J, J, J, trivial⟩ rfl ?_
      rintro ⟨k, hk, hok⟩
      dsimp only [keepS, St.put, sget, slotsOf, nn1, nn2, nn3, nn4, nn5, nn6, Nat.reduceBEq, Nat.reduceAdd, nn7, nn8]
      refine aw_seq (aw_seq (aw_region (mvr J rfl (sq_ev rfl (ev_fieldAddr fo26_0 J) ?_))))
      refine sq_ev rfl (ev_load J rfl ty24 rfl) ?_
      refine sq_ev rfl (ev_len_map sl24 J) ?_
      refine sq_ev rfl (ev_lss J J) ?_
      refine sq_nil ?_
      refine aw_cond J (fun c_24 => ?_) (fun c_24 => ?_)
      · skip
        have c_24' := c_24
        try simp only [qq] at c_24'
        refine aw_skip (aw_seq (aw_block (aw_seq (aw_seq ?_))))
        refine aw_draw 12 mo (by kernel_rfl) ?_
        refine dr_ev rfl (ev_fieldAddr fo26_0 J) ?_
        refine dr_ev rfl (ev_load J rfl ty24 rfl) ?_
        refine dr_ev rfl (ev_mv (v := .raw _) J) ?_
        refine dr_ev rfl (ev_index_map sl24 J J rfl (by omega)) ?_
        refine dr_ev rfl (ev_load_i J ty9 rfl) ?_
        refine dr_ev rfl (ev_lenS Tryz.underlying9 J) ?_
        refine dr_ev rfl (ev_fieldAddr fo26_0 J) ?_
        refine dr_ev rfl (ev_load J rfl ty24 rfl) ?_
        refine dr_ev rfl (ev_index_map (k := 0) sl24 J J rfl (by omega)) ?_
        refine dr_ev rfl (ev_load_i J ty9 rfl) ?_
        refine dr_ev rfl (ev_lenS Tryz.underlying9 J) ?_
        refine dr_ev rfl (ev_neq J J) ?_
        refine dr_end (sq_nil ?_)
        refine aw_cond J (fun c_38 => ?_) (fun c_38 => ?_)
        · skip
          have c_38' := c_38
          try simp only [qq] at c_38'
          refine aw_seq (aw_region (asr J rfl (sq_nil (aw_ret ?_))))
          exact retQ_pure (v := .raw _) rfl rfl (Less.eq (by rw [fg_row_bad (k := k) (by omega) (fgRow_len (by rw [hw0]; omega))]))
        · skip
          have c_38' := c_38
          try simp only [qq] at c_38'
          have hlk : f[k].length ≤ 6 := by simp only [inn, Bool.and_eq_true, decide_eq_true_eq] at h2; omega
          refine aw_skip (aw_seq (aw_region (asr J rfl (sq_nil (aw_block ?_)))))
          refine aw_loopk (ι := { j : Nat // j ≤ f[k].length ∧ ∀ i, (h : i < f[k].length) → i < j → chOK f[k][i] = true }) [1, 4] (fun q => [(3, B ((f.take k).any hasH || (f[k].take q.1).any fun c => decide (c = 35))), (5, I q.1)]) (fun H q => H) (fun q => f[k].length - q.1) (⟨0, Nat.zero_le _, by omega⟩) ⟨(Less.eq (by show B ((f.take k).any hasH) = _; simp)), J, J, J, trivial⟩ rfl ?_
          rintro ⟨j, hj, hoj⟩
          dsimp only [keepS, St.put, sget, slotsOf, nn1, nn2, nn3, nn4, nn5, nn6, Nat.reduceBEq, Nat.reduceAdd, nn7, nn8]
          refine aw_seq (aw_seq (aw_region (mvr J rfl (sq_ev rfl (ev_fieldAddr fo26_0 J) ?_))))
          refine sq_ev rfl (ev_load J rfl ty24 rfl) ?_
          refine mvr J rfl (sq_ev rfl (ev_index_map sl24 J J rfl (by omega)) ?_)
          refine sq_ev rfl (ev_load_i J ty9 rfl) ?_
          refine sq_ev rfl (ev_lenS Tryz.underlying9 J) ?_
          refine sq_ev rfl (ev_lss J J) ?_
          refine sq_nil ?_
          refine aw_cond J (fun c_46 => ?_) (fun c_46 => ?_)
          · skip
            have c_46' := c_46
            try simp only [qq] at c_46'
            have hk' : j < f[k].length := by omega
            have eC := any_take (q := fun c => decide (c = 35)) (l := f[k]) (k := j) hk'
            refine aw_skip (aw_seq (aw_block (aw_seq (aw_seq (aw_region (sq_ev rfl (ev_fieldAddr fo26_0 J) ?_))))))
            refine sq_ev rfl (ev_load J rfl ty24 rfl) ?_
            refine mvr J rfl (sq_ev rfl (ev_index_map sl24 J J rfl (by omega)) ?_)
            refine sq_ev rfl (ev_load_i J ty9 rfl) ?_
            refine mvr J rfl (sq_ev rfl (ev_idxS Tryz.underlying9 J J rfl (by omega)) ?_)
            refine sq_ev rfl (ev_neq J J) ?_
            refine mvr J rfl ?_
            refine sq_split 57 J (fun g12_8 => ?_) (fun g12_8 => ?_)
            · skip
              have g12_8' := g12_8
              try simp only [qq] at g12_8'
              refine sq_yes rfl rfl (less_b g12_8) rfl (ev_fieldAddr fo26_0 J) ?_
              refine sq_yes rfl rfl (less_b g12_8) rfl (ev_load J rfl ty24 rfl) ?_
              refine sq_yes rfl rfl (less_b g12_8) rfl (ev_mv (v := .raw _) J) ?_
              refine sq_yes rfl rfl (less_b g12_8) rfl (ev_index_map sl24 J J rfl (by omega)) ?_
              refine sq_yes rfl rfl (less_b g12_8) rfl (ev_load_i J ty9 rfl) ?_
              refine sq_yes rfl rfl (less_b g12_8) rfl (ev_mv (v := .raw _) J) ?_
              refine sq_yes rfl rfl (less_b g12_8) rfl (ev_idxS Tryz.underlying9 J J rfl (by omega)) ?_
              refine sq_yes rfl rfl (less_b g12_8) rfl (ev_neq J J) ?_
              refine sq_ev rfl (ev_pickT (v := .raw _) (less_b g12_8) J) ?_
              refine sq_nil ?_
              refine aw_cond J (fun c_66 => ?_) (fun c_66 => ?_)
              · skip
                have c_66' := c_66
                try simp only [qq] at c_66'
                refine aw_seq (aw_region (asr J rfl (sq_nil (aw_ret ?_))))
                exact retQ_pure (v := .raw _) rfl rfl (Less.eq (by rw [fg_row_bad (k := k) (by omega) (fgRow_ch (j := j) hk' (ch_no g12_8' c_66'))]))
              · skip
                have c_66' := c_66
                try simp only [qq] at c_66'
                have hch : chOK f[k][j] = true := ch_ok (.inr (by simpa using c_66))
                refine aw_skip (aw_region (mvr J rfl (mvr J rfl ?_)))
                refine sq_split 68 J (fun g14_1 => ?_) (fun g14_1 => ?_)
                · skip
                  have g14_1' := g14_1
                  try simp only [qq] at g14_1'
                  have eF : B true = B ((f.take k).any hasH || (f[k].take (j + 1)).any fun c => decide (c = 35)) := by rw [eC, ← Bool.or_assoc, g14_1]; rfl
                  refine sq_no rfl rfl (less_b g14_1) rfl rfl ?_
                  refine sq_no rfl rfl (less_b g14_1) rfl rfl ?_
                  refine sq_no rfl rfl (less_b g14_1) rfl rfl ?_
                  refine sq_no rfl rfl (less_b g14_1) rfl rfl ?_
                  refine sq_no rfl rfl (less_b g14_1) rfl rfl ?_
                  refine sq_no rfl rfl (less_b g14_1) rfl rfl ?_
                  refine sq_no rfl rfl (less_b g14_1) rfl rfl ?_
                  refine sq_no rfl rfl (less_b g14_1) rfl rfl ?_
                  refine sq_ev rfl (ev_pickT (v := .raw _) (less_b g14_1) J) ?_
                  refine asr J rfl (sq_nil (aw_region (mvr J rfl (sq_ev rfl (ev_add J J (wr (by omega) (by omega))) ?_))))
                  refine asr J rfl (sq_nil ?_)
                  exact ⟨⟨j + 1, by omega, fun i h hi => (by by_cases e : i = j; (subst e; exact hch); exact hoj i h (by omega))⟩, by simp only; omega, Sub.slots ⟨(Less.eq eF), J, J, J, trivial⟩⟩
                · skip
                  have g14_1' := g14_1
                  try simp only [qq] at g14_1'
                  have eF : B (decide (((f[k][j]).toNat : Int) = 35)) = B ((f.take k).any hasH || (f[k].take (j + 1)).any fun c => decide (c = 35)) := by rw [eC, ← Bool.or_assoc, g14_1, dec35]; rfl
                  refine sq_yes rfl rfl (less_b g14_1) rfl (ev_fieldAddr fo26_0 J) ?_
                  refine sq_yes rfl rfl (less_b g14_1) rfl (ev_load J rfl ty24 rfl) ?_
                  refine sq_yes rfl rfl (less_b g14_1) rfl (ev_mv (v := .raw _) J) ?_
                  refine sq_yes rfl rfl (less_b g14_1) rfl (ev_index_map sl24 J J rfl (by omega)) ?_
                  refine sq_yes rfl rfl (less_b g14_1) rfl (ev_load_i J ty9 rfl) ?_
                  refine sq_yes rfl rfl (less_b g14_1) rfl (ev_mv (v := .raw _) J) ?_
                  refine sq_yes rfl rfl (less_b g14_1) rfl (ev_idxS Tryz.underlying9 J J rfl (by omega)) ?_
                  refine sq_yes rfl rfl (less_b g14_1) rfl (ev_eql J J) ?_
                  refine sq_ev rfl (ev_pickF (v := .raw _) (less_b g14_1) J) ?_
                  refine asr J rfl (sq_nil (aw_region (mvr J rfl (sq_ev rfl (ev_add J J (wr (by omega) (by omega))) ?_))))
                  refine asr J rfl (sq_nil ?_)
                  exact ⟨⟨j + 1, by omega, fun i h hi => (by by_cases e : i = j; (subst e; exact hch); exact hoj i h (by omega))⟩, by simp only; omega, Sub.slots ⟨(Less.eq eF), J, J, J, trivial⟩⟩
            · skip
              have g12_8' := g12_8
              try simp only [qq] at g12_8'
              have hch : chOK f[k][j] = true := ch_ok (.inl (by simpa using g12_8))
              refine sq_no rfl rfl (less_b g12_8) rfl rfl ?_
              refine sq_no rfl rfl (less_b g12_8) rfl rfl ?_
              refine sq_no rfl rfl (less_b g12_8) rfl rfl ?_
              refine sq_no rfl rfl (less_b g12_8) rfl rfl ?_
              refine sq_no rfl rfl (less_b g12_8) rfl rfl ?_
              refine sq_no rfl rfl (less_b g12_8) rfl rfl ?_
              refine sq_no rfl rfl (less_b g12_8) rfl rfl ?_
              refine sq_no rfl rfl (less_b g12_8) rfl rfl ?_
              refine sq_ev rfl (ev_pickF (v := .raw _) (less_b g12_8) J) ?_
              refine sq_nil ?_
              refine aw_false J ?_
              refine aw_skip (aw_region (mvr J rfl (mvr J rfl ?_)))
              refine sq_split 68 J (fun g14_1 => ?_) (fun g14_1 => ?_)
              · skip
                have g14_1' := g14_1
                try simp only [qq] at g14_1'
                have eF : B true = B ((f.take k).any hasH || (f[k].take (j + 1)).any fun c => decide (c = 35)) := by rw [eC, ← Bool.or_assoc, g14_1]; rfl
                refine sq_no rfl rfl (less_b g14_1) rfl rfl ?_
                refine sq_no rfl rfl (less_b g14_1) rfl rfl ?_
                refine sq_no rfl rfl (less_b g14_1) rfl rfl ?_
                refine sq_no rfl rfl (less_b g14_1) rfl rfl ?_
                refine sq_no rfl rfl (less_b g14_1) rfl rfl ?_
                refine sq_no rfl rfl (less_b g14_1) rfl rfl ?_
                refine sq_no rfl rfl (less_b g14_1) rfl rfl ?_
                refine sq_no rfl rfl (less_b g14_1) rfl rfl ?_
                refine sq_ev rfl (ev_pickT (v := .raw _) (less_b g14_1) J) ?_
                refine asr J rfl (sq_nil (aw_region (mvr J rfl (sq_ev rfl (ev_add J J (wr (by omega) (by omega))) ?_))))
                refine asr J rfl (sq_nil ?_)
                exact ⟨⟨j + 1, by omega, fun i h hi => (by by_cases e : i = j; (subst e; exact hch); exact hoj i h (by omega))⟩, by simp only; omega, Sub.slots ⟨(Less.eq eF), J, J, J, trivial⟩⟩
              · skip
                have g14_1' := g14_1
                try simp only [qq] at g14_1'
                have eF : B (decide (((f[k][j]).toNat : Int) = 35)) = B ((f.take k).any hasH || (f[k].take (j + 1)).any fun c => decide (c = 35)) := by rw [eC, ← Bool.or_assoc, g14_1, dec35]; rfl
                refine sq_yes rfl rfl (less_b g14_1) rfl (ev_fieldAddr fo26_0 J) ?_
                refine sq_yes rfl rfl (less_b g14_1) rfl (ev_load J rfl ty24 rfl) ?_
                refine sq_yes rfl rfl (less_b g14_1) rfl (ev_mv (v := .raw _) J) ?_
                refine sq_yes rfl rfl (less_b g14_1) rfl (ev_index_map sl24 J J rfl (by omega)) ?_
                refine sq_yes rfl rfl (less_b g14_1) rfl (ev_load_i J ty9 rfl) ?_
                refine sq_yes rfl rfl (less_b g14_1) rfl (ev_mv (v := .raw _) J) ?_
                refine sq_yes rfl rfl (less_b g14_1) rfl (ev_idxS Tryz.underlying9 J J rfl (by omega)) ?_
                refine sq_yes rfl rfl (less_b g14_1) rfl (ev_eql J J) ?_
                refine sq_ev rfl (ev_pickF (v := .raw _) (less_b g14_1) J) ?_
                refine asr J rfl (sq_nil (aw_region (mvr J rfl (sq_ev rfl (ev_add J J (wr (by omega) (by omega))) ?_))))
                refine asr J rfl (sq_nil ?_)
                exact ⟨⟨j + 1, by omega, fun i h hi => (by by_cases e : i = j; (subst e; exact hch); exact hoj i h (by omega))⟩, by simp only; omega, Sub.slots ⟨(Less.eq eF), J, J, J, trivial⟩⟩
          · skip
            have c_46' := c_46
            try simp only [qq] at c_46'
            refine aw_exit (aw_region (mvr J rfl (sq_ev rfl (ev_add J J (wr (by omega) (by omega))) ?_)))
            refine asr J rfl (sq_nil ?_)
            have hgood : fgRow (w0 f) f[k] = true := fgRow_ok (by omega) (fun i h => hoj i h (by omega))
            have eA := any_take (q := hasH) (l := f) (k := k) (by omega)
            have eB : hasH f[k] = (f[k].take j).any (fun c => decide (c = 35)) := by unfold hasH; rw [List.take_of_length_le (by omega)]
            exact ⟨⟨k + 1, by omega, fun i h hi => (by by_cases e : i = k; (subst e; exact hgood); exact hok i h (by omega))⟩, by simp only; omega, Sub.slots ⟨(Less.eq (show B ((f.take k).any hasH || (f[k].take j).any fun c => decide (c = 35)) = _ by rw [eA, eB])), J, J, trivial⟩⟩
      · skip
        have c_24' := c_24
        try simp only [qq] at c_24'
        refine aw_exit (aw_seq (aw_region (mvr J rfl (asr J rfl (sq_nil (aw_ret ?_))))))
        exact retQ_pure (v := .raw _) rfl rfl (Less.eq (by rw [fg_end h1 h2 (fun i h => hok i h (by omega)), show k = f.length by omega, List.take_length]))
end Go.Proofs.YtmbknoaneglilaaGreatDoor
namespace Go.Proofs.YtmbknoaneglilaaGreatDoor
open Go Go.Ab Ni Ol
theorem check_pure (s : Sg) : APure Tryz.prog 74 [stA s] (I (er (stOK s))) := by
 refine apure_of (rs := [.tmp 2]) Tryz.func74 rfl rfl (Nat.le_of_ble_eq_true rfl) (by simp [AV.pureL, AV.pureB, AV.pureE, pureE_map]) (by first | rfl | (simp [AV.pureL, AV.pureB, AV.pureE, pureE_map])) fun e0 he0 => ?_
 refine aw_seq (aw_region ?_)
 refine sq_box rfl J rfl (asr J rfl (sq_nil (aw_seq (aw_seq (aw_region (sq_ev rfl (ev_load_agg J rfl ty23 rfl) ?_))))))
 refine sq_ev rfl (ev_call en137 J (isstage_pure _) ⟨J, trivial⟩) ?_
 refine sq_ev rfl (ev_not J) ?_
 refine sq_nil ?_
 refine aw_cond J (fun c_5 => ?_) (fun c_5 => ?_)
 ·
  have c_5' := c_5
  try simp only [qq] at c_5'
  refine aw_seq (aw_region (asr J rfl (sq_nil (aw_ret ?_))))
  exact retQ_pure (v := .raw _) rfl rfl (Less.eq (by simp [er, *]))
 have c_5' := c_5
 try simp only [qq] at c_5'
 refine aw_skip (aw_seq (aw_region (asr J rfl (sq_nil (aw_ret ?_)))))
 exact retQ_pure (v := .raw _) rfl rfl (Less.eq (by simp [er, *]))
theorem checkf_pure (f : Fg) : APure Tryz.prog 75 [fgA f] (I (er (fgOK f))) := by
 refine apure_of (rs := [.tmp 2]) Tryz.func75 rfl rfl (Nat.le_of_ble_eq_true rfl) (by simp [AV.pureL, AV.pureB, AV.pureE, pureE_map]) (by first | rfl | (simp [AV.pureL, AV.pureB, AV.pureE, pureE_map])) fun e0 he0 => ?_
 refine aw_seq (aw_region ?_)
 refine sq_box rfl J rfl (asr J rfl (sq_nil (aw_seq (aw_seq (aw_region (sq_ev rfl (ev_load_agg J rfl ty26 rfl) ?_))))))
 refine sq_ev rfl (ev_call en138 J (isfigure_pure _) ⟨J, trivial⟩) ?_
 refine sq_ev rfl (ev_not J) ?_
 refine sq_nil ?_
 refine aw_cond J (fun c_5 => ?_) (fun c_5 => ?_)
 ·
  have c_5' := c_5
  try simp only [qq] at c_5'
  refine aw_seq (aw_region (asr J rfl (sq_nil (aw_ret ?_))))
  exact retQ_pure (v := .raw _) rfl rfl (Less.eq (by simp [er, *]))
 have c_5' := c_5
 try simp only [qq] at c_5'
 refine aw_skip (aw_seq (aw_region (asr J rfl (sq_nil (aw_ret ?_)))))
 exact retQ_pure (v := .raw _) rfl rfl (Less.eq (by simp [er, *]))
end Go.Proofs.YtmbknoaneglilaaGreatDoor
namespace Go.Proofs.YtmbknoaneglilaaGreatDoor
open Go Go.Ab Ni Ol
theorem en23 : Ent Tryz.prog 23 := Ent.of Tryz.func23 (by kernel_rfl) rfl
theorem en24 : Ent Tryz.prog 24 := Ent.of Tryz.func24 (by kernel_rfl) rfl
theorem en25 : Ent Tryz.prog 25 := Ent.of Tryz.func25 (by kernel_rfl) rfl
theorem en26 : Ent Tryz.prog 26 := Ent.of Tryz.func26 (by kernel_rfl) rfl
theorem en41 : Ent Tryz.prog 41 := Ent.of Tryz.func41 (by kernel_rfl) rfl
theorem en77 : Ent Tryz.prog 77 := Ent.of Tryz.func77 (by kernel_rfl) rfl
theorem allT_no {α : Type} {q : α → Bool} {l : List α} {n i : Nat} (hi : i < l.length) (hn : i < n) (h : q l[i] = false) : (l.take n).all q = false := by
  rw [List.all_eq_false]
  have hm : i < (l.take n).length := by rw [List.length_take]; omega
  exact ⟨(l.take n)[i], List.getElem_mem hm, by rw [List.getElem_take, h]; simp⟩
theorem allT_yes {α : Type} {q : α → Bool} {l : List α} {n : Nat} (h : ∀ i, (hi : i < l.length) → i < n → q l[i] = true) : (l.take n).all q = true := by
  rw [List.all_eq_true]
  intro x hx
  obtain ⟨i, hi, rfl⟩ := List.getElem_of_mem hx
  rw [List.length_take] at hi
  rw [List.getElem_take]; exact h i (by omega) (by omega)
def shortB (l : List (List UInt8)) : Bool := (l.take 20).all (fun r => decide (r.length ≤ 20)) && decide (l.length ≤ 18)
theorem short_pure (l : List (List UInt8)) : APure Tryz.prog 23 [strs l] (B (shortB l)) := by
  refine apure_of (rs := [.tmp 2]) Tryz.func23 rfl rfl (Nat.le_of_ble_eq_true rfl) (by simp [AV.pureL, AV.pureB, AV.pureE, pureE_map]) (by first | rfl | (simp [AV.pureL, AV.pureB, AV.pureE, pureE_map])) fun e0 he0 => ?_
  refine aw_seq (aw_region (asr J rfl ?_))
  refine sq_nil (aw_seq (aw_seq (aw_region (asr J rfl (sq_nil (aw_block ?_))))))
  refine aw_loopk (ι := { k : Nat // k ≤ l.length ∧ k ≤ 20 ∧ ∀ i, (h : i < l.length) → i < k → decide (l[i].length ≤ 20) = true }) [0] (fun g => [(3, I g.1)]) (fun H g => H) (fun g => 20 - g.1) (⟨0, Nat.zero_le _, by omega, by omega⟩) ⟨J, J, trivial⟩ rfl ?_
  rintro ⟨k, hk, hok⟩
  dsimp only [keepS, St.put, sget, slotsOf, nn1, nn2, nn3, nn4, nn5, nn6, Nat.reduceBEq, Nat.reduceAdd, nn7, nn8]
  refine aw_seq (aw_seq (aw_region (mvr J rfl (mvs rfl J (sq_ev rfl (ev_len_map sl24 J) ?_)))))
  refine sq_ev rfl (ev_lss J J) ?_
  refine mvr J rfl ?_
  refine sq_split 8 J (fun g2_4 => ?_) (fun g2_4 => ?_)
  · skip
    have g2_4' := g2_4
    try simp only [qq] at g2_4'
    have hkL : k < l.length := by omega
    refine sq_yes rfl rfl (less_b g2_4) rfl (ev_mv (v := .raw _) J) ?_
    refine sq_yes rfl rfl (less_b g2_4) rfl (ev_lss J J) ?_
    refine sq_ev rfl (ev_pickT (v := .raw _) (less_b g2_4) J) ?_
    refine sq_nil ?_
    refine aw_cond J (fun c_11 => ?_) (fun c_11 => ?_)
    · skip
      have c_11' := c_11
      try simp only [qq] at c_11'
      refine aw_skip (aw_seq (aw_block (aw_seq (aw_region (mvs rfl J (mvr J rfl (sq_ev rfl (ev_index_map sl24 J J rfl (by omega)) ?_)))))))
      refine sq_ev rfl (ev_load_i J ty9 rfl) ?_
      refine sq_ev rfl (ev_lenS Tryz.underlying9 J) ?_
      refine sq_ev rfl (ev_gtr J J) ?_
      refine sq_nil ?_
      refine aw_cond J (fun c_19 => ?_) (fun c_19 => ?_)
      · skip
        have c_19' := c_19
        try simp only [qq] at c_19'
        refine aw_seq (aw_region (asr J rfl (sq_nil (aw_ret ?_))))
        exact retQ_pure (v := .raw _) rfl rfl (Less.eq (by rw [shortB, allT_no (i := k) (n := 20) hkL (by omega) (by simp only [decide_eq_false_iff_not]; omega)]; rfl))
      · skip
        have c_19' := c_19
        try simp only [qq] at c_19'
        refine aw_skip (aw_region (mvr J rfl (sq_ev rfl (ev_add J J (wr (by omega) (by omega))) ?_)))
        refine asr J rfl (sq_nil ?_)
        have hgood : decide (l[k].length ≤ 20) = true := by simp only [decide_eq_true_eq]; omega
        exact ⟨⟨k + 1, by omega, by omega, fun i h hi => (by by_cases e : i = k; (subst e; exact hgood); exact hok.2 i h (by omega))⟩, by simp only; omega, Sub.slots ⟨J, J, trivial⟩⟩
    · skip
      have c_11' := c_11
      try simp only [qq] at c_11'
      refine aw_exit (aw_seq (aw_region (mvs rfl J (sq_ev rfl (ev_len_map sl24 J) ?_))))
      refine sq_ev rfl (ev_leq J J) ?_
      refine asr J rfl (sq_nil (aw_ret ?_))
      exact retQ_pure (v := .raw _) rfl rfl (Less.eq (by rw [shortB, allT_yes (n := 20) (fun i h hi => hok.2 i h (by omega))]; simp; omega))
  · skip
    have g2_4' := g2_4
    try simp only [qq] at g2_4'
    refine sq_no rfl rfl (less_b g2_4) rfl rfl ?_
    refine sq_no rfl rfl (less_b g2_4) rfl rfl ?_
    refine sq_ev rfl (ev_pickF (v := .raw _) (less_b g2_4) J) ?_
    refine sq_nil ?_
    refine aw_false J ?_
    refine aw_exit (aw_seq (aw_region (mvs rfl J (sq_ev rfl (ev_len_map sl24 J) ?_))))
    refine sq_ev rfl (ev_leq J J) ?_
    refine asr J rfl (sq_nil (aw_ret ?_))
    exact retQ_pure (v := .raw _) rfl rfl (Less.eq (by rw [shortB, allT_yes (n := 20) (fun i h hi => hok.2 i h (by omega))]; simp; omega))
end Go.Proofs.YtmbknoaneglilaaGreatDoor
namespace Go.Proofs.YtmbknoaneglilaaGreatDoor
open Go Go.Ab Ni Ol
def cntR (ch : UInt8) (r : List UInt8) (k : Nat) : Int := ((r.take k).count ch : Int)
theorem cntR_succ {ch : UInt8} {r : List UInt8} {k : Nat} (h : k < r.length) : cntR ch r (k + 1) = cntR ch r k + (if r[k] = ch then 1 else 0) := by
  unfold cntR; rw [List.take_succ_eq_append_getElem h, List.count_append]
  by_cases e : r[k] = ch
  · rw [if_pos e, e]; simp
  · rw [if_neg e]; simp [List.count_singleton, e]
theorem cntR_bd (ch : UInt8) (r : List UInt8) (k : Nat) : 0 ≤ cntR ch r k ∧ cntR ch r k ≤ k := by
  unfold cntR
  have h1 := List.count_le_length (a := ch) (l := r.take k)
  rw [List.length_take] at h1
  omega
theorem cntR_all (ch : UInt8) (r : List UInt8) : cntR ch r r.length = (r.count ch : Int) := by unfold cntR; rw [List.take_length]
theorem rcount_pure (l : List (List UInt8)) (ch : UInt8) (hl : l.length ≤ 1000) (hr : ∀ r ∈ l, r.length ≤ 1000) : APure Tryz.prog 41 [strs l, C ch] (I (cnt ch l)) := by
  refine apure_of (rs := [.tmp 4]) Tryz.func41 rfl rfl (Nat.le_of_ble_eq_true rfl) (by simp [AV.pureL, AV.pureB, AV.pureE, pureE_map]) (by first | rfl | (simp [AV.pureL, AV.pureB, AV.pureE, pureE_map])) fun e0 he0 => ?_
  refine aw_seq (aw_region (asr J rfl (sq_nil (aw_seq (aw_region (asr J rfl ?_))))))
  refine sq_nil (aw_seq (aw_seq (aw_region (asr J rfl (sq_nil (aw_block ?_))))))
  refine aw_loopk (ι := { m : Nat // m ≤ l.length }) [0, 1] (fun g => [(5, I (cnt ch (l.take g.1))), (6, I g.1)]) (fun H g => H) (fun g => l.length - g.1) (⟨0, Nat.zero_le _⟩) ⟨J, J, J, J, trivial⟩ rfl ?_
  rintro ⟨m, hm⟩
  dsimp only [keepS, St.put, sget, slotsOf, nn1, nn2, nn3, nn4, nn5, nn6, Nat.reduceBEq, Nat.reduceAdd, nn7, nn8]
  have hb := cnt_bd ch (l.take m) 1000 (fun r h => hr r (List.mem_of_mem_take h))
  have hb2 : ((l.take m).length : Int) * (1000 : Nat) ≤ 1000000 := by rw [List.length_take]; omega
  refine aw_seq (aw_seq (aw_region (mvr J rfl (mvs rfl J (sq_ev rfl (ev_len_map sl24 J) ?_)))))
  refine sq_ev rfl (ev_lss J J) ?_
  refine sq_nil ?_
  refine aw_cond J (fun c_11 => ?_) (fun c_11 => ?_)
  · skip
    have c_11' := c_11
    try simp only [qq] at c_11'
    have hmL : m < l.length := by omega
    have hrl := hr _ (List.getElem_mem hmL)
    refine aw_skip (aw_seq (aw_block (aw_seq (aw_region (asr J rfl (sq_nil (aw_block ?_)))))))
    refine aw_loopk (ι := { k : Nat // k ≤ l[m].length }) [0, 1, 6] (fun g => [(5, I (cnt ch (l.take m) + cntR ch l[m] g.1)), (7, I g.1)]) (fun H g => H) (fun g => l[m].length - g.1) (⟨0, Nat.zero_le _⟩) ⟨(by exact less_int (by simp [cntR])), J, J, J, J, trivial⟩ rfl ?_
    rintro ⟨k, hk⟩
    dsimp only [keepS, St.put, sget, slotsOf, nn1, nn2, nn3, nn4, nn5, nn6, Nat.reduceBEq, Nat.reduceAdd, nn7, nn8]
    have hbr := cntR_bd ch l[m] k
    refine aw_seq (aw_seq (aw_region (mvr J rfl (mvs rfl J (mvr J rfl (sq_ev rfl (ev_index_map sl24 J J rfl (by omega)) ?_))))))
    refine sq_ev rfl (ev_load_i J ty9 rfl) ?_
    refine sq_ev rfl (ev_lenS Tryz.underlying9 J) ?_
    refine sq_ev rfl (ev_lss J J) ?_
    refine sq_nil ?_
    refine aw_cond J (fun c_20 => ?_) (fun c_20 => ?_)
    · skip
      have c_20' := c_20
      try simp only [qq] at c_20'
      have hkL : k < l[m].length := by omega
      refine aw_skip (aw_seq (aw_block (aw_seq (aw_region (mvs rfl J (mvr J rfl (sq_ev rfl (ev_index_map sl24 J J rfl (by omega)) ?_)))))))
      refine sq_ev rfl (ev_load_i J ty9 rfl) ?_
      refine mvr J rfl (sq_ev rfl (ev_idxS Tryz.underlying9 J J rfl (by omega)) ?_)
      refine mvr J rfl (sq_ev rfl (ev_eql J J) ?_)
      refine sq_nil ?_
      refine aw_cond J (fun c_30 => ?_) (fun c_30 => ?_)
      · skip
        have c_30' := c_30
        try simp only [qq] at c_30'
        have eR : cntR ch l[m] (k + 1) = cntR ch l[m] k + 1 := by rw [cntR_succ hkL, if_pos (UInt8.toNat_inj.1 (by omega))]
        refine aw_region (mvr J rfl (sq_ev rfl (ev_add J J (wr (by omega) (by omega))) ?_))
        refine asr J rfl (sq_nil (aw_region (mvr J rfl (sq_ev rfl (ev_add J J (wr (by omega) (by omega))) ?_))))
        refine asr J rfl (sq_nil ?_)
        exact ⟨⟨k + 1, by omega⟩, by simp only; omega, Sub.slots ⟨(by exact less_int (by rw [eR]; omega)), J, J, J, J, trivial⟩⟩
      · skip
        have c_30' := c_30
        try simp only [qq] at c_30'
        have eR : cntR ch l[m] (k + 1) = cntR ch l[m] k + 0 := by rw [cntR_succ hkL, if_neg (fun h => c_30' (by rw [h]))]
        refine aw_skip (aw_region (mvr J rfl (sq_ev rfl (ev_add J J (wr (by omega) (by omega))) ?_)))
        refine asr J rfl (sq_nil ?_)
        exact ⟨⟨k + 1, by omega⟩, by simp only; omega, Sub.slots ⟨(by exact less_int (by rw [eR]; omega)), J, J, J, J, trivial⟩⟩
    · skip
      have c_20' := c_20
      try simp only [qq] at c_20'
      obtain rfl : k = l[m].length := by omega
      have eC : cnt ch (l.take m) + cntR ch l[m] l[m].length = cnt ch (l.take (m + 1)) := by rw [cntR_all, cnt_take hmL]
      refine aw_exit (aw_region (mvr J rfl (sq_ev rfl (ev_add J J (wr (by omega) (by omega))) ?_)))
      refine asr J rfl (sq_nil ?_)
      exact ⟨⟨m + 1, by omega⟩, by simp only; omega, Sub.slots ⟨(by exact less_int eC), J, J, J, trivial⟩⟩
  · skip
    have c_11' := c_11
    try simp only [qq] at c_11'
    obtain rfl : m = l.length := by omega
    refine aw_exit (aw_seq (aw_region (mvr J rfl (asr J rfl (sq_nil (aw_ret ?_))))))
    exact retQ_pure (v := .raw _) rfl rfl (Less.eq (by rw [List.take_length]))
theorem samec_pure (a b : List (List UInt8)) (ha : a.length ≤ 1000000) (hb : b.length ≤ 1000000) : APure Tryz.prog 77 [strs a, strs b] (B (decide (a = b))) := by
 refine apure_of (rs := [.tmp 4]) Tryz.func77 rfl rfl (Nat.le_of_ble_eq_true rfl) (by simp [AV.pureL, AV.pureB, AV.pureE, pureE_map]) (by first | rfl | (simp [AV.pureL, AV.pureB, AV.pureE, pureE_map])) fun e0 he0 => ?_
 refine aw_seq (aw_region ?_)
 refine asr J rfl (sq_nil (aw_seq (aw_seq (aw_region (mvs rfl J (sq_ev rfl (ev_len_map sl24 J) ?_))))))
 refine mvs rfl J (sq_ev rfl (ev_len_map sl24 J) ?_)
 refine sq_ev rfl (ev_neq J J) ?_
 refine sq_nil ?_
 refine aw_cond J (fun c_10 => ?_) (fun c_10 => ?_)
 ·
  have c_10' := c_10
  try simp only [qq] at c_10'
  refine aw_seq (aw_region (asr J rfl (sq_nil (aw_ret ?_))))
  exact retQ_pure (v := .raw _) rfl rfl (Less.eq (by rw [decide_eq_false (fun h => by rw [h] at c_10'; exact c_10' rfl)]))
 have c_10' := c_10
 try simp only [qq] at c_10'
 have hlen : a.length = b.length := by omega
 refine aw_skip (aw_seq (aw_seq (aw_region (asr J rfl (sq_nil (aw_block ?_))))))
 refine aw_loopk (ι := { k : Nat // k ≤ a.length ∧ ∀ i, (h1 : i < a.length) → (h2 : i < b.length) → i < k → a[i] = b[i] }) [0, 1] (fun g => [(5, I g.1)]) (fun H g => H) (fun g => a.length - g.1) (⟨0, Nat.zero_le _, by omega⟩) ⟨J, J, J, trivial⟩ rfl ?_
 rintro ⟨k, hk, hok⟩
 dsimp only [keepS, St.put, sget, slotsOf, nn1, nn2, nn3, nn4, nn5, nn6, Nat.reduceBEq, Nat.reduceAdd, nn7, nn8]
 refine aw_seq (aw_seq (aw_region (mvr J rfl (mvs rfl J (sq_ev rfl (ev_len_map sl24 J) ?_)))))
 refine sq_ev rfl (ev_lss J J) ?_
 refine sq_nil ?_
 refine aw_cond J (fun c_14 => ?_) (fun c_14 => ?_)
 ·
  have c_14' := c_14
  try simp only [qq] at c_14'
  have hkL : k < a.length := by omega
  refine aw_skip (aw_seq (aw_block (aw_seq ?_)))
  refine aw_draw 9 mo (by kernel_rfl) ?_
  refine dr_ev rfl (ev_mv (v := .sl _ _) J) ?_
  refine dr_ev rfl (ev_mv (v := .raw _) J) ?_
  refine dr_ev rfl (ev_index_map sl24 J J rfl (by omega)) ?_
  refine dr_ev rfl (ev_load_i J ty9 rfl) ?_
  refine dr_ev rfl (ev_mv (v := .sl _ _) J) ?_
  refine dr_ev rfl (ev_mv (v := .raw _) J) ?_
  refine dr_ev rfl (ev_index_map sl24 J J rfl (by omega)) ?_
  refine dr_ev rfl (ev_load_i J ty9 rfl) ?_
  refine dr_ev rfl (ev_sneS J J) ?_
  refine dr_end (sq_nil ?_)
  refine aw_cond J (fun c_25 => ?_) (fun c_25 => ?_)
  ·
   have c_25' := c_25
   try simp only [qq] at c_25'
   refine aw_seq (aw_region (asr J rfl (sq_nil (aw_ret ?_))))
   exact retQ_pure (v := .raw _) rfl rfl (Less.eq (by rw [decide_eq_false (fun h => by subst h; simp at c_25')]))
  have c_25' := c_25
  try simp only [qq] at c_25'
  refine aw_skip (aw_region (mvr J rfl (sq_ev rfl (ev_add J J (wr (by omega) (by omega))) ?_)))
  refine asr J rfl (sq_nil ?_)
  exact ⟨⟨k + 1, by omega, fun i h1 h2 h => (by by_cases e : i = k; (subst e; simpa using c_25'); exact hok i h1 h2 (by omega))⟩, by simp only; omega, Sub.slots ⟨J, J, J, trivial⟩⟩
 have c_14' := c_14
 try simp only [qq] at c_14'
 have heq : a = b := same_ext hlen fun i h1 h2 => hok i h1 h2 (by omega)
 refine aw_exit (aw_seq (aw_region (asr J rfl (sq_nil (aw_ret ?_)))))
 exact retQ_pure (v := .raw _) rfl rfl (Less.eq (by rw [decide_eq_true heq]))
end Go.Proofs.YtmbknoaneglilaaGreatDoor
namespace Go.Proofs.YtmbknoaneglilaaGreatDoor
open Go Go.Ab Ni Ol
theorem en27 : Ent Tryz.prog 27 := Ent.of Tryz.func27 (by kernel_rfl) rfl
end Go.Proofs.YtmbknoaneglilaaGreatDoor
namespace Go.Proofs.YtmbknoaneglilaaGreatDoor
open Go Go.Ab Ni Ol
theorem un4 : Tryz.prog.underlying 4 = some .bool := by kernel_rfl
end Go.Proofs.YtmbknoaneglilaaGreatDoor
namespace Go.Proofs.YtmbknoaneglilaaGreatDoor
open Go Go.Ab Ni Ol
theorem less_bo {a b : Bool} (h : a = b) : Less (B a) (B b) := Less.eq (by rw [h])
end Go.Proofs.YtmbknoaneglilaaGreatDoor
namespace Go.Proofs.YtmbknoaneglilaaGreatDoor
open Go Go.Ab Ni Ol
theorem en130 : Ent Tryz.prog 130 := Ent.of Tryz.func130 (by kernel_rfl) rfl
theorem en139 : Ent Tryz.prog 139 := Ent.of Tryz.func139 (by kernel_rfl) rfl
theorem en76 : Ent Tryz.prog 76 := Ent.of Tryz.func76 (by kernel_rfl) rfl
theorem aw_join {c : Ctx} {Q : AExit → St → Prop} {s : St} (V : List (Nat × AV)) (ks : List Nat) {a b : Code} (ha : AWP c a (AExit.then (fun s' => LessS s'.sl (V ++ keepS s.sl ks) ∧ s'.H = s.H ∧ s'.df = s.df) Q) s)
    (hb : AWP c b Q ⟨V ++ keepS s.sl ks, s.H, s.df⟩) : AWP c a (AExit.then (AWP c b Q) Q) s := by
  refine AWP.mono ha fun ax s' h => ?_
  cases ax with
  | normal =>
    obtain ⟨h1, h2, h3⟩ := h
    have h4 := aw_less (s := s') (Q := Q) (code := b) _ h1.all (by rw [h2, h3]; exact hb)
    exact h4
  | _ => exact h
theorem mul2 {a b A B : Int} (h1 : -A ≤ a ∧ a ≤ A) (h2 : -B ≤ b ∧ b ≤ B) : -(A * B) ≤ a * b ∧ a * b ≤ A * B := mulb h1.1 h1.2 h2.1 h2.2
theorem dkR_succ' {c : Ca} {k m : Int} {j n : Nat} : c.dkR k m j (n + 1) = (c.dkR k m j n && (c.skp k m j n || c.chD j n)) := c.dkR_succ k m j n
theorem ltR_succ' {c : Ca} {k m : Int} {j n : Nat} : c.ltR k m j (n + 1) = (c.ltR k m j n && (c.skp k m j n || !c.chD j n)) := c.ltR_succ k m j n
theorem inE_bys (n : Nat) (l : List UInt8) : AV.inE n (l.map fun x => [C x]) = true := inE_map fun x _ => by simp [AV.inL, AV.inB]
theorem bys_back (l : List UInt8) : ((l.map fun x => ((x.toNat : Nat) : Int)).map fun n => UInt8.ofNat n.toNat) = l := by
  rw [List.map_map]
  conv => rhs; rw [← List.map_id l]
  exact List.map_congr_left fun x _ => by simp
theorem bys_ints (l : List UInt8) : AV.sl 1 (l.map fun x => [C x]) = AV.sl 1 ((l.map fun x => ((x.toNat : Nat) : Int)).map fun n => [.raw (.int .u8 n)]) := by rw [List.map_map]; rfl
theorem rline_pure {c : Ca} (hc : CaB c) {a x : Int} (ha : 0 ≤ a ∧ a ≤ 16) (hx : -40 ≤ x ∧ x ≤ 40) : APure Tryz.prog 130 [I a, I c.s.far, I c.p.near, I x] (I (c.ln a x)) := by
  refine apure_of (rs := [.tmp 8]) Tryz.func130 rfl rfl (Nat.le_of_ble_eq_true rfl) (by simp [AV.pureL, AV.pureB, AV.pureE, pureE_map]) (by first | rfl | (simp [AV.pureL, AV.pureB, AV.pureE, pureE_map])) fun e0 he0 => ?_
  have h1 := hc.st
  have h2 := hc.pc
  have m1 := mul2 (a := a) (b := c.s.far - c.p.near) (A := 16) (B := 40) (by omega) (by omega)
  have m2 := mul2 (a := x - a) (b := c.s.far) (A := 60) (B := 40) (by omega) (by omega)
  refine aw_seq (aw_region (asr J rfl ?_))
  refine sq_nil (aw_seq (aw_region (mvr J rfl (mvr J rfl (mvr J rfl (sq_ev rfl (ev_sub J J (wr (by omega) (by omega))) ?_))))))
  refine sq_ev rfl (ev_mul J J (wr (by omega) (by omega))) ?_
  refine mvr J rfl (mvr J rfl (sq_ev rfl (ev_sub J J (wr (by omega) (by omega))) ?_))
  refine mvr J rfl (sq_ev rfl (ev_mul J J (wr (by omega) (by omega))) ?_)
  refine sq_ev rfl (ev_add J J (wr (by omega) (by omega))) ?_
  refine asr J rfl (sq_nil (aw_ret ?_))
  exact retQ_pure (v := .raw _) rfl rfl J
theorem shade_pure {c : Ca} (hc : CaB c) {k m : Int} (hk : -20 ≤ k ∧ k ≤ 20) (hm : -20 ≤ m ∧ m ≤ 20) : APure Tryz.prog 139 [stA c.s, fgA c.f, pcA c.p, I k, I m] (C (c.cell k m)) := by
 refine apure_of (rs := [.tmp 10]) Tryz.func139 rfl rfl (Nat.le_of_ble_eq_true rfl) (by simp [AV.pureL, AV.pureB, AV.pureE, pureE_map]) (by first | rfl | (simp [AV.pureL, AV.pureB, AV.pureE, pureE_map])) fun e0 he0 => ?_
 have h1 := hc.st
 have h2 := hc.pc
 have h3 := hc.fg
 have h4 := hc.w
 have hb := blur_bd hc
 have hpos : 0 < c.f.length := by omega
 have hw0 := w0_eq hpos
 have m1 := mul2 (a := k) (b := c.s.far - c.p.near) (A := 21) (B := 40) (by omega) (by omega)
 have m2 := mul2 (a := k + 1) (b := c.s.far - c.p.near) (A := 21) (B := 40) (by omega) (by omega)
 have m3 := mul2 (a := m) (b := c.s.far - c.p.near) (A := 21) (B := 40) (by omega) (by omega)
 have m4 := mul2 (a := m + 1) (b := c.s.far - c.p.near) (A := 21) (B := 40) (by omega) (by omega)
 refine aw_seq (aw_region (sq_box rfl J rfl (sq_box rfl J rfl (sq_box rfl J rfl (asr J rfl (sq_nil (aw_seq ?_)))))))
 refine aw_draw 12 mo (by kernel_rfl) ?_
 refine dr_ev rfl (ev_fieldAddr fo23_2 J) ?_
 refine dr_ev rfl (ev_load J rfl ty3 rfl) ?_
 refine dr_ev rfl (ev_fieldAddr fo28_0 J) ?_
 refine dr_ev rfl (ev_load J rfl ty3 rfl) ?_
 refine dr_ev rfl (ev_sub J J (wr (by omega) (by omega))) ?_
 refine dr_ev rfl (ev_fieldAddr fo23_3 J) ?_
 refine dr_ev rfl (ev_load J rfl ty3 rfl) ?_
 refine dr_ev rfl (ev_fieldAddr fo28_0 J) ?_
 refine dr_ev rfl (ev_load J rfl ty3 rfl) ?_
 refine dr_ev rfl (ev_mul J J (wr (by omega) (by omega))) ?_
 refine dr_ev rfl (ev_as (v := .raw _) J) ?_
 refine dr_ev rfl (ev_as (v := .raw _) J) ?_
 refine dr_end (sq_nil (aw_seq (aw_region (mvr J rfl (mvr J rfl (sq_ev rfl (ev_mul J J (wr (by omega) (by omega))) ?_))))))
 refine mvr J rfl (sq_ev rfl (ev_sub J J (wr (by omega) (by omega))) ?_)
 refine mvr J rfl (sq_ev rfl (ev_add J J (wr (by omega) (by omega))) ?_)
 refine mvr J rfl (sq_ev rfl (ev_mul J J (wr (by omega) (by omega))) ?_)
 refine mvr J rfl (sq_ev rfl (ev_add J J (wr (by omega) (by omega))) ?_)
 refine asr J rfl ?_
 refine asr J rfl (sq_nil (aw_seq (aw_region (mvr J rfl (mvr J rfl (sq_ev rfl (ev_mul J J (wr (by omega) (by omega))) ?_))))))
 refine mvr J rfl (sq_ev rfl (ev_sub J J (wr (by omega) (by omega))) ?_)
 refine mvr J rfl (sq_ev rfl (ev_add J J (wr (by omega) (by omega))) ?_)
 refine mvr J rfl (sq_ev rfl (ev_mul J J (wr (by omega) (by omega))) ?_)
 refine mvr J rfl (sq_ev rfl (ev_add J J (wr (by omega) (by omega))) ?_)
 refine asr J rfl (asr J rfl (sq_nil (aw_seq ?_)))
 refine aw_draw 10 mo (by kernel_rfl) ?_
 refine dr_ev rfl (ev_fieldAddr fo26_0 J) ?_
 refine dr_ev rfl (ev_load J rfl ty24 rfl) ?_
 refine dr_ev rfl (ev_index_map (k := 0) sl24 J J rfl (by omega)) ?_
 refine dr_ev rfl (ev_load_i J ty9 rfl) ?_
 refine dr_ev rfl (ev_less (ev_lenS Tryz.underlying9 J) (Less.eq (b := I ((w0 c.f : Nat) : Int)) (by rw [hw0]))) ?_
 refine dr_ev rfl (ev_fieldAddr fo26_0 J) ?_
 refine dr_ev rfl (ev_load J rfl ty24 rfl) ?_
 refine dr_ev rfl (ev_len_map sl24 J) ?_
 refine dr_ev rfl (ev_as (v := .raw _) J) ?_
 refine dr_ev rfl (ev_as (v := .raw _) J) ?_
 refine dr_end (sq_nil (aw_seq ?_))
 refine aw_join [(19, B (c.dk0 k m))] [5, 6, 7, 13, 14, 15, 16, 17, 18] ?_ ?_
 ·
  refine aw_region (sq_ev rfl (ev_fieldAddr fo23_4 J) ?_)
  refine sq_ev rfl (ev_load J rfl ty3 rfl) ?_
  refine sq_ev rfl (ev_fieldAddr fo23_2 J) ?_
  refine sq_ev rfl (ev_load J rfl ty3 rfl) ?_
  refine sq_ev rfl (ev_fieldAddr fo28_0 J) ?_
  refine sq_ev rfl (ev_load J rfl ty3 rfl) ?_
  refine sq_ev rfl (ev_fieldAddr fo28_1 J) ?_
  refine sq_ev rfl (ev_load J rfl ty3 rfl) ?_
  refine sq_ev rfl (ev_call en130 J (rline_pure hc (by omega) (by omega)) ⟨J, J, J, J, trivial⟩) ?_
  refine mvr J rfl (sq_ev rfl (ev_leq J J) ?_)
  refine mvr J rfl ?_
  refine sq_split 74 J (fun g5_11 => ?_) (fun g5_11 => ?_)
  ·
   have g5_11' := g5_11
   try simp only [qq] at g5_11'
   refine sq_yes rfl rfl (less_b g5_11) rfl (ev_fieldAddr fo23_4 J) ?_
   refine sq_yes rfl rfl (less_b g5_11) rfl (ev_load J rfl ty3 rfl) ?_
   refine sq_yes rfl rfl (less_b g5_11) rfl (ev_fieldAddr fo23_2 J) ?_
   refine sq_yes rfl rfl (less_b g5_11) rfl (ev_load J rfl ty3 rfl) ?_
   refine sq_yes rfl rfl (less_b g5_11) rfl (ev_fieldAddr fo28_0 J) ?_
   refine sq_yes rfl rfl (less_b g5_11) rfl (ev_load J rfl ty3 rfl) ?_
   refine sq_yes rfl rfl (less_b g5_11) rfl (ev_fieldAddr fo28_1 J) ?_
   refine sq_yes rfl rfl (less_b g5_11) rfl (ev_load J rfl ty3 rfl) ?_
   refine sq_yes rfl rfl (less_b g5_11) rfl (ev_mv (v := .raw _) J) ?_
   refine sq_yes rfl rfl (less_b g5_11) rfl (ev_add J J (wr (by omega) (by omega))) ?_
   refine sq_yes rfl rfl (less_b g5_11) rfl (ev_call en130 J (rline_pure hc (by omega) (by omega)) ⟨J, J, J, J, trivial⟩) ?_
   refine sq_yes rfl rfl (less_b g5_11) rfl (ev_mv (v := .raw _) J) ?_
   refine sq_yes rfl rfl (less_b g5_11) rfl (ev_geq J J) ?_
   refine sq_ev rfl (ev_pickT (v := .raw _) (less_b g5_11) J) ?_
   refine mvr J rfl ?_
   refine sq_split 89 J (fun g5_26 => ?_) (fun g5_26 => ?_)
   ·
    have g5_26' := g5_26
    try simp only [qq] at g5_26'
    refine sq_yes rfl rfl (less_b g5_26) rfl (ev_fieldAddr fo23_5 J) ?_
    refine sq_yes rfl rfl (less_b g5_26) rfl (ev_load J rfl ty3 rfl) ?_
    refine sq_yes rfl rfl (less_b g5_26) rfl (ev_fieldAddr fo23_2 J) ?_
    refine sq_yes rfl rfl (less_b g5_26) rfl (ev_load J rfl ty3 rfl) ?_
    refine sq_yes rfl rfl (less_b g5_26) rfl (ev_fieldAddr fo28_0 J) ?_
    refine sq_yes rfl rfl (less_b g5_26) rfl (ev_load J rfl ty3 rfl) ?_
    refine sq_yes rfl rfl (less_b g5_26) rfl (ev_fieldAddr fo28_2 J) ?_
    refine sq_yes rfl rfl (less_b g5_26) rfl (ev_load J rfl ty3 rfl) ?_
    refine sq_yes rfl rfl (less_b g5_26) rfl (ev_call en130 J (rline_pure hc (by omega) (by omega)) ⟨J, J, J, J, trivial⟩) ?_
    refine sq_yes rfl rfl (less_b g5_26) rfl (ev_mv (v := .raw _) J) ?_
    refine sq_yes rfl rfl (less_b g5_26) rfl (ev_leq J J) ?_
    refine sq_ev rfl (ev_pickT (v := .raw _) (less_b g5_26) J) ?_
    refine mvr J rfl ?_
    refine sq_split 102 J (fun g5_39 => ?_) (fun g5_39 => ?_)
    ·
     have g5_39' := g5_39
     try simp only [qq] at g5_39'
     refine sq_yes rfl rfl (less_b g5_39) rfl (ev_fieldAddr fo23_5 J) ?_
     refine sq_yes rfl rfl (less_b g5_39) rfl (ev_load J rfl ty3 rfl) ?_
     refine sq_yes rfl rfl (less_b g5_39) rfl (ev_fieldAddr fo23_2 J) ?_
     refine sq_yes rfl rfl (less_b g5_39) rfl (ev_load J rfl ty3 rfl) ?_
     refine sq_yes rfl rfl (less_b g5_39) rfl (ev_fieldAddr fo28_0 J) ?_
     refine sq_yes rfl rfl (less_b g5_39) rfl (ev_load J rfl ty3 rfl) ?_
     refine sq_yes rfl rfl (less_b g5_39) rfl (ev_fieldAddr fo28_2 J) ?_
     refine sq_yes rfl rfl (less_b g5_39) rfl (ev_load J rfl ty3 rfl) ?_
     refine sq_yes rfl rfl (less_b g5_39) rfl (ev_mv (v := .raw _) J) ?_
     refine sq_yes rfl rfl (less_b g5_39) rfl (ev_add J J (wr (by omega) (by omega))) ?_
     refine sq_yes rfl rfl (less_b g5_39) rfl (ev_call en130 J (rline_pure hc (by omega) (by omega)) ⟨J, J, J, J, trivial⟩) ?_
     refine sq_yes rfl rfl (less_b g5_39) rfl (ev_mv (v := .raw _) J) ?_
     refine sq_yes rfl rfl (less_b g5_39) rfl (ev_geq J J) ?_
     refine sq_ev rfl (ev_pickT (v := .raw _) (less_b g5_39) J) ?_
     refine asr J rfl (sq_nil ?_)
     exact ⟨⟨(by exact less_bo (by unfold Ca.dk0 Ca.eL Ca.eR; first | rfl | (simp_all; done) | (simp_all; intros; omega))), J, J, J, J, J, J, J, J, J, trivial⟩, rfl, rfl⟩
    have g5_39' := g5_39
    try simp only [qq] at g5_39'
    refine sq_no rfl rfl (less_b g5_39) rfl rfl ?_
    refine sq_no rfl rfl (less_b g5_39) rfl rfl ?_
    refine sq_no rfl rfl (less_b g5_39) rfl rfl ?_
    refine sq_no rfl rfl (less_b g5_39) rfl rfl ?_
    refine sq_no rfl rfl (less_b g5_39) rfl rfl ?_
    refine sq_no rfl rfl (less_b g5_39) rfl rfl ?_
    refine sq_no rfl rfl (less_b g5_39) rfl rfl ?_
    refine sq_no rfl rfl (less_b g5_39) rfl rfl ?_
    refine sq_no rfl rfl (less_b g5_39) rfl rfl ?_
    refine sq_no rfl rfl (less_b g5_39) rfl rfl ?_
    refine sq_no rfl rfl (less_b g5_39) rfl rfl ?_
    refine sq_no rfl rfl (less_b g5_39) rfl rfl ?_
    refine sq_no rfl rfl (less_b g5_39) rfl rfl ?_
    refine sq_ev rfl (ev_pickF (v := .raw _) (less_b g5_39) J) ?_
    refine asr J rfl (sq_nil ?_)
    exact ⟨⟨(by exact less_bo (by unfold Ca.dk0 Ca.eL Ca.eR; first | rfl | (simp_all; done) | (simp_all; intros; omega))), J, J, J, J, J, J, J, J, J, trivial⟩, rfl, rfl⟩
   have g5_26' := g5_26
   try simp only [qq] at g5_26'
   refine sq_no rfl rfl (less_b g5_26) rfl rfl ?_
   refine sq_no rfl rfl (less_b g5_26) rfl rfl ?_
   refine sq_no rfl rfl (less_b g5_26) rfl rfl ?_
   refine sq_no rfl rfl (less_b g5_26) rfl rfl ?_
   refine sq_no rfl rfl (less_b g5_26) rfl rfl ?_
   refine sq_no rfl rfl (less_b g5_26) rfl rfl ?_
   refine sq_no rfl rfl (less_b g5_26) rfl rfl ?_
   refine sq_no rfl rfl (less_b g5_26) rfl rfl ?_
   refine sq_no rfl rfl (less_b g5_26) rfl rfl ?_
   refine sq_no rfl rfl (less_b g5_26) rfl rfl ?_
   refine sq_no rfl rfl (less_b g5_26) rfl rfl ?_
   refine sq_ev rfl (ev_pickF (v := .raw _) (less_b g5_26) J) ?_
   refine mvr J rfl (sq_no rfl rfl J rfl rfl (sq_no rfl rfl J rfl rfl ?_))
   refine sq_no rfl rfl J rfl rfl (sq_no rfl rfl J rfl rfl (sq_no rfl rfl J rfl rfl (sq_no rfl rfl J rfl rfl (sq_no rfl rfl J rfl rfl (sq_no rfl rfl J rfl rfl (sq_no rfl rfl J rfl rfl ?_))))))
   refine sq_no rfl rfl J rfl rfl (sq_no rfl rfl J rfl rfl (sq_no rfl rfl J rfl rfl (sq_no rfl rfl J rfl rfl (pf rfl J J (asr J rfl (sq_nil ?_))))))
   exact ⟨⟨(by exact less_bo (by unfold Ca.dk0 Ca.eL Ca.eR; first | rfl | (simp_all; done) | (simp_all; intros; omega))), J, J, J, J, J, J, J, J, J, trivial⟩, rfl, rfl⟩
  have g5_11' := g5_11
  try simp only [qq] at g5_11'
  refine sq_no rfl rfl (less_b g5_11) rfl rfl ?_
  refine sq_no rfl rfl (less_b g5_11) rfl rfl ?_
  refine sq_no rfl rfl (less_b g5_11) rfl rfl ?_
  refine sq_no rfl rfl (less_b g5_11) rfl rfl ?_
  refine sq_no rfl rfl (less_b g5_11) rfl rfl ?_
  refine sq_no rfl rfl (less_b g5_11) rfl rfl ?_
  refine sq_no rfl rfl (less_b g5_11) rfl rfl ?_
  refine sq_no rfl rfl (less_b g5_11) rfl rfl ?_
  refine sq_no rfl rfl (less_b g5_11) rfl rfl ?_
  refine sq_no rfl rfl (less_b g5_11) rfl rfl ?_
  refine sq_no rfl rfl (less_b g5_11) rfl rfl ?_
  refine sq_no rfl rfl (less_b g5_11) rfl rfl ?_
  refine sq_no rfl rfl (less_b g5_11) rfl rfl ?_
  refine sq_ev rfl (ev_pickF (v := .raw _) (less_b g5_11) J) ?_
  refine mvr J rfl (sq_no rfl rfl J rfl rfl ?_)
  refine sq_no rfl rfl J rfl rfl (sq_no rfl rfl J rfl rfl (sq_no rfl rfl J rfl rfl (sq_no rfl rfl J rfl rfl (sq_no rfl rfl J rfl rfl (sq_no rfl rfl J rfl rfl (sq_no rfl rfl J rfl rfl ?_))))))
  refine sq_no rfl rfl J rfl rfl (sq_no rfl rfl J rfl rfl (sq_no rfl rfl J rfl rfl (pf rfl J J (mvr J rfl (sq_no rfl rfl J rfl rfl (sq_no rfl rfl J rfl rfl ?_))))))
  refine sq_no rfl rfl J rfl rfl (sq_no rfl rfl J rfl rfl (sq_no rfl rfl J rfl rfl (sq_no rfl rfl J rfl rfl (sq_no rfl rfl J rfl rfl (sq_no rfl rfl J rfl rfl (sq_no rfl rfl J rfl rfl ?_))))))
  refine sq_no rfl rfl J rfl rfl (sq_no rfl rfl J rfl rfl (sq_no rfl rfl J rfl rfl (sq_no rfl rfl J rfl rfl (pf rfl J J (asr J rfl (sq_nil ?_))))))
  exact ⟨⟨(by exact less_bo (by unfold Ca.dk0 Ca.eL Ca.eR; first | rfl | (simp_all; done) | (simp_all; intros; omega))), J, J, J, J, J, J, J, J, J, trivial⟩, rfl, rfl⟩
 dsimp only [keepS, St.put, sget, slotsOf, nn1, nn2, nn3, nn4, nn5, nn6, Nat.reduceBEq, Nat.reduceAdd, nn7, nn8]
 refine aw_seq (aw_region (asr J rfl ?_))
 refine sq_nil (aw_seq (aw_seq (aw_region (asr J rfl (sq_nil (aw_block ?_))))))
 refine aw_loopk (ι := { j : Nat // j ≤ c.f.length }) [5, 6, 7, 13, 14, 15, 16, 17, 18] (fun g => [(19, B (c.dk0 k m && c.dkA k m g.1)), (20, B (c.ltA k m g.1)), (21, I g.1)]) (fun H g => H) (fun g => c.f.length - g.1) (⟨0, Nat.zero_le _⟩) ⟨(by exact less_bo (by simp [Ca.dkA])), (by exact less_bo (by simp [Ca.ltA])), J, J, J, J, J, J, J, J, J, J, trivial⟩ rfl ?_
 rintro ⟨j, hj⟩
 dsimp only [keepS, St.put, sget, slotsOf, nn1, nn2, nn3, nn4, nn5, nn6, Nat.reduceBEq, Nat.reduceAdd, nn7, nn8]
 refine aw_seq (aw_seq (aw_region (mvr J rfl (mvr J rfl (sq_ev rfl (ev_lss J J) ?_)))))
 refine sq_nil ?_
 refine aw_cond J (fun c_119 => ?_) (fun c_119 => ?_)
 ·
  have c_119' := c_119
  try simp only [qq] at c_119'
  have hjL : j < c.f.length := by omega
  have hrow := hc.row j hjL
  refine aw_skip (aw_seq (aw_block (aw_seq (aw_region (asr J rfl (sq_nil (aw_block ?_)))))))
  refine aw_loopk (ι := { i : Nat // i ≤ w0 c.f }) [5, 6, 7, 13, 14, 15, 16, 17, 18, 21] (fun g => [(19, B (c.dk0 k m && c.dkA k m j && c.dkR k m j g.1)), (20, B (c.ltA k m j && c.ltR k m j g.1)), (22, I g.1)]) (fun H g => H) (fun g => w0 c.f - g.1) (⟨0, Nat.zero_le _⟩) ⟨(by exact less_bo (by simp [Ca.dkR])), (by exact less_bo (by simp [Ca.ltR])), J, J, J, J, J, J, J, J, J, J, J, trivial⟩ rfl ?_
  rintro ⟨i, hi⟩
  dsimp only [keepS, St.put, sget, slotsOf, nn1, nn2, nn3, nn4, nn5, nn6, Nat.reduceBEq, Nat.reduceAdd, nn7, nn8]
  refine aw_seq (aw_seq (aw_region (mvr J rfl (mvr J rfl (sq_ev rfl (ev_lss J J) ?_)))))
  refine sq_nil ?_
  refine aw_cond J (fun c_124 => ?_) (fun c_124 => ?_)
  ·
   have c_124' := c_124
   try simp only [qq] at c_124'
   have hiL : i < c.f[j].length := by omega
   have hiw : i < w0 c.f := by omega
   refine aw_skip (aw_seq (aw_block (aw_seq (aw_seq (aw_region (sq_ev rfl (ev_fieldAddr fo23_4 J) ?_))))))
   refine sq_ev rfl (ev_load J rfl ty3 rfl) ?_
   refine sq_ev rfl (ev_fieldAddr fo23_2 J) ?_
   refine sq_ev rfl (ev_load J rfl ty3 rfl) ?_
   refine sq_ev rfl (ev_fieldAddr fo28_0 J) ?_
   refine sq_ev rfl (ev_load J rfl ty3 rfl) ?_
   refine sq_ev rfl (ev_fieldAddr fo28_1 J) ?_
   refine sq_ev rfl (ev_load J rfl ty3 rfl) ?_
   refine mvr J rfl (sq_ev rfl (ev_add J J (wr (by omega) (by omega))) ?_)
   refine sq_ev rfl (ev_call en130 J (rline_pure hc (by omega) (by omega)) ⟨J, J, J, J, trivial⟩) ?_
   refine mvr J rfl (sq_ev rfl (ev_geq J J) ?_)
   refine mvr J rfl ?_
   refine sq_split 140 J (fun g13_13 => ?_) (fun g13_13 => ?_)
   ·
    have g13_13' := g13_13
    try simp only [qq] at g13_13'
    have hs : c.skp k m j i = true := by unfold Ca.skp; simp only [Bool.or_eq_true]; exact .inl g13_13
    have eD : (c.dk0 k m && c.dkA k m j && c.dkR k m j i) = (c.dk0 k m && c.dkA k m j && c.dkR k m j (i + 1)) := by rw [dkR_succ', hs]; simp
    have eLt : (c.ltA k m j && c.ltR k m j i) = (c.ltA k m j && c.ltR k m j (i + 1)) := by rw [ltR_succ', hs]; simp
    refine sq_no rfl rfl (less_b g13_13) rfl rfl ?_
    refine sq_no rfl rfl (less_b g13_13) rfl rfl ?_
    refine sq_no rfl rfl (less_b g13_13) rfl rfl ?_
    refine sq_no rfl rfl (less_b g13_13) rfl rfl ?_
    refine sq_no rfl rfl (less_b g13_13) rfl rfl ?_
    refine sq_no rfl rfl (less_b g13_13) rfl rfl ?_
    refine sq_no rfl rfl (less_b g13_13) rfl rfl ?_
    refine sq_no rfl rfl (less_b g13_13) rfl rfl ?_
    refine sq_no rfl rfl (less_b g13_13) rfl rfl ?_
    refine sq_no rfl rfl (less_b g13_13) rfl rfl ?_
    refine sq_no rfl rfl (less_b g13_13) rfl rfl ?_
    refine sq_no rfl rfl (less_b g13_13) rfl rfl ?_
    refine sq_no rfl rfl (less_b g13_13) rfl rfl ?_
    refine sq_no rfl rfl (less_b g13_13) rfl rfl ?_
    refine sq_ev rfl (ev_pickT (v := .raw _) (less_b g13_13) J) ?_
    refine mvr J rfl ?_
    refine sq_no rfl rfl J rfl rfl (sq_no rfl rfl J rfl rfl (sq_no rfl rfl J rfl rfl (sq_no rfl rfl J rfl rfl (sq_no rfl rfl J rfl rfl (sq_no rfl rfl J rfl rfl (sq_no rfl rfl J rfl rfl ?_))))))
    refine sq_no rfl rfl J rfl rfl (sq_no rfl rfl J rfl rfl (sq_no rfl rfl J rfl rfl (sq_no rfl rfl J rfl rfl (sq_no rfl rfl J rfl rfl (sq_no rfl rfl J rfl rfl (sq_ev rfl (ev_pickT (v := .raw _) J J) ?_))))))
    refine mvr J rfl (sq_no rfl rfl J rfl rfl ?_)
    refine sq_no rfl rfl J rfl rfl (sq_no rfl rfl J rfl rfl (sq_no rfl rfl J rfl rfl (sq_no rfl rfl J rfl rfl (sq_no rfl rfl J rfl rfl (sq_no rfl rfl J rfl rfl (sq_no rfl rfl J rfl rfl ?_))))))
    refine sq_no rfl rfl J rfl rfl (sq_no rfl rfl J rfl rfl (sq_no rfl rfl J rfl rfl (sq_no rfl rfl J rfl rfl (sq_no rfl rfl J rfl rfl (sq_no rfl rfl J rfl rfl (sq_ev rfl (ev_pickT (v := .raw _) J J) ?_))))))
    refine sq_nil ?_
    refine aw_true J ?_
    refine aw_exit (aw_region (mvr J rfl (sq_ev rfl (ev_add J J (wr (by omega) (by omega))) ?_)))
    refine asr J rfl (sq_nil ?_)
    exact ⟨⟨i + 1, by omega⟩, by simp only; omega, Sub.slots ⟨(by exact less_bo eD), (by exact less_bo eLt), J, J, J, J, J, J, J, J, J, J, J, trivial⟩⟩
   have g13_13' := g13_13
   try simp only [qq] at g13_13'
   refine sq_yes rfl rfl (less_b g13_13) rfl (ev_fieldAddr fo23_4 J) ?_
   refine sq_yes rfl rfl (less_b g13_13) rfl (ev_load J rfl ty3 rfl) ?_
   refine sq_yes rfl rfl (less_b g13_13) rfl (ev_fieldAddr fo23_2 J) ?_
   refine sq_yes rfl rfl (less_b g13_13) rfl (ev_load J rfl ty3 rfl) ?_
   refine sq_yes rfl rfl (less_b g13_13) rfl (ev_fieldAddr fo28_0 J) ?_
   refine sq_yes rfl rfl (less_b g13_13) rfl (ev_load J rfl ty3 rfl) ?_
   refine sq_yes rfl rfl (less_b g13_13) rfl (ev_fieldAddr fo28_1 J) ?_
   refine sq_yes rfl rfl (less_b g13_13) rfl (ev_load J rfl ty3 rfl) ?_
   refine sq_yes rfl rfl (less_b g13_13) rfl (ev_mv (v := .raw _) J) ?_
   refine sq_yes rfl rfl (less_b g13_13) rfl (ev_add J J (wr (by omega) (by omega))) ?_
   refine sq_yes rfl rfl (less_b g13_13) rfl (ev_add J J (wr (by omega) (by omega))) ?_
   refine sq_yes rfl rfl (less_b g13_13) rfl (ev_call en130 J (rline_pure hc (by omega) (by omega)) ⟨J, J, J, J, trivial⟩) ?_
   refine sq_yes rfl rfl (less_b g13_13) rfl (ev_mv (v := .raw _) J) ?_
   refine sq_yes rfl rfl (less_b g13_13) rfl (ev_leq J J) ?_
   refine sq_ev rfl (ev_pickF (v := .raw _) (less_b g13_13) J) ?_
   refine mvr J rfl ?_
   refine sq_split 156 J (fun g13_29 => ?_) (fun g13_29 => ?_)
   ·
    have g13_29' := g13_29
    try simp only [qq] at g13_29'
    have hs : c.skp k m j i = true := by unfold Ca.skp; simp only [Bool.or_eq_true]; exact .inr (.inl g13_29)
    have eD : (c.dk0 k m && c.dkA k m j && c.dkR k m j i) = (c.dk0 k m && c.dkA k m j && c.dkR k m j (i + 1)) := by rw [dkR_succ', hs]; simp
    have eLt : (c.ltA k m j && c.ltR k m j i) = (c.ltA k m j && c.ltR k m j (i + 1)) := by rw [ltR_succ', hs]; simp
    refine sq_no rfl rfl (less_b g13_29) rfl rfl ?_
    refine sq_no rfl rfl (less_b g13_29) rfl rfl ?_
    refine sq_no rfl rfl (less_b g13_29) rfl rfl ?_
    refine sq_no rfl rfl (less_b g13_29) rfl rfl ?_
    refine sq_no rfl rfl (less_b g13_29) rfl rfl ?_
    refine sq_no rfl rfl (less_b g13_29) rfl rfl ?_
    refine sq_no rfl rfl (less_b g13_29) rfl rfl ?_
    refine sq_no rfl rfl (less_b g13_29) rfl rfl ?_
    refine sq_no rfl rfl (less_b g13_29) rfl rfl ?_
    refine sq_no rfl rfl (less_b g13_29) rfl rfl ?_
    refine sq_no rfl rfl (less_b g13_29) rfl rfl ?_
    refine sq_no rfl rfl (less_b g13_29) rfl rfl ?_
    refine sq_no rfl rfl (less_b g13_29) rfl rfl ?_
    refine sq_ev rfl (ev_pickT (v := .raw _) (less_b g13_29) J) ?_
    refine mvr J rfl (sq_no rfl rfl J rfl rfl ?_)
    refine sq_no rfl rfl J rfl rfl (sq_no rfl rfl J rfl rfl (sq_no rfl rfl J rfl rfl (sq_no rfl rfl J rfl rfl (sq_no rfl rfl J rfl rfl (sq_no rfl rfl J rfl rfl (sq_no rfl rfl J rfl rfl ?_))))))
    refine sq_no rfl rfl J rfl rfl (sq_no rfl rfl J rfl rfl (sq_no rfl rfl J rfl rfl (sq_no rfl rfl J rfl rfl (sq_no rfl rfl J rfl rfl (sq_no rfl rfl J rfl rfl (sq_ev rfl (ev_pickT (v := .raw _) J J) ?_))))))
    refine sq_nil ?_
    refine aw_true J ?_
    refine aw_exit (aw_region (mvr J rfl (sq_ev rfl (ev_add J J (wr (by omega) (by omega))) ?_)))
    refine asr J rfl (sq_nil ?_)
    exact ⟨⟨i + 1, by omega⟩, by simp only; omega, Sub.slots ⟨(by exact less_bo eD), (by exact less_bo eLt), J, J, J, J, J, J, J, J, J, J, J, trivial⟩⟩
   have g13_29' := g13_29
   try simp only [qq] at g13_29'
   refine sq_yes rfl rfl (less_b g13_29) rfl (ev_fieldAddr fo23_5 J) ?_
   refine sq_yes rfl rfl (less_b g13_29) rfl (ev_load J rfl ty3 rfl) ?_
   refine sq_yes rfl rfl (less_b g13_29) rfl (ev_fieldAddr fo23_2 J) ?_
   refine sq_yes rfl rfl (less_b g13_29) rfl (ev_load J rfl ty3 rfl) ?_
   refine sq_yes rfl rfl (less_b g13_29) rfl (ev_fieldAddr fo28_0 J) ?_
   refine sq_yes rfl rfl (less_b g13_29) rfl (ev_load J rfl ty3 rfl) ?_
   refine sq_yes rfl rfl (less_b g13_29) rfl (ev_fieldAddr fo28_2 J) ?_
   refine sq_yes rfl rfl (less_b g13_29) rfl (ev_load J rfl ty3 rfl) ?_
   refine sq_yes rfl rfl (less_b g13_29) rfl (ev_mv (v := .raw _) J) ?_
   refine sq_yes rfl rfl (less_b g13_29) rfl (ev_add J J (wr (by omega) (by omega))) ?_
   refine sq_yes rfl rfl (less_b g13_29) rfl (ev_call en130 J (rline_pure hc (by omega) (by omega)) ⟨J, J, J, J, trivial⟩) ?_
   refine sq_yes rfl rfl (less_b g13_29) rfl (ev_mv (v := .raw _) J) ?_
   refine sq_yes rfl rfl (less_b g13_29) rfl (ev_geq J J) ?_
   refine sq_ev rfl (ev_pickF (v := .raw _) (less_b g13_29) J) ?_
   refine mvr J rfl ?_
   refine sq_split 171 J (fun g13_44 => ?_) (fun g13_44 => ?_)
   ·
    have g13_44' := g13_44
    try simp only [qq] at g13_44'
    have hs : c.skp k m j i = true := by unfold Ca.skp; simp only [Bool.or_eq_true]; exact .inr (.inr (.inl g13_44))
    have eD : (c.dk0 k m && c.dkA k m j && c.dkR k m j i) = (c.dk0 k m && c.dkA k m j && c.dkR k m j (i + 1)) := by rw [dkR_succ', hs]; simp
    have eLt : (c.ltA k m j && c.ltR k m j i) = (c.ltA k m j && c.ltR k m j (i + 1)) := by rw [ltR_succ', hs]; simp
    refine sq_no rfl rfl (less_b g13_44) rfl rfl ?_
    refine sq_no rfl rfl (less_b g13_44) rfl rfl ?_
    refine sq_no rfl rfl (less_b g13_44) rfl rfl ?_
    refine sq_no rfl rfl (less_b g13_44) rfl rfl ?_
    refine sq_no rfl rfl (less_b g13_44) rfl rfl ?_
    refine sq_no rfl rfl (less_b g13_44) rfl rfl ?_
    refine sq_no rfl rfl (less_b g13_44) rfl rfl ?_
    refine sq_no rfl rfl (less_b g13_44) rfl rfl ?_
    refine sq_no rfl rfl (less_b g13_44) rfl rfl ?_
    refine sq_no rfl rfl (less_b g13_44) rfl rfl ?_
    refine sq_no rfl rfl (less_b g13_44) rfl rfl ?_
    refine sq_no rfl rfl (less_b g13_44) rfl rfl ?_
    refine sq_no rfl rfl (less_b g13_44) rfl rfl ?_
    refine sq_no rfl rfl (less_b g13_44) rfl rfl ?_
    refine sq_ev rfl (ev_pickT (v := .raw _) (less_b g13_44) J) ?_
    refine sq_nil ?_
    refine aw_true J ?_
    refine aw_exit (aw_region (mvr J rfl (sq_ev rfl (ev_add J J (wr (by omega) (by omega))) ?_)))
    refine asr J rfl (sq_nil ?_)
    exact ⟨⟨i + 1, by omega⟩, by simp only; omega, Sub.slots ⟨(by exact less_bo eD), (by exact less_bo eLt), J, J, J, J, J, J, J, J, J, J, J, trivial⟩⟩
   have g13_44' := g13_44
   try simp only [qq] at g13_44'
   refine sq_yes rfl rfl (less_b g13_44) rfl (ev_fieldAddr fo23_5 J) ?_
   refine sq_yes rfl rfl (less_b g13_44) rfl (ev_load J rfl ty3 rfl) ?_
   refine sq_yes rfl rfl (less_b g13_44) rfl (ev_fieldAddr fo23_2 J) ?_
   refine sq_yes rfl rfl (less_b g13_44) rfl (ev_load J rfl ty3 rfl) ?_
   refine sq_yes rfl rfl (less_b g13_44) rfl (ev_fieldAddr fo28_0 J) ?_
   refine sq_yes rfl rfl (less_b g13_44) rfl (ev_load J rfl ty3 rfl) ?_
   refine sq_yes rfl rfl (less_b g13_44) rfl (ev_fieldAddr fo28_2 J) ?_
   refine sq_yes rfl rfl (less_b g13_44) rfl (ev_load J rfl ty3 rfl) ?_
   refine sq_yes rfl rfl (less_b g13_44) rfl (ev_mv (v := .raw _) J) ?_
   refine sq_yes rfl rfl (less_b g13_44) rfl (ev_add J J (wr (by omega) (by omega))) ?_
   refine sq_yes rfl rfl (less_b g13_44) rfl (ev_add J J (wr (by omega) (by omega))) ?_
   refine sq_yes rfl rfl (less_b g13_44) rfl (ev_call en130 J (rline_pure hc (by omega) (by omega)) ⟨J, J, J, J, trivial⟩) ?_
   refine sq_yes rfl rfl (less_b g13_44) rfl (ev_mv (v := .raw _) J) ?_
   refine sq_yes rfl rfl (less_b g13_44) rfl (ev_leq J J) ?_
   refine sq_ev rfl (ev_pickF (v := .raw _) (less_b g13_44) J) ?_
   refine sq_nil ?_
   refine aw_cond J (fun c_186 => ?_) (fun c_186 => ?_)
   ·
    have c_186' := c_186
    try simp only [qq] at c_186'
    have hs : c.skp k m j i = true := by unfold Ca.skp; simp only [Bool.or_eq_true]; exact .inr (.inr (.inr c_186))
    have eD : (c.dk0 k m && c.dkA k m j && c.dkR k m j i) = (c.dk0 k m && c.dkA k m j && c.dkR k m j (i + 1)) := by rw [dkR_succ', hs]; simp
    have eLt : (c.ltA k m j && c.ltR k m j i) = (c.ltA k m j && c.ltR k m j (i + 1)) := by rw [ltR_succ', hs]; simp
    refine aw_exit (aw_region (mvr J rfl (sq_ev rfl (ev_add J J (wr (by omega) (by omega))) ?_)))
    refine asr J rfl (sq_nil ?_)
    exact ⟨⟨i + 1, by omega⟩, by simp only; omega, Sub.slots ⟨(by exact less_bo eD), (by exact less_bo eLt), J, J, J, J, J, J, J, J, J, J, J, trivial⟩⟩
   have c_186' := c_186
   try simp only [qq] at c_186'
   have hs : c.skp k m j i = false := by unfold Ca.skp; simp only [Bool.or_eq_false_iff]; exact ⟨g13_13, g13_29, g13_44, c_186⟩
   refine aw_skip (aw_seq (aw_region (sq_ev rfl (ev_fieldAddr fo26_0 J) ?_)))
   refine sq_ev rfl (ev_load J rfl ty24 rfl) ?_
   refine mvr J rfl (sq_ev rfl (ev_index_map sl24 J J rfl (by omega)) ?_)
   refine sq_ev rfl (ev_load_i J ty9 rfl) ?_
   refine mvr J rfl (sq_ev rfl (ev_idxS Tryz.underlying9 J J rfl (by omega)) ?_)
   refine sq_ev rfl (ev_eql J J) ?_
   refine sq_nil ?_
   refine aw_cond J (fun c_194 => ?_) (fun c_194 => ?_)
   ·
    have c_194' := c_194
    try simp only [qq] at c_194'
    have hch : c.chD j i = true := by unfold Ca.chD; rw [getD_get hjL, getD_get hiL]; exact decide_eq_true (UInt8.toNat_inj.1 (by have : (35 : UInt8).toNat = 35 := rfl; omega))
    have eD : (c.dk0 k m && c.dkA k m j && c.dkR k m j i) = (c.dk0 k m && c.dkA k m j && c.dkR k m j (i + 1)) := by rw [dkR_succ', hs, hch]; simp
    have eLt : false = (c.ltA k m j && c.ltR k m j (i + 1)) := by rw [ltR_succ', hs, hch]; simp
    refine aw_region (asr J rfl (sq_nil (aw_region (mvr J rfl (sq_ev rfl (ev_add J J (wr (by omega) (by omega))) ?_)))))
    refine asr J rfl (sq_nil ?_)
    exact ⟨⟨i + 1, by omega⟩, by simp only; omega, Sub.slots ⟨(by exact less_bo eD), (by exact less_bo eLt), J, J, J, J, J, J, J, J, J, J, J, trivial⟩⟩
   have c_194' := c_194
   try simp only [qq] at c_194'
   have hch : c.chD j i = false := by unfold Ca.chD; rw [getD_get hjL, getD_get hiL]; exact decide_eq_false (fun e => c_194' (by rw [e]; rfl))
   have eD : false = (c.dk0 k m && c.dkA k m j && c.dkR k m j (i + 1)) := by rw [dkR_succ', hs, hch]; simp
   have eLt : (c.ltA k m j && c.ltR k m j i) = (c.ltA k m j && c.ltR k m j (i + 1)) := by rw [ltR_succ', hs, hch]; simp
   refine aw_region (asr J rfl (sq_nil (aw_region (mvr J rfl (sq_ev rfl (ev_add J J (wr (by omega) (by omega))) ?_)))))
   refine asr J rfl (sq_nil ?_)
   exact ⟨⟨i + 1, by omega⟩, by simp only; omega, Sub.slots ⟨(by exact less_bo eD), (by exact less_bo eLt), J, J, J, J, J, J, J, J, J, J, J, trivial⟩⟩
  have c_124' := c_124
  try simp only [qq] at c_124'
  obtain rfl : i = w0 c.f := by omega
  have eA : (c.dk0 k m && c.dkA k m j && c.dkR k m j (w0 c.f)) = (c.dk0 k m && c.dkA k m (j + 1)) := by rw [c.dkA_succ k m j, Bool.and_assoc]
  have eB : (c.ltA k m j && c.ltR k m j (w0 c.f)) = c.ltA k m (j + 1) := by rw [c.ltA_succ k m j]
  refine aw_exit (aw_region (mvr J rfl (sq_ev rfl (ev_add J J (wr (by omega) (by omega))) ?_)))
  refine asr J rfl (sq_nil ?_)
  exact ⟨⟨j + 1, by omega⟩, by simp only; omega, Sub.slots ⟨(by exact less_bo eA), (by exact less_bo eB), J, J, J, J, J, J, J, J, J, J, trivial⟩⟩
 have c_119' := c_119
 try simp only [qq] at c_119'
 obtain rfl : j = c.f.length := by omega
 refine aw_exit (aw_seq (aw_seq (aw_region (mvr J rfl (sq_nil ?_)))))
 refine aw_cond J (fun c_195 => ?_) (fun c_195 => ?_)
 ·
  have c_195' := c_195
  try simp only [qq] at c_195'
  have hsh : c.shade k m = 35 := by unfold Ca.shade; rw [if_pos c_195]
  refine aw_seq (aw_region (asr J rfl (sq_nil (aw_ret ?_))))
  exact retQ_pure (v := .raw _) rfl rfl (Less.eq (by rw [← Ca.shade_cell hc, hsh]; rfl))
 have c_195' := c_195
 try simp only [qq] at c_195'
 refine aw_skip (aw_seq (aw_seq (aw_region (mvr J rfl (sq_nil ?_)))))
 refine aw_cond J (fun c_196 => ?_) (fun c_196 => ?_)
 ·
  have c_196' := c_196
  try simp only [qq] at c_196'
  have hsh : c.shade k m = 46 := by unfold Ca.shade; rw [if_neg (by rw [c_195]; simp), if_pos c_196]
  refine aw_seq (aw_region (asr J rfl (sq_nil (aw_ret ?_))))
  exact retQ_pure (v := .raw _) rfl rfl (Less.eq (by rw [← Ca.shade_cell hc, hsh]; rfl))
 have c_196' := c_196
 try simp only [qq] at c_196'
 have hsh : c.shade k m = 43 := by unfold Ca.shade; rw [if_neg (by rw [c_195]; simp), if_neg (by rw [c_196]; simp)]
 refine aw_skip (aw_seq (aw_region (asr J rfl (sq_nil (aw_ret ?_)))))
 exact retQ_pure (v := .raw _) rfl rfl (Less.eq (by rw [← Ca.shade_cell hc, hsh]; rfl))
theorem rshadow_pure {c : Ca} (hc : CaB c) : APure Tryz.prog 76 [stA c.s, fgA c.f, pcA c.p] (strs c.shadow) := by
 refine apure_of (rs := [.tmp 6]) Tryz.func76 rfl rfl (Nat.le_of_ble_eq_true rfl) (by simp [AV.pureL, AV.pureB, AV.pureE, pureE_map]) (by first | rfl | (simp [AV.pureL, AV.pureB, AV.pureE, pureE_map])) fun e0 he0 => ?_
 have h1 := hc.st
 refine aw_seq (aw_region (sq_box rfl J rfl ?_))
 refine sq_box rfl J rfl (sq_box rfl J rfl (asr J rfl (sq_nil (aw_seq (aw_region (asr J rfl ?_))))))
 refine sq_nil (aw_seq (aw_seq (aw_region (asr J rfl (sq_nil (aw_block ?_))))))
 refine aw_sub (sub_token 7 1 J) ?_
 refine aw_loopk (ι := { k : Nat // k ≤ c.s.high.toNat }) [3, 4, 5] (fun g => [(8, I g.1), (7, .own 3 1 (((List.range g.1).map c.srow).map fun x => [S x]))]) (fun H g => H.set 3 (.tok (((List.range g.1).map c.srow).map fun x => [S x]).length)) (fun g => c.s.high.toNat - g.1) (⟨0, Nat.zero_le _⟩) ⟨J, J, J, J, J, trivial⟩ rfl ?_
 rintro ⟨m, hm⟩
 dsimp only [keepS, St.put, sget, slotsOf, nn1, nn2, nn3, nn4, nn5, nn6, Nat.reduceBEq, Nat.reduceAdd, nn7, nn8]
 refine aw_seq (aw_seq (aw_region (mvr J rfl (sq_ev rfl (ev_fieldAddr fo23_1 J) ?_))))
 refine sq_ev rfl (ev_load J rfl ty3 rfl) ?_
 refine sq_ev rfl (ev_lss J J) ?_
 refine sq_nil ?_
 refine aw_cond J (fun c_14 => ?_) (fun c_14 => ?_)
 ·
  have c_14' := c_14
  try simp only [qq] at c_14'
  have hmL : m < c.s.high.toNat := by omega
  refine aw_skip (aw_seq (aw_block (aw_seq (aw_region (asr J rfl ?_)))))
  refine sq_nil (aw_seq (aw_seq (aw_region (asr J rfl (sq_nil (aw_block ?_))))))
  refine aw_sub (sub_token 9 1 J) ?_
  refine aw_loopk (ι := { k : Nat // k ≤ c.s.wide.toNat }) [3, 4, 5, 7, 8] (fun g => [(10, I g.1), (9, .own 4 1 (((List.range g.1).map fun (i : Nat) => c.cell (i : Int) (m : Int)).map fun x => [C x]))]) (fun H g => H.set 4 (.tok (((List.range g.1).map fun (i : Nat) => c.cell (i : Int) (m : Int)).map fun x => [C x]).length)) (fun g => c.s.wide.toNat - g.1) (⟨0, Nat.zero_le _⟩) ⟨J, J, J, J, J, J, J, trivial⟩ rfl ?_
  rintro ⟨k, hk⟩
  dsimp only [keepS, St.put, sget, slotsOf, nn1, nn2, nn3, nn4, nn5, nn6, Nat.reduceBEq, Nat.reduceAdd, nn7, nn8]
  refine aw_seq (aw_seq (aw_region (mvr J rfl (sq_ev rfl (ev_fieldAddr fo23_0 J) ?_))))
  refine sq_ev rfl (ev_load J rfl ty3 rfl) ?_
  refine sq_ev rfl (ev_lss J J) ?_
  refine sq_nil ?_
  refine aw_cond J (fun c_20 => ?_) (fun c_20 => ?_)
  ·
   have c_20' := c_20
   try simp only [qq] at c_20'
   have hkL : k < c.s.wide.toNat := by omega
   have eR : ((List.range (k + 1)).map fun (i : Nat) => c.cell (i : Int) (m : Int)).map (fun x => [C x]) = ((List.range k).map fun (i : Nat) => c.cell (i : Int) (m : Int)).map (fun x => [C x]) ++ [[C (c.cell (k : Int) (m : Int))]] := by rw [List.range_succ]; simp
   refine aw_skip (aw_seq (aw_block (aw_region (sq_ev rfl (ev_mv (v := .own _ _ _) J) ?_))))
   refine sq_ev rfl (ev_load_agg J rfl ty23 rfl) ?_
   refine sq_ev rfl (ev_load_agg J rfl ty26 rfl) ?_
   refine sq_ev rfl (ev_load_agg J rfl ty28 rfl) ?_
   refine mvr J rfl (mvr J rfl (sq_ev rfl (ev_call en139 J (shade_pure hc (by omega) (by omega)) ⟨J, J, J, J, J, trivial⟩) ?_))
   refine sq_ev rfl (ev_buildSlice (es := [[_]]) sf92 rfl rfl rfl rfl) ?_
   refine sq_append rfl sf92 Tryz.underlying92 rfl rfl (less_slx _ _) (Nat.succ_pos _) (by simp; omega) (by simp; omega) ?_
   refine sq_ev rfl (ev_as (v := .own _ _ _) J) ?_
   refine sq_nil (aw_region (mvr J rfl (sq_ev rfl (ev_add J J (wr (by omega) (by omega))) ?_)))
   refine asr J rfl (sq_nil ?_)
   exact ⟨⟨k + 1, by omega⟩, by simp only; omega, Sub.fin 5 ⟨J, Less.eq (b := .own 4 1 (((List.range (k + 1)).map fun (i : Nat) => c.cell (i : Int) (m : Int)).map fun x => [C x])) (by rw [eR] <;> rfl), J, J, J, J, J, trivial⟩ (congrArg (fun n => [_, _, _, _, AObj.tok n]) (congrArg List.length eR.symm)) (by simp [slotsIn, objsIn, sget, keepS, AObj.inB, AV.inB, AV.inL, AV.inE, inE_map, inE_bys, inE_ints, inE_strs, inE_figs, inE_cloths, -List.map_append, -List.map_take, -List.map_map]) (by simp [slotsIn, objsIn, sget, keepS, AObj.inB, AV.inB, AV.inL, AV.inE, inE_map, inE_bys, inE_ints, inE_strs, inE_figs, inE_cloths, -List.map_append, -List.map_take, -List.map_map]) (by simp [he0])⟩
  have c_20' := c_20
  try simp only [qq] at c_20'
  obtain rfl : k = c.s.wide.toNat := by omega
  have eS : ((List.range (m + 1)).map c.srow).map (fun x => [S x]) = ((List.range m).map c.srow).map (fun x => [S x]) ++ [[S (c.srow m)]] := by rw [List.range_succ]; simp
  refine aw_exit (aw_region (sq_ev rfl (ev_mv (v := .own _ _ _) J) ?_))
  refine sq_ev rfl (ev_mv (v := .own _ _ _) J) ?_
  refine sq_ev rfl (ev_less (ev_bytesS (ns := (c.srow m).map fun (x : UInt8) => ((x.toNat : Nat) : Int)) Tryz.underlying92 Tryz.underlying5 Tryz.underlying9 (Less.trans (less_own _ _ _) (Less.eq (bys_ints (c.srow m))))) (Less.eq (congrArg S (bys_back (c.srow m))))) ?_
  refine sq_ev rfl (ev_buildSlice (es := [[_]]) sf24 rfl rfl rfl rfl) ?_
  refine sq_append rfl sf24 Tryz.underlying24 rfl rfl (less_slx _ _) (Nat.succ_pos _) (by simp; omega) (by simp; omega) ?_
  refine sq_ev rfl (ev_as (v := .own _ _ _) J) ?_
  refine sq_nil (aw_region (mvr J rfl (sq_ev rfl (ev_add J J (wr (by omega) (by omega))) ?_)))
  refine asr J rfl (sq_nil ?_)
  exact ⟨⟨m + 1, by omega⟩, by simp only; omega, Sub.fin 4 ⟨J, Less.eq (b := .own 3 1 (((List.range (m + 1)).map c.srow).map fun x => [S x])) (by rw [eS] <;> rfl), J, J, J, trivial⟩ (congrArg (fun n => [_, _, _, AObj.tok n]) (congrArg List.length eS.symm)) (by simp [slotsIn, objsIn, sget, keepS, AObj.inB, AV.inB, AV.inL, AV.inE, inE_map, inE_bys, inE_ints, inE_strs, inE_figs, inE_cloths, -List.map_append, -List.map_take, -List.map_map]) (by simp [slotsIn, objsIn, sget, keepS, AObj.inB, AV.inB, AV.inL, AV.inE, inE_map, inE_bys, inE_ints, inE_strs, inE_figs, inE_cloths, -List.map_append, -List.map_take, -List.map_map]) (by simp [he0])⟩
 have c_14' := c_14
 try simp only [qq] at c_14'
 obtain rfl : m = c.s.high.toNat := by omega
 refine aw_exit (aw_seq (aw_region (sq_ev rfl (ev_mv (v := .own _ _ _) J) ?_)))
 refine sq_ev rfl (ev_as (v := .own _ _ _) J) ?_
 refine sq_nil (aw_ret ?_)
 exact retQ_pure (v := .own _ _ _) rfl rfl (Less.trans (less_own _ _ _) (Less.eq (by simp [Ca.shadow])))
end Go.Proofs.YtmbknoaneglilaaGreatDoor
namespace Go.Proofs.YtmbknoaneglilaaGreatDoor
open Go Go.Ab Ni Ol
theorem en74 : Ent Tryz.prog 74 := Ent.of Tryz.func74 (by kernel_rfl) rfl
theorem en75 : Ent Tryz.prog 75 := Ent.of Tryz.func75 (by kernel_rfl) rfl
set_option maxRecDepth 20000 in
theorem shadows_long {c : Ca} (k23 : APure Tryz.prog 23 [strs c.f] (B false)) : APure Tryz.prog 18 [stA c.s, fgA c.f, pcA c.p] (B true) := by
  refine apure_of (rs := [.tmp 6]) Tryz.func18 rfl rfl (Nat.le_of_ble_eq_true rfl) (by simp [AV.pureL, AV.pureB, AV.pureE, pureE_map]) (by first | rfl | (simp [AV.pureL, AV.pureB, AV.pureE, pureE_map])) fun e0 he0 => ?_
  refine aw_seq (aw_region (sq_box rfl J rfl (sq_box rfl J rfl ?_)))
  refine sq_box rfl J rfl (asr J rfl (sq_nil (aw_seq (aw_seq (aw_region (sq_ev rfl (ev_fieldAddr fo26_0 J) ?_))))))
  refine sq_ev rfl (ev_load J rfl ty24 rfl) ?_
  refine sq_ev rfl (ev_call en23 J (k23) ⟨J, trivial⟩) ?_
  refine sq_ev rfl (ev_not J) ?_
  refine sq_nil ?_
  refine aw_cond J (fun c_18 => ?_) (fun c_18 => ?_)
  · skip
    have c_18' := c_18
    try simp only [qq] at c_18'
    refine aw_seq (aw_region (sq_ev rfl (ev_call en27 J (known_pure) trivial) ?_))
    refine asr J rfl (sq_nil (aw_ret ?_))
    exact retQ_pure (v := .raw _) rfl rfl J
  · skip
    have c_18' := c_18
    try simp only [qq] at c_18'
    first | exact absurd c_18 (by decide) | (exfalso; simp at c_18; done) | (exfalso; simp at c_18; omega) | (exfalso; simp_all; done) | (exfalso; simp_all; omega)
set_option maxRecDepth 20000 in
theorem shadows_000 {c : Ca} (k23 : APure Tryz.prog 23 [strs c.f] (B true)) (k74 : APure Tryz.prog 74 [stA c.s] (I 2)) (k24 : APure Tryz.prog 24 [stA c.s] (B false)) (k75 : APure Tryz.prog 75 [fgA c.f] (I 2)) (k25 : APure Tryz.prog 25 [fgA c.f] (B false)) (k28 : APure Tryz.prog 28 [stA c.s, fgA c.f, pcA c.p] (.tup [strs [], I 2])) (k33 : APure Tryz.prog 33 [stA c.s, fgA c.f, pcA c.p] (.tup [I 0, I 0, I 2])) : APure Tryz.prog 18 [stA c.s, fgA c.f, pcA c.p] (B true) := by
  refine apure_of (rs := [.tmp 6]) Tryz.func18 rfl rfl (Nat.le_of_ble_eq_true rfl) (by simp [AV.pureL, AV.pureB, AV.pureE, pureE_map]) (by first | rfl | (simp [AV.pureL, AV.pureB, AV.pureE, pureE_map])) fun e0 he0 => ?_
  refine aw_seq (aw_region (sq_box rfl J rfl (sq_box rfl J rfl ?_)))
  refine sq_box rfl J rfl (asr J rfl (sq_nil (aw_seq (aw_seq (aw_region (sq_ev rfl (ev_fieldAddr fo26_0 J) ?_))))))
  refine sq_ev rfl (ev_load J rfl ty24 rfl) ?_
  refine sq_ev rfl (ev_call en23 J (k23) ⟨J, trivial⟩) ?_
  refine sq_ev rfl (ev_not J) ?_
  refine sq_nil ?_
  refine aw_cond J (fun c_18 => ?_) (fun c_18 => ?_)
  · skip
    have c_18' := c_18
    try simp only [qq] at c_18'
    first | exact absurd c_18 (by decide) | (exfalso; simp at c_18; done) | (exfalso; simp at c_18; omega) | (exfalso; simp_all; done) | (exfalso; simp_all; omega)
  · skip
    have c_18' := c_18
    try simp only [qq] at c_18'
    refine aw_skip (aw_seq (aw_region (sq_ev rfl (ev_load_agg J rfl ty23 rfl) ?_)))
    refine sq_ev rfl (ev_call en74 J (k74) ⟨J, trivial⟩) ?_
    refine asr J rfl (sq_nil (aw_seq (aw_region (sq_ev rfl (ev_load_agg J rfl ty26 rfl) ?_))))
    refine sq_ev rfl (ev_call en75 J (k75) ⟨J, trivial⟩) ?_
    refine asr J rfl (sq_nil (aw_seq (aw_seq (aw_region (mvr J rfl (sq_ev rfl (ev_eql J J) ?_))))))
    refine sq_ev rfl (ev_load_agg J rfl ty23 rfl) ?_
    refine sq_ev rfl (ev_call en24 J (k24) ⟨J, trivial⟩) ?_
    refine sq_ev rfl (ev_neqB un4 J J) ?_
    refine mvr J rfl (ymr rfl rfl J rfl J (sq_yes rfl rfl J rfl (ev_neq J J) ?_))
    refine ymr rfl rfl J rfl J (ymr rfl rfl J rfl J (sq_yes rfl rfl J rfl (ev_neq J J) ?_))
    refine sq_yes rfl rfl J rfl (ev_pickT (v := .raw _) J J) ?_
    refine pf rfl J J (mvr J rfl (ymr rfl rfl J rfl J (sq_yes rfl rfl J rfl (ev_eql J J) ?_)))
    refine sq_yes rfl rfl J rfl (ev_load_agg J rfl ty26 rfl) ?_
    refine sq_yes rfl rfl J rfl (ev_call en25 J (k25) ⟨J, trivial⟩) ?_
    refine sq_yes rfl rfl J rfl (ev_neqB un4 J J) ?_
    refine pf rfl J J (mvr J rfl (ymr rfl rfl J rfl J (sq_yes rfl rfl J rfl (ev_neq J J) ?_)))
    refine ymr rfl rfl J rfl J (ymr rfl rfl J rfl J (sq_yes rfl rfl J rfl (ev_neq J J) ?_))
    refine sq_yes rfl rfl J rfl (ev_pickT (v := .raw _) J J) ?_
    refine pf rfl J J (sq_nil ?_)
    refine aw_cond J (fun c_51 => ?_) (fun c_51 => ?_)
    · skip
      have c_51' := c_51
      try simp only [qq] at c_51'
      first | exact absurd c_51 (by decide) | (exfalso; simp at c_51; done) | (exfalso; simp at c_51; omega) | (exfalso; simp_all; done) | (exfalso; simp_all; omega)
    · skip
      have c_51' := c_51
      try simp only [qq] at c_51'
      refine aw_skip (aw_seq (aw_region (sq_ev rfl (ev_load_agg J rfl ty23 rfl) ?_)))
      refine sq_ev rfl (ev_load_agg J rfl ty26 rfl) ?_
      refine sq_ev rfl (ev_load_agg J rfl ty28 rfl) ?_
      refine sq_ev rfl (ev_call en28 J (k28) ⟨J, J, J, trivial⟩) ?_
      refine sq_ev rfl (ev_mv (v := .tup _) J) ?_
      refine xtr rfl J rfl ?_
      refine xtr rfl J rfl (ass rfl J (asr J rfl (sq_nil (aw_seq (aw_region (sq_ev rfl (ev_load_agg J rfl ty23 rfl) ?_))))))
      refine sq_ev rfl (ev_load_agg J rfl ty26 rfl) ?_
      refine sq_ev rfl (ev_load_agg J rfl ty28 rfl) ?_
      refine sq_ev rfl (ev_call en33 J (k33) ⟨J, J, J, trivial⟩) ?_
      refine sq_ev rfl (ev_mv (v := .tup _) J) ?_
      refine xtr rfl J rfl (xtr rfl J rfl (xtr rfl J rfl (asr J rfl ?_)))
      refine asr J rfl (asr J rfl (sq_nil (aw_seq (aw_seq (aw_region (sq_ev rfl (ev_load_agg J rfl ty23 rfl) ?_))))))
      refine sq_ev rfl (ev_call en24 J (k24) ⟨J, trivial⟩) ?_
      refine sq_ev rfl (ev_not J) ?_
      refine mvr J rfl (sq_no rfl rfl J rfl rfl (sq_no rfl rfl J rfl rfl (sq_no rfl rfl J rfl rfl (sq_ev rfl (ev_pickT (v := .raw _) J J) ?_))))
      refine mvr J rfl (sq_no rfl rfl J rfl rfl (sq_no rfl rfl J rfl rfl (sq_no rfl rfl J rfl rfl (sq_no rfl rfl J rfl rfl (sq_ev rfl (ev_pickT (v := .raw _) J J) ?_)))))
      refine sq_nil ?_
      refine aw_true J ?_
      refine aw_seq (aw_region (mvr J rfl (sq_ev rfl (ev_eql J J) ?_)))
      refine mvr J rfl ?_
      refine ysl rfl rfl J rfl J ?_
      refine sq_yes rfl rfl J rfl (ev_len_map sl24 J) ?_
      refine sq_yes rfl rfl J rfl (ev_eql J J) ?_
      refine sq_ev rfl (ev_pickT (v := .raw _) J J) ?_
      refine mvr J rfl (ymr rfl rfl J rfl J (sq_yes rfl rfl J rfl (ev_eql J J) ?_))
      refine sq_ev rfl (ev_pickT (v := .raw _) J J) ?_
      refine mvr J rfl (ymr rfl rfl J rfl J (sq_yes rfl rfl J rfl (ev_eql J J) ?_))
      refine sq_ev rfl (ev_pickT (v := .raw _) J J) ?_
      refine mvr J rfl (ymr rfl rfl J rfl J (sq_yes rfl rfl J rfl (ev_eql J J) ?_))
      refine sq_ev rfl (ev_pickT (v := .raw _) J J) ?_
      refine mvr J rfl (sq_yes rfl rfl J rfl (ev_call en27 J (known_pure) trivial) ?_)
      refine sq_ev rfl (ev_pickT (v := .raw _) J J) ?_
      refine asr J rfl (sq_nil (aw_ret ?_))
      exact retQ_pure (v := .raw _) rfl rfl J
set_option maxRecDepth 20000 in
theorem shadows_010 {c : Ca} (k23 : APure Tryz.prog 23 [strs c.f] (B true)) (k74 : APure Tryz.prog 74 [stA c.s] (I 2)) (k24 : APure Tryz.prog 24 [stA c.s] (B false)) (k75 : APure Tryz.prog 75 [fgA c.f] (I 0)) (k25 : APure Tryz.prog 25 [fgA c.f] (B true)) (k28 : APure Tryz.prog 28 [stA c.s, fgA c.f, pcA c.p] (.tup [strs [], I 2])) (k33 : APure Tryz.prog 33 [stA c.s, fgA c.f, pcA c.p] (.tup [I 0, I 0, I 2])) : APure Tryz.prog 18 [stA c.s, fgA c.f, pcA c.p] (B true) := by
  refine apure_of (rs := [.tmp 6]) Tryz.func18 rfl rfl (Nat.le_of_ble_eq_true rfl) (by simp [AV.pureL, AV.pureB, AV.pureE, pureE_map]) (by first | rfl | (simp [AV.pureL, AV.pureB, AV.pureE, pureE_map])) fun e0 he0 => ?_
  refine aw_seq (aw_region (sq_box rfl J rfl (sq_box rfl J rfl ?_)))
  refine sq_box rfl J rfl (asr J rfl (sq_nil (aw_seq (aw_seq (aw_region (sq_ev rfl (ev_fieldAddr fo26_0 J) ?_))))))
  refine sq_ev rfl (ev_load J rfl ty24 rfl) ?_
  refine sq_ev rfl (ev_call en23 J (k23) ⟨J, trivial⟩) ?_
  refine sq_ev rfl (ev_not J) ?_
  refine sq_nil ?_
  refine aw_cond J (fun c_18 => ?_) (fun c_18 => ?_)
  · skip
    have c_18' := c_18
    try simp only [qq] at c_18'
    first | exact absurd c_18 (by decide) | (exfalso; simp at c_18; done) | (exfalso; simp at c_18; omega) | (exfalso; simp_all; done) | (exfalso; simp_all; omega)
  · skip
    have c_18' := c_18
    try simp only [qq] at c_18'
    refine aw_skip (aw_seq (aw_region (sq_ev rfl (ev_load_agg J rfl ty23 rfl) ?_)))
    refine sq_ev rfl (ev_call en74 J (k74) ⟨J, trivial⟩) ?_
    refine asr J rfl (sq_nil (aw_seq (aw_region (sq_ev rfl (ev_load_agg J rfl ty26 rfl) ?_))))
    refine sq_ev rfl (ev_call en75 J (k75) ⟨J, trivial⟩) ?_
    refine asr J rfl (sq_nil (aw_seq (aw_seq (aw_region (mvr J rfl (sq_ev rfl (ev_eql J J) ?_))))))
    refine sq_ev rfl (ev_load_agg J rfl ty23 rfl) ?_
    refine sq_ev rfl (ev_call en24 J (k24) ⟨J, trivial⟩) ?_
    refine sq_ev rfl (ev_neqB un4 J J) ?_
    refine mvr J rfl (ymr rfl rfl J rfl J (sq_yes rfl rfl J rfl (ev_neq J J) ?_))
    refine ymr rfl rfl J rfl J (ymr rfl rfl J rfl J (sq_yes rfl rfl J rfl (ev_neq J J) ?_))
    refine sq_yes rfl rfl J rfl (ev_pickT (v := .raw _) J J) ?_
    refine pf rfl J J (mvr J rfl (ymr rfl rfl J rfl J (sq_yes rfl rfl J rfl (ev_eql J J) ?_)))
    refine sq_yes rfl rfl J rfl (ev_load_agg J rfl ty26 rfl) ?_
    refine sq_yes rfl rfl J rfl (ev_call en25 J (k25) ⟨J, trivial⟩) ?_
    refine sq_yes rfl rfl J rfl (ev_neqB un4 J J) ?_
    refine pf rfl J J (mvr J rfl (ymr rfl rfl J rfl J (sq_yes rfl rfl J rfl (ev_neq J J) ?_)))
    refine ymr rfl rfl J rfl J (sq_no rfl rfl J rfl rfl (sq_no rfl rfl J rfl rfl (sq_yes rfl rfl J rfl (ev_pickF (v := .raw _) J J) ?_)))
    refine pf rfl J J (sq_nil ?_)
    refine aw_false J ?_
    refine aw_skip (aw_seq (aw_region (sq_ev rfl (ev_load_agg J rfl ty23 rfl) ?_)))
    refine sq_ev rfl (ev_load_agg J rfl ty26 rfl) ?_
    refine sq_ev rfl (ev_load_agg J rfl ty28 rfl) ?_
    refine sq_ev rfl (ev_call en28 J (k28) ⟨J, J, J, trivial⟩) ?_
    refine sq_ev rfl (ev_mv (v := .tup _) J) ?_
    refine xtr rfl J rfl ?_
    refine xtr rfl J rfl (ass rfl J (asr J rfl (sq_nil (aw_seq (aw_region (sq_ev rfl (ev_load_agg J rfl ty23 rfl) ?_))))))
    refine sq_ev rfl (ev_load_agg J rfl ty26 rfl) ?_
    refine sq_ev rfl (ev_load_agg J rfl ty28 rfl) ?_
    refine sq_ev rfl (ev_call en33 J (k33) ⟨J, J, J, trivial⟩) ?_
    refine sq_ev rfl (ev_mv (v := .tup _) J) ?_
    refine xtr rfl J rfl (xtr rfl J rfl (xtr rfl J rfl (asr J rfl ?_)))
    refine asr J rfl (asr J rfl (sq_nil (aw_seq (aw_seq (aw_region (sq_ev rfl (ev_load_agg J rfl ty23 rfl) ?_))))))
    refine sq_ev rfl (ev_call en24 J (k24) ⟨J, trivial⟩) ?_
    refine sq_ev rfl (ev_not J) ?_
    refine mvr J rfl (sq_no rfl rfl J rfl rfl (sq_no rfl rfl J rfl rfl (sq_no rfl rfl J rfl rfl (sq_ev rfl (ev_pickT (v := .raw _) J J) ?_))))
    refine mvr J rfl (sq_no rfl rfl J rfl rfl (sq_no rfl rfl J rfl rfl (sq_no rfl rfl J rfl rfl (sq_no rfl rfl J rfl rfl (sq_ev rfl (ev_pickT (v := .raw _) J J) ?_)))))
    refine sq_nil ?_
    refine aw_true J ?_
    refine aw_seq (aw_region (mvr J rfl (sq_ev rfl (ev_eql J J) ?_)))
    refine mvr J rfl ?_
    refine ysl rfl rfl J rfl J ?_
    refine sq_yes rfl rfl J rfl (ev_len_map sl24 J) ?_
    refine sq_yes rfl rfl J rfl (ev_eql J J) ?_
    refine sq_ev rfl (ev_pickT (v := .raw _) J J) ?_
    refine mvr J rfl (ymr rfl rfl J rfl J (sq_yes rfl rfl J rfl (ev_eql J J) ?_))
    refine sq_ev rfl (ev_pickT (v := .raw _) J J) ?_
    refine mvr J rfl (ymr rfl rfl J rfl J (sq_yes rfl rfl J rfl (ev_eql J J) ?_))
    refine sq_ev rfl (ev_pickT (v := .raw _) J J) ?_
    refine mvr J rfl (ymr rfl rfl J rfl J (sq_yes rfl rfl J rfl (ev_eql J J) ?_))
    refine sq_ev rfl (ev_pickT (v := .raw _) J J) ?_
    refine mvr J rfl (sq_yes rfl rfl J rfl (ev_call en27 J (known_pure) trivial) ?_)
    refine sq_ev rfl (ev_pickT (v := .raw _) J J) ?_
    refine asr J rfl (sq_nil (aw_ret ?_))
    exact retQ_pure (v := .raw _) rfl rfl J
set_option maxRecDepth 20000 in
theorem shadows_100 {c : Ca} (k23 : APure Tryz.prog 23 [strs c.f] (B true)) (k74 : APure Tryz.prog 74 [stA c.s] (I 0)) (k24 : APure Tryz.prog 24 [stA c.s] (B true)) (k75 : APure Tryz.prog 75 [fgA c.f] (I 2)) (k25 : APure Tryz.prog 25 [fgA c.f] (B false)) (k28 : APure Tryz.prog 28 [stA c.s, fgA c.f, pcA c.p] (.tup [strs [], I 2])) (k33 : APure Tryz.prog 33 [stA c.s, fgA c.f, pcA c.p] (.tup [I 0, I 0, I 2])) : APure Tryz.prog 18 [stA c.s, fgA c.f, pcA c.p] (B true) := by
  refine apure_of (rs := [.tmp 6]) Tryz.func18 rfl rfl (Nat.le_of_ble_eq_true rfl) (by simp [AV.pureL, AV.pureB, AV.pureE, pureE_map]) (by first | rfl | (simp [AV.pureL, AV.pureB, AV.pureE, pureE_map])) fun e0 he0 => ?_
  refine aw_seq (aw_region (sq_box rfl J rfl (sq_box rfl J rfl ?_)))
  refine sq_box rfl J rfl (asr J rfl (sq_nil (aw_seq (aw_seq (aw_region (sq_ev rfl (ev_fieldAddr fo26_0 J) ?_))))))
  refine sq_ev rfl (ev_load J rfl ty24 rfl) ?_
  refine sq_ev rfl (ev_call en23 J (k23) ⟨J, trivial⟩) ?_
  refine sq_ev rfl (ev_not J) ?_
  refine sq_nil ?_
  refine aw_cond J (fun c_18 => ?_) (fun c_18 => ?_)
  · skip
    have c_18' := c_18
    try simp only [qq] at c_18'
    first | exact absurd c_18 (by decide) | (exfalso; simp at c_18; done) | (exfalso; simp at c_18; omega) | (exfalso; simp_all; done) | (exfalso; simp_all; omega)
  · skip
    have c_18' := c_18
    try simp only [qq] at c_18'
    refine aw_skip (aw_seq (aw_region (sq_ev rfl (ev_load_agg J rfl ty23 rfl) ?_)))
    refine sq_ev rfl (ev_call en74 J (k74) ⟨J, trivial⟩) ?_
    refine asr J rfl (sq_nil (aw_seq (aw_region (sq_ev rfl (ev_load_agg J rfl ty26 rfl) ?_))))
    refine sq_ev rfl (ev_call en75 J (k75) ⟨J, trivial⟩) ?_
    refine asr J rfl (sq_nil (aw_seq (aw_seq (aw_region (mvr J rfl (sq_ev rfl (ev_eql J J) ?_))))))
    refine sq_ev rfl (ev_load_agg J rfl ty23 rfl) ?_
    refine sq_ev rfl (ev_call en24 J (k24) ⟨J, trivial⟩) ?_
    refine sq_ev rfl (ev_neqB un4 J J) ?_
    refine mvr J rfl (ymr rfl rfl J rfl J (sq_yes rfl rfl J rfl (ev_neq J J) ?_))
    refine ymr rfl rfl J rfl J (sq_no rfl rfl J rfl rfl (sq_no rfl rfl J rfl rfl (sq_yes rfl rfl J rfl (ev_pickF (v := .raw _) J J) ?_)))
    refine pf rfl J J (mvr J rfl (ymr rfl rfl J rfl J (sq_yes rfl rfl J rfl (ev_eql J J) ?_)))
    refine sq_yes rfl rfl J rfl (ev_load_agg J rfl ty26 rfl) ?_
    refine sq_yes rfl rfl J rfl (ev_call en25 J (k25) ⟨J, trivial⟩) ?_
    refine sq_yes rfl rfl J rfl (ev_neqB un4 J J) ?_
    refine pf rfl J J (mvr J rfl (ymr rfl rfl J rfl J (sq_yes rfl rfl J rfl (ev_neq J J) ?_)))
    refine ymr rfl rfl J rfl J (ymr rfl rfl J rfl J (sq_yes rfl rfl J rfl (ev_neq J J) ?_))
    refine sq_yes rfl rfl J rfl (ev_pickT (v := .raw _) J J) ?_
    refine pf rfl J J (sq_nil ?_)
    refine aw_cond J (fun c_51 => ?_) (fun c_51 => ?_)
    · skip
      have c_51' := c_51
      try simp only [qq] at c_51'
      first | exact absurd c_51 (by decide) | (exfalso; simp at c_51; done) | (exfalso; simp at c_51; omega) | (exfalso; simp_all; done) | (exfalso; simp_all; omega)
    · skip
      have c_51' := c_51
      try simp only [qq] at c_51'
      refine aw_skip (aw_seq (aw_region (sq_ev rfl (ev_load_agg J rfl ty23 rfl) ?_)))
      refine sq_ev rfl (ev_load_agg J rfl ty26 rfl) ?_
      refine sq_ev rfl (ev_load_agg J rfl ty28 rfl) ?_
      refine sq_ev rfl (ev_call en28 J (k28) ⟨J, J, J, trivial⟩) ?_
      refine sq_ev rfl (ev_mv (v := .tup _) J) ?_
      refine xtr rfl J rfl ?_
      refine xtr rfl J rfl (ass rfl J (asr J rfl (sq_nil (aw_seq (aw_region (sq_ev rfl (ev_load_agg J rfl ty23 rfl) ?_))))))
      refine sq_ev rfl (ev_load_agg J rfl ty26 rfl) ?_
      refine sq_ev rfl (ev_load_agg J rfl ty28 rfl) ?_
      refine sq_ev rfl (ev_call en33 J (k33) ⟨J, J, J, trivial⟩) ?_
      refine sq_ev rfl (ev_mv (v := .tup _) J) ?_
      refine xtr rfl J rfl (xtr rfl J rfl (xtr rfl J rfl (asr J rfl ?_)))
      refine asr J rfl (asr J rfl (sq_nil (aw_seq (aw_seq (aw_region (sq_ev rfl (ev_load_agg J rfl ty23 rfl) ?_))))))
      refine sq_ev rfl (ev_call en24 J (k24) ⟨J, trivial⟩) ?_
      refine sq_ev rfl (ev_not J) ?_
      refine mvr J rfl (sq_yes rfl rfl J rfl (ev_load_agg J rfl ty26 rfl) ?_)
      refine sq_yes rfl rfl J rfl (ev_call en25 J (k25) ⟨J, trivial⟩) ?_
      refine sq_yes rfl rfl J rfl (ev_not J) ?_
      refine pf rfl J J (mvr J rfl (sq_no rfl rfl J rfl rfl (sq_no rfl rfl J rfl rfl (sq_no rfl rfl J rfl rfl (sq_no rfl rfl J rfl rfl (sq_ev rfl (ev_pickT (v := .raw _) J J) ?_))))))
      refine sq_nil ?_
      refine aw_true J ?_
      refine aw_seq (aw_region (mvr J rfl (sq_ev rfl (ev_eql J J) ?_)))
      refine mvr J rfl ?_
      refine ysl rfl rfl J rfl J ?_
      refine sq_yes rfl rfl J rfl (ev_len_map sl24 J) ?_
      refine sq_yes rfl rfl J rfl (ev_eql J J) ?_
      refine sq_ev rfl (ev_pickT (v := .raw _) J J) ?_
      refine mvr J rfl (ymr rfl rfl J rfl J (sq_yes rfl rfl J rfl (ev_eql J J) ?_))
      refine sq_ev rfl (ev_pickT (v := .raw _) J J) ?_
      refine mvr J rfl (ymr rfl rfl J rfl J (sq_yes rfl rfl J rfl (ev_eql J J) ?_))
      refine sq_ev rfl (ev_pickT (v := .raw _) J J) ?_
      refine mvr J rfl (ymr rfl rfl J rfl J (sq_yes rfl rfl J rfl (ev_eql J J) ?_))
      refine sq_ev rfl (ev_pickT (v := .raw _) J J) ?_
      refine mvr J rfl (sq_yes rfl rfl J rfl (ev_call en27 J (known_pure) trivial) ?_)
      refine sq_ev rfl (ev_pickT (v := .raw _) J J) ?_
      refine asr J rfl (sq_nil (aw_ret ?_))
      exact retQ_pure (v := .raw _) rfl rfl J
set_option maxRecDepth 20000 in
theorem shadows_110 {c : Ca} (k23 : APure Tryz.prog 23 [strs c.f] (B true)) (k74 : APure Tryz.prog 74 [stA c.s] (I 0)) (k24 : APure Tryz.prog 24 [stA c.s] (B true)) (k75 : APure Tryz.prog 75 [fgA c.f] (I 0)) (k25 : APure Tryz.prog 25 [fgA c.f] (B true)) (k26 : APure Tryz.prog 26 [stA c.s, pcA c.p] (B false)) (k28 : APure Tryz.prog 28 [stA c.s, fgA c.f, pcA c.p] (.tup [strs [], I 2])) (k33 : APure Tryz.prog 33 [stA c.s, fgA c.f, pcA c.p] (.tup [I 0, I 0, I 2])) : APure Tryz.prog 18 [stA c.s, fgA c.f, pcA c.p] (B true) := by
  refine apure_of (rs := [.tmp 6]) Tryz.func18 rfl rfl (Nat.le_of_ble_eq_true rfl) (by simp [AV.pureL, AV.pureB, AV.pureE, pureE_map]) (by first | rfl | (simp [AV.pureL, AV.pureB, AV.pureE, pureE_map])) fun e0 he0 => ?_
  refine aw_seq (aw_region (sq_box rfl J rfl (sq_box rfl J rfl ?_)))
  refine sq_box rfl J rfl (asr J rfl (sq_nil (aw_seq (aw_seq (aw_region (sq_ev rfl (ev_fieldAddr fo26_0 J) ?_))))))
  refine sq_ev rfl (ev_load J rfl ty24 rfl) ?_
  refine sq_ev rfl (ev_call en23 J (k23) ⟨J, trivial⟩) ?_
  refine sq_ev rfl (ev_not J) ?_
  refine sq_nil ?_
  refine aw_cond J (fun c_18 => ?_) (fun c_18 => ?_)
  · skip
    have c_18' := c_18
    try simp only [qq] at c_18'
    first | exact absurd c_18 (by decide) | (exfalso; simp at c_18; done) | (exfalso; simp at c_18; omega) | (exfalso; simp_all; done) | (exfalso; simp_all; omega)
  · skip
    have c_18' := c_18
    try simp only [qq] at c_18'
    refine aw_skip (aw_seq (aw_region (sq_ev rfl (ev_load_agg J rfl ty23 rfl) ?_)))
    refine sq_ev rfl (ev_call en74 J (k74) ⟨J, trivial⟩) ?_
    refine asr J rfl (sq_nil (aw_seq (aw_region (sq_ev rfl (ev_load_agg J rfl ty26 rfl) ?_))))
    refine sq_ev rfl (ev_call en75 J (k75) ⟨J, trivial⟩) ?_
    refine asr J rfl (sq_nil (aw_seq (aw_seq (aw_region (mvr J rfl (sq_ev rfl (ev_eql J J) ?_))))))
    refine sq_ev rfl (ev_load_agg J rfl ty23 rfl) ?_
    refine sq_ev rfl (ev_call en24 J (k24) ⟨J, trivial⟩) ?_
    refine sq_ev rfl (ev_neqB un4 J J) ?_
    refine mvr J rfl (ymr rfl rfl J rfl J (sq_yes rfl rfl J rfl (ev_neq J J) ?_))
    refine ymr rfl rfl J rfl J (sq_no rfl rfl J rfl rfl (sq_no rfl rfl J rfl rfl (sq_yes rfl rfl J rfl (ev_pickF (v := .raw _) J J) ?_)))
    refine pf rfl J J (mvr J rfl (ymr rfl rfl J rfl J (sq_yes rfl rfl J rfl (ev_eql J J) ?_)))
    refine sq_yes rfl rfl J rfl (ev_load_agg J rfl ty26 rfl) ?_
    refine sq_yes rfl rfl J rfl (ev_call en25 J (k25) ⟨J, trivial⟩) ?_
    refine sq_yes rfl rfl J rfl (ev_neqB un4 J J) ?_
    refine pf rfl J J (mvr J rfl (ymr rfl rfl J rfl J (sq_yes rfl rfl J rfl (ev_neq J J) ?_)))
    refine ymr rfl rfl J rfl J (sq_no rfl rfl J rfl rfl (sq_no rfl rfl J rfl rfl (sq_yes rfl rfl J rfl (ev_pickF (v := .raw _) J J) ?_)))
    refine pf rfl J J (sq_nil ?_)
    refine aw_false J ?_
    refine aw_skip (aw_seq (aw_region (sq_ev rfl (ev_load_agg J rfl ty23 rfl) ?_)))
    refine sq_ev rfl (ev_load_agg J rfl ty26 rfl) ?_
    refine sq_ev rfl (ev_load_agg J rfl ty28 rfl) ?_
    refine sq_ev rfl (ev_call en28 J (k28) ⟨J, J, J, trivial⟩) ?_
    refine sq_ev rfl (ev_mv (v := .tup _) J) ?_
    refine xtr rfl J rfl ?_
    refine xtr rfl J rfl (ass rfl J (asr J rfl (sq_nil (aw_seq (aw_region (sq_ev rfl (ev_load_agg J rfl ty23 rfl) ?_))))))
    refine sq_ev rfl (ev_load_agg J rfl ty26 rfl) ?_
    refine sq_ev rfl (ev_load_agg J rfl ty28 rfl) ?_
    refine sq_ev rfl (ev_call en33 J (k33) ⟨J, J, J, trivial⟩) ?_
    refine sq_ev rfl (ev_mv (v := .tup _) J) ?_
    refine xtr rfl J rfl (xtr rfl J rfl (xtr rfl J rfl (asr J rfl ?_)))
    refine asr J rfl (asr J rfl (sq_nil (aw_seq (aw_seq (aw_region (sq_ev rfl (ev_load_agg J rfl ty23 rfl) ?_))))))
    refine sq_ev rfl (ev_call en24 J (k24) ⟨J, trivial⟩) ?_
    refine sq_ev rfl (ev_not J) ?_
    refine mvr J rfl (sq_yes rfl rfl J rfl (ev_load_agg J rfl ty26 rfl) ?_)
    refine sq_yes rfl rfl J rfl (ev_call en25 J (k25) ⟨J, trivial⟩) ?_
    refine sq_yes rfl rfl J rfl (ev_not J) ?_
    refine pf rfl J J (mvr J rfl (sq_yes rfl rfl J rfl (ev_load_agg J rfl ty23 rfl) ?_))
    refine sq_yes rfl rfl J rfl (ev_load_agg J rfl ty28 rfl) ?_
    refine sq_yes rfl rfl J rfl (ev_call en26 J (k26) ⟨J, J, trivial⟩) ?_
    refine sq_yes rfl rfl J rfl (ev_not J) ?_
    refine pf rfl J J (sq_nil ?_)
    refine aw_cond J (fun c_80 => ?_) (fun c_80 => ?_)
    · skip
      have c_80' := c_80
      try simp only [qq] at c_80'
      refine aw_seq (aw_region (mvr J rfl (sq_ev rfl (ev_eql J J) ?_)))
      refine mvr J rfl ?_
      refine ysl rfl rfl J rfl J ?_
      refine sq_yes rfl rfl J rfl (ev_len_map sl24 J) ?_
      refine sq_yes rfl rfl J rfl (ev_eql J J) ?_
      refine sq_ev rfl (ev_pickT (v := .raw _) J J) ?_
      refine mvr J rfl (ymr rfl rfl J rfl J (sq_yes rfl rfl J rfl (ev_eql J J) ?_))
      refine sq_ev rfl (ev_pickT (v := .raw _) J J) ?_
      refine mvr J rfl (ymr rfl rfl J rfl J (sq_yes rfl rfl J rfl (ev_eql J J) ?_))
      refine sq_ev rfl (ev_pickT (v := .raw _) J J) ?_
      refine mvr J rfl (ymr rfl rfl J rfl J (sq_yes rfl rfl J rfl (ev_eql J J) ?_))
      refine sq_ev rfl (ev_pickT (v := .raw _) J J) ?_
      refine mvr J rfl (sq_yes rfl rfl J rfl (ev_call en27 J (known_pure) trivial) ?_)
      refine sq_ev rfl (ev_pickT (v := .raw _) J J) ?_
      refine asr J rfl (sq_nil (aw_ret ?_))
      exact retQ_pure (v := .raw _) rfl rfl J
    · skip
      have c_80' := c_80
      try simp only [qq] at c_80'
      first | exact absurd c_80 (by decide) | (exfalso; simp at c_80; done) | (exfalso; simp at c_80; omega) | (exfalso; simp_all; done) | (exfalso; simp_all; omega)
set_option maxRecDepth 20000 in
theorem shadows_111 {c : Ca} (k23 : APure Tryz.prog 23 [strs c.f] (B true)) (k74 : APure Tryz.prog 74 [stA c.s] (I 0)) (k24 : APure Tryz.prog 24 [stA c.s] (B true)) (k75 : APure Tryz.prog 75 [fgA c.f] (I 0)) (k25 : APure Tryz.prog 25 [fgA c.f] (B true)) (k26 : APure Tryz.prog 26 [stA c.s, pcA c.p] (B true)) {l : List (List UInt8)} {n m : Int} (k28 : APure Tryz.prog 28 [stA c.s, fgA c.f, pcA c.p] (.tup [strs l, I 0])) (k33 : APure Tryz.prog 33 [stA c.s, fgA c.f, pcA c.p] (.tup [I n, I m, I 0])) (k76 : APure Tryz.prog 76 [stA c.s, fgA c.f, pcA c.p] (strs l)) (k77 : APure Tryz.prog 77 [strs l, strs l] (B true)) (k41 : APure Tryz.prog 41 [strs l, C 35] (I n)) (k41' : APure Tryz.prog 41 [strs l, C 43] (I m)) : APure Tryz.prog 18 [stA c.s, fgA c.f, pcA c.p] (B true) := by
  refine apure_of (rs := [.tmp 6]) Tryz.func18 rfl rfl (Nat.le_of_ble_eq_true rfl) (by simp [AV.pureL, AV.pureB, AV.pureE, pureE_map]) (by first | rfl | (simp [AV.pureL, AV.pureB, AV.pureE, pureE_map])) fun e0 he0 => ?_
  refine aw_seq (aw_region (sq_box rfl J rfl (sq_box rfl J rfl ?_)))
  refine sq_box rfl J rfl (asr J rfl (sq_nil (aw_seq (aw_seq (aw_region (sq_ev rfl (ev_fieldAddr fo26_0 J) ?_))))))
  refine sq_ev rfl (ev_load J rfl ty24 rfl) ?_
  refine sq_ev rfl (ev_call en23 J (k23) ⟨J, trivial⟩) ?_
  refine sq_ev rfl (ev_not J) ?_
  refine sq_nil ?_
  refine aw_cond J (fun c_18 => ?_) (fun c_18 => ?_)
  · skip
    have c_18' := c_18
    try simp only [qq] at c_18'
    first | exact absurd c_18 (by decide) | (exfalso; simp at c_18; done) | (exfalso; simp at c_18; omega) | (exfalso; simp_all; done) | (exfalso; simp_all; omega)
  · skip
    have c_18' := c_18
    try simp only [qq] at c_18'
    refine aw_skip (aw_seq (aw_region (sq_ev rfl (ev_load_agg J rfl ty23 rfl) ?_)))
    refine sq_ev rfl (ev_call en74 J (k74) ⟨J, trivial⟩) ?_
    refine asr J rfl (sq_nil (aw_seq (aw_region (sq_ev rfl (ev_load_agg J rfl ty26 rfl) ?_))))
    refine sq_ev rfl (ev_call en75 J (k75) ⟨J, trivial⟩) ?_
    refine asr J rfl (sq_nil (aw_seq (aw_seq (aw_region (mvr J rfl (sq_ev rfl (ev_eql J J) ?_))))))
    refine sq_ev rfl (ev_load_agg J rfl ty23 rfl) ?_
    refine sq_ev rfl (ev_call en24 J (k24) ⟨J, trivial⟩) ?_
    refine sq_ev rfl (ev_neqB un4 J J) ?_
    refine mvr J rfl (ymr rfl rfl J rfl J (sq_yes rfl rfl J rfl (ev_neq J J) ?_))
    refine ymr rfl rfl J rfl J (sq_no rfl rfl J rfl rfl (sq_no rfl rfl J rfl rfl (sq_yes rfl rfl J rfl (ev_pickF (v := .raw _) J J) ?_)))
    refine pf rfl J J (mvr J rfl (ymr rfl rfl J rfl J (sq_yes rfl rfl J rfl (ev_eql J J) ?_)))
    refine sq_yes rfl rfl J rfl (ev_load_agg J rfl ty26 rfl) ?_
    refine sq_yes rfl rfl J rfl (ev_call en25 J (k25) ⟨J, trivial⟩) ?_
    refine sq_yes rfl rfl J rfl (ev_neqB un4 J J) ?_
    refine pf rfl J J (mvr J rfl (ymr rfl rfl J rfl J (sq_yes rfl rfl J rfl (ev_neq J J) ?_)))
    refine ymr rfl rfl J rfl J (sq_no rfl rfl J rfl rfl (sq_no rfl rfl J rfl rfl (sq_yes rfl rfl J rfl (ev_pickF (v := .raw _) J J) ?_)))
    refine pf rfl J J (sq_nil ?_)
    refine aw_false J ?_
    refine aw_skip (aw_seq (aw_region (sq_ev rfl (ev_load_agg J rfl ty23 rfl) ?_)))
    refine sq_ev rfl (ev_load_agg J rfl ty26 rfl) ?_
    refine sq_ev rfl (ev_load_agg J rfl ty28 rfl) ?_
    refine sq_ev rfl (ev_call en28 J (k28) ⟨J, J, J, trivial⟩) ?_
    refine sq_ev rfl (ev_mv (v := .tup _) J) ?_
    refine xtr rfl J rfl ?_
    refine xtr rfl J rfl (ass rfl J (asr J rfl (sq_nil (aw_seq (aw_region (sq_ev rfl (ev_load_agg J rfl ty23 rfl) ?_))))))
    refine sq_ev rfl (ev_load_agg J rfl ty26 rfl) ?_
    refine sq_ev rfl (ev_load_agg J rfl ty28 rfl) ?_
    refine sq_ev rfl (ev_call en33 J (k33) ⟨J, J, J, trivial⟩) ?_
    refine sq_ev rfl (ev_mv (v := .tup _) J) ?_
    refine xtr rfl J rfl (xtr rfl J rfl (xtr rfl J rfl (asr J rfl ?_)))
    refine asr J rfl (asr J rfl (sq_nil (aw_seq (aw_seq (aw_region (sq_ev rfl (ev_load_agg J rfl ty23 rfl) ?_))))))
    refine sq_ev rfl (ev_call en24 J (k24) ⟨J, trivial⟩) ?_
    refine sq_ev rfl (ev_not J) ?_
    refine mvr J rfl (sq_yes rfl rfl J rfl (ev_load_agg J rfl ty26 rfl) ?_)
    refine sq_yes rfl rfl J rfl (ev_call en25 J (k25) ⟨J, trivial⟩) ?_
    refine sq_yes rfl rfl J rfl (ev_not J) ?_
    refine pf rfl J J (mvr J rfl (sq_yes rfl rfl J rfl (ev_load_agg J rfl ty23 rfl) ?_))
    refine sq_yes rfl rfl J rfl (ev_load_agg J rfl ty28 rfl) ?_
    refine sq_yes rfl rfl J rfl (ev_call en26 J (k26) ⟨J, J, trivial⟩) ?_
    refine sq_yes rfl rfl J rfl (ev_not J) ?_
    refine pf rfl J J (sq_nil ?_)
    refine aw_cond J (fun c_80 => ?_) (fun c_80 => ?_)
    · skip
      have c_80' := c_80
      try simp only [qq] at c_80'
      first | exact absurd c_80 (by decide) | (exfalso; simp at c_80; done) | (exfalso; simp at c_80; omega) | (exfalso; simp_all; done) | (exfalso; simp_all; omega)
    · skip
      have c_80' := c_80
      try simp only [qq] at c_80'
      refine aw_skip (aw_seq (aw_region (sq_ev rfl (ev_load_agg J rfl ty23 rfl) ?_)))
      refine sq_ev rfl (ev_load_agg J rfl ty26 rfl) ?_
      refine sq_ev rfl (ev_load_agg J rfl ty28 rfl) ?_
      refine sq_ev rfl (ev_call en76 J (k76) ⟨J, J, J, trivial⟩) ?_
      refine ass rfl J (sq_nil (aw_seq (aw_region (mvr J rfl (sq_ev rfl (ev_eql J J) ?_)))))
      refine mvr J rfl ?_
      refine ysl rfl rfl J rfl J ?_
      refine ysl rfl rfl J rfl J ?_
      refine sq_yes rfl rfl J rfl (ev_call en77 J (k77) ⟨J, J, trivial⟩) ?_
      refine sq_ev rfl (ev_pickT (v := .raw _) J J) ?_
      refine mvr J rfl (ymr rfl rfl J rfl J (sq_yes rfl rfl J rfl (ev_eql J J) ?_))
      refine sq_ev rfl (ev_pickT (v := .raw _) J J) ?_
      refine mvr J rfl (ymr rfl rfl J rfl J ?_)
      refine ysl rfl rfl J rfl J ?_
      refine sq_yes rfl rfl J rfl (ev_call en41 J (k41) ⟨J, J, trivial⟩) ?_
      refine sq_yes rfl rfl J rfl (ev_eql J J) ?_
      refine sq_ev rfl (ev_pickT (v := .raw _) J J) ?_
      refine mvr J rfl ?_
      refine sq_split 124 J (fun g12_17 => ?_) (fun g12_17 => ?_)
      · skip
        have g12_17' := g12_17
        try simp only [qq] at g12_17'
        refine sq_yes rfl rfl (less_b g12_17) rfl (ev_mv (v := .raw _) J) ?_
        refine sq_yes rfl rfl (less_b g12_17) rfl (ev_mv (v := .sl _ _) J) ?_
        refine sq_yes rfl rfl (less_b g12_17) rfl (ev_call en41 J (k41') ⟨J, J, trivial⟩) ?_
        refine sq_yes rfl rfl (less_b g12_17) rfl (ev_eql J J) ?_
        refine sq_ev rfl (ev_pickT (v := .raw _) (less_b g12_17) J) ?_
        refine mvr J rfl ?_
        refine sq_split 130 J (fun g12_23 => ?_) (fun g12_23 => ?_)
        · skip
          have g12_23' := g12_23
          try simp only [qq] at g12_23'
          refine sq_yes rfl rfl (less_b g12_23) rfl (ev_call en27 J (known_pure) trivial) ?_
          refine sq_ev rfl (ev_pickT (v := .raw _) (less_b g12_23) J) ?_
          refine asr J rfl (sq_nil (aw_ret ?_))
          exact retQ_pure (v := .raw _) rfl rfl J
        · skip
          have g12_23' := g12_23
          try simp only [qq] at g12_23'
          first | exact absurd g12_23 (by decide) | (exfalso; simp at g12_23; done) | (exfalso; simp at g12_23; omega) | (exfalso; simp_all; done) | (exfalso; simp_all; omega)
      · skip
        have g12_17' := g12_17
        try simp only [qq] at g12_17'
        first | exact absurd g12_17 (by decide) | (exfalso; simp at g12_17; done) | (exfalso; simp at g12_17; omega) | (exfalso; simp_all; done) | (exfalso; simp_all; omega)
/-- **OutlineShadows.** -/
theorem law18 (s : Sg) (f : Fg) (p : Pc) : APure Tryz.prog 18 [stA s, fgA f, pcA p] (B true) := by
  obtain ⟨c, rfl, rfl, rfl⟩ : ∃ c : Ca, s = c.s ∧ f = c.f ∧ p = c.p := ⟨⟨s, f, p⟩, rfl, rfl, rfl⟩
  have k23 := short_pure c.f
  cases h1 : shortB c.f with
  | false => rw [h1] at k23; exact shadows_long k23
  | true =>
    rw [h1] at k23
    have k74 := check_pure c.s
    have k24 := rstage_pure c.s
    have k75 := checkf_pure c.f
    have k25 := rfigure_pure c.f
    have k28 := shadowE_pure c
    have k33 := counts_pure c
    cases h2 : stOK c.s with
    | false =>
      have ho : caOK c = false := by unfold caOK; rw [h2]; rfl
      rw [h2] at k74 k24
      simp only [ho, Bool.false_eq_true, if_false] at k28 k33
      cases h3 : fgOK c.f with
      | false => rw [h3] at k75 k25; exact shadows_000 k23 k74 k24 k75 k25 k28 k33
      | true => rw [h3] at k75 k25; exact shadows_010 k23 k74 k24 k75 k25 k28 k33
    | true =>
      rw [h2] at k74 k24
      have hs := stOK_iff.1 h2
      cases h3 : fgOK c.f with
      | false =>
        have ho : caOK c = false := by unfold caOK; rw [h2, h3]; rfl
        rw [h3] at k75 k25
        simp only [ho, Bool.false_eq_true, if_false] at k28 k33
        exact shadows_100 k23 k74 k24 k75 k25 k28 k33
      | true =>
        rw [h3] at k75 k25
        have k26 := rplace_pure c.s c.p (by omega)
        cases h4 : pcOK c.s c.p with
        | false =>
          have ho : caOK c = false := by unfold caOK; rw [h2, h3, h4]; rfl
          rw [h4] at k26
          simp only [ho, Bool.false_eq_true, if_false] at k28 k33
          exact shadows_110 k23 k74 k24 k75 k25 k26 k28 k33
        | true =>
          have ho : caOK c = true := by unfold caOK; rw [h2, h3, h4]; rfl
          rw [h4] at k26
          simp only [ho, if_true, show er true = 0 from rfl] at k28 k33
          have hc := caOK_B ho
          have hl : c.shadow.length ≤ 1000 := by rw [shadow_len]; omega
          have hr : ∀ r ∈ c.shadow, r.length ≤ 1000 := fun r hr => by rw [shadow_wide hr]; omega
          have k77 := samec_pure c.shadow c.shadow (by omega) (by omega)
          rw [decide_eq_true rfl] at k77
          exact shadows_111 k23 k74 k24 k75 k25 k26 k28 k33 (rshadow_pure hc) k77 (rcount_pure c.shadow 35 hl hr) (rcount_pure c.shadow 43 hl hr)
end Go.Proofs.YtmbknoaneglilaaGreatDoor
