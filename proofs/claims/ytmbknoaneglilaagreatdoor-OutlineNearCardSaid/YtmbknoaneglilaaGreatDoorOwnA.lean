/-
  A part of the proof: conditions: none beyond each theorem's own.
-/
import Derived.Test.YtmbknoaneglilaaGreatDoorSpecA
import Derived.Test.YtmbknoaneglilaaGreatDoorLogicD
import Derived.KernelRfl
import Derived.Lib.LaidTab
import Derived.Lib.ItoaNum
import Derived.Test.YtmbknoaneglilaaGreatDoorProg
import Derived.Test.YtmbknoaneglilaaGreatDoorWalkB
import Derived.Test.YtmbknoaneglilaaGreatDoorWalkG
import Derived.Test.YtmbknoaneglilaaGreatDoorLogicA
import Derived.Test.YtmbknoaneglilaaGreatDoorLogicB
import Derived.Test.YtmbknoaneglilaaGreatDoorLogicC
import Derived.Test.YtmbknoaneglilaaGreatDoorShelf
import Derived.Test.YtmbknoaneglilaaGreatDoorWalkA
import Derived.Test.YtmbknoaneglilaaGreatDoorWalkC
import Derived.Test.YtmbknoaneglilaaGreatDoorWalkD
import Derived.Test.YtmbknoaneglilaaGreatDoorWalkE
import Derived.Test.YtmbknoaneglilaaGreatDoorWalkF
import Derived.Test.YtmbknoaneglilaaGreatDoorRow
set_option linter.all false
set_option maxHeartbeats 8000000
namespace Ol
open Ni (inn)
namespace Ca
end Ca
theorem caOK_at {c : Ca} (h : caOK c = true) {n : Int} (h1 : 0 ≤ n) (h2 : n ≤ c.s.far - 1) : caOK (c.atN n) = true := by
  unfold caOK at h ⊢
  simp only [Bool.and_eq_true] at h ⊢
  refine ⟨h.1, pcOK_iff.2 ⟨⟨h1, h2⟩, (pcOK_iff.1 h.2).2⟩⟩
namespace Ca
end Ca
end Ol
namespace Ol
open Ni (inn)
theorem mists_iff {a b : List Th} : mists a b = true ↔ ∃ t ∈ a, ∃ u ∈ b, agree t.sh u.sh = true := by
  unfold mists mist; simp only [List.any_eq_true]
theorem pairI_inv {L : List (List Th)} {i : Nat} (h : pairI L i = none) : ∀ k, i < k → k < L.length → mists (L.getD i []) (L.getD k []) = false := by
  intro k hik hk
  unfold pairI at h
  cases hf : (List.range L.length).find? (fun k => decide (i < k) && mists (L.getD i []) (L.getD k [])) with
  | some q => rw [hf] at h; cases h
  | none =>
    rw [List.find?_eq_none] at hf
    have := hf k (List.mem_range.2 hk)
    simpa [hik] using this
theorem pair_none_inv {L : List (List Th)} (h : pairOf L = none) : ∀ i k, i < k → k < L.length → mists (L.getD i []) (L.getD k []) = false := by
  intro i k hik hk
  unfold pairOf at h
  rw [List.findSome?_eq_none_iff] at h
  exact pairI_inv (h i (List.mem_range.2 (by omega))) k hik hk
theorem findSome_inv {α : Type} {f : Nat → Option α} : ∀ {n : Nat} {a : α}, (List.range n).findSome? f = some a → ∃ i, i < n ∧ f i = some a ∧ ∀ j, j < i → f j = none
  | 0, a, h => by simp at h
  | n + 1, a, h => by
    rw [List.range_succ, List.findSome?_append] at h
    cases hp : (List.range n).findSome? f with
    | some b =>
      rw [hp] at h; simp only [Option.some_or, Option.some.injEq] at h; subst h
      obtain ⟨i, h1, h2, h3⟩ := findSome_inv hp
      exact ⟨i, by omega, h2, h3⟩
    | none =>
      rw [hp] at h
      rw [List.findSome?_eq_none_iff] at hp
      refine ⟨n, by omega, by simpa using h, fun j hj => hp j (List.mem_range.2 hj)⟩
theorem pair_some_inv {L : List (List Th)} {a b : Nat} (h : pairOf L = some (a, b)) : (a < b ∧ b < L.length) ∧ ∀ i k, i < k → k < L.length → mists (L.getD i []) (L.getD k []) = true → a < i ∨ (a = i ∧ b ≤ k) := by
  obtain ⟨i0, hi0, hp, hno⟩ := findSome_inv h
  have hp' := hp
  unfold pairI at hp'
  cases hf : (List.range L.length).find? (fun k => decide (i0 < k) && mists (L.getD i0 []) (L.getD k [])) with
  | none => rw [hf] at hp'; cases hp'
  | some q =>
    rw [hf] at hp'
    simp only [Option.map_some, Option.some.injEq, Prod.mk.injEq] at hp'
    obtain ⟨rfl, rfl⟩ := hp'
    rw [List.find?_range_eq_some] at hf
    obtain ⟨h1, h2, h3⟩ := hf
    simp only [Bool.and_eq_true, decide_eq_true_eq] at h1
    refine ⟨⟨h1.1, List.mem_range.1 h2⟩, fun i k hik hk hm => ?_⟩
    rcases Nat.lt_trichotomy i0 i with h | h | h
    · exact .inl h
    · subst h
      refine .inr ⟨rfl, ?_⟩
      rcases Nat.lt_or_ge k q with hq | hq
      · have := h3 k hq
        simp only [hik, decide_true, Bool.true_and, hm, Bool.not_true] at this
        cases this
      · exact hq
    · have := pairI_inv (hno i h) k hik hk
      rw [hm] at this; cases this
end Ol
namespace Ol
open Ni (inn)
theorem mts_ex {c : Ca} (hF : 0 < c.s.far) {e : Int × Int} (h : e.1 < e.2) : ∃ i, i ∈ rng (c.mts e).1 (c.mts e).2 := by
  refine ⟨e.1 / c.s.far, (mem_mts hF).2 ⟨?_, ?_⟩⟩
  · exact (floor_le hF).1 (Int.le_refl _)
  · have := Int.ediv_mul_le e.1 (show c.s.far ≠ 0 by omega); omega
theorem boxAll_iff {c : Ca} {h v : Int × Int} : c.boxAll h v = true ↔ ∀ m ∈ rng v.1 v.2, ∀ i ∈ rng h.1 h.2, c.hide m i = true := by
  unfold Ca.boxAll Ca.rowAll; simp only [List.all_eq_true]
theorem CaB.good {c : Ca} (h : CaB c) : Good c := by
  have h1 := h.st; have h2 := h.pc
  exact ⟨by omega, by omega, by omega, by omega⟩
theorem frm_step (c : Ca) (k axis edge : Int) : c.frm (k + 1) axis edge = c.frm k axis edge + (c.s.far - c.p.near) := by
  unfold Ca.frm
  rw [show k + 1 - axis = (k - axis) + 1 by omega, Int.add_mul]; omega
theorem acr_lt {c : Ca} (h : Good c) (k : Int) : (c.acr k).1 < (c.acr k).2 := by
  have := h.blur; have := h.near
  unfold Ca.acr; simp only; rw [frm_step]; omega
theorem dwn_lt {c : Ca} (h : Good c) (k : Int) : (c.dwn k).1 < (c.dwn k).2 := by
  have := h.blur; have := h.near
  unfold Ca.dwn; simp only; rw [frm_step]; omega
theorem cell_46 {c : Ca} (g : Good c) {k m : Int} : c.cell k m = 46 ↔ ∀ j ∈ rng (c.mts (c.dwn m)).1 (c.mts (c.dwn m)).2, ∀ i ∈ rng (c.mts (c.acr k)).1 (c.mts (c.acr k)).2, c.hide j i = false := by
  have hno : c.boxAny (c.mts (c.acr k)) (c.mts (c.dwn m)) = false ↔ ∀ j ∈ rng (c.mts (c.dwn m)).1 (c.mts (c.dwn m)).2, ∀ i ∈ rng (c.mts (c.acr k)).1 (c.mts (c.acr k)).2, c.hide j i = false := by
    unfold Ca.boxAny Ca.rowAny
    simp only [List.any_eq_false, Bool.not_eq_true]
  rw [← hno]
  unfold Ca.cell Ca.cellAt
  by_cases h : c.boxAll (c.mts (c.acr k)) (c.mts (c.dwn m)) = true
  · rw [if_pos h]
    obtain ⟨i, hi⟩ := mts_ex g.far (acr_lt g k)
    obtain ⟨j, hj⟩ := mts_ex g.far (dwn_lt g m)
    refine ⟨fun e => (by cases e), fun e => ?_⟩
    rw [hno] at e
    have h1 := boxAll_iff.1 h j hj i hi
    rw [e j hj i hi] at h1; cases h1
  · rw [if_neg h]
    cases hb : c.boxAny (c.mts (c.acr k)) (c.mts (c.dwn m)) with
    | true => rw [if_pos rfl]; exact ⟨fun e => (by cases e), fun e => (by cases e)⟩
    | false => rw [if_neg (by simp)]; exact ⟨fun _ => rfl, fun _ => rfl⟩
theorem Gr.good {c d : Ca} (g : Gr c d) (h : Good c) : Good d := ⟨by rw [g.f]; exact h.far, by rw [g.f, g.p]; exact h.near, by rw [g.p]; exact h.pos, by have := h.fl; have := g.fl; omega⟩
theorem fitsD_mono {c : Ca} {n n' : Int} (h0 : 0 ≤ n') (h : n' ≤ n) (hfl : 0 ≤ c.s.flame) {a e l w : Int} (ha : 0 ≤ a) (haw : a ≤ w) (hf : (c.atN n).fitsD a e l w = true) : (c.atN n').fitsD a e l w = true := by
  unfold Ca.fitsD Ca.blur Ca.atN at hf ⊢
  simp only [Bool.not_eq_true', Bool.or_eq_false_iff, decide_eq_false_iff_not] at hf ⊢
  obtain ⟨t, rfl⟩ : ∃ t : Int, n = n' + t := ⟨n - n', by omega⟩
  have ht : 0 ≤ t := by omega
  have e1 := Int.mul_nonneg ha ht
  have e2 := Int.mul_nonneg hfl ht
  have e3 := Int.mul_nonneg (show 0 ≤ w - a by omega) ht
  have x1 : a * (c.s.far - (n' + t)) = a * (c.s.far - n') - a * t := by rw [show c.s.far - (n' + t) = (c.s.far - n') - t by omega, Int.mul_sub]
  have x2 : w * (c.s.far - (n' + t)) = w * (c.s.far - n') - w * t := by rw [show c.s.far - (n' + t) = (c.s.far - n') - t by omega, Int.mul_sub]
  have x3 : c.s.flame * (n' + t) = c.s.flame * n' + c.s.flame * t := Int.mul_add _ _ _
  have x4 : (w - a) * t = w * t - a * t := Int.sub_mul _ _ _
  rw [x1, x3, x2] at hf
  omega
theorem fits_mono {c : Ca} (hs : stOK c.s = true) {n n' : Int} (h0 : 0 ≤ n') (h : n' ≤ n) (hf : (c.atN n).fits = true) : (c.atN n').fits = true := by
  have hb := stOK_iff.1 hs
  unfold Ca.fits at hf ⊢
  rw [Bool.and_eq_true] at hf ⊢
  exact ⟨fitsD_mono h0 h (by omega) (by show 0 ≤ c.s.x; omega) (by show c.s.x ≤ c.s.wide; omega) hf.1, fitsD_mono h0 h (by omega) (by show 0 ≤ c.s.y; omega) (by show c.s.y ≤ c.s.high; omega) hf.2⟩
theorem mostN_some {c : Ca} : ∀ {N n : Nat}, c.mostN N = some n → n < N ∧ (c.atN n).fits = true
  | 0, n, h => by simp [Ca.mostN] at h
  | N + 1, n, h => by
    unfold Ca.mostN at h
    split at h
    · rename_i hf; injection h with h; subst h; exact ⟨by omega, hf⟩
    · have := mostN_some h; exact ⟨by omega, this.2⟩
theorem mostN_ge {c : Ca} : ∀ {N k : Nat}, k < N → (c.atN k).fits = true → ∃ n, c.mostN N = some n ∧ k ≤ n
  | N + 1, k, hk, hf => by
    unfold Ca.mostN
    by_cases h : (c.atN N).fits = true
    · rw [if_pos h]; exact ⟨N, rfl, by omega⟩
    · rw [if_neg h]
      by_cases e : k = N
      · subst e; exact absurd hf h
      · exact mostN_ge (by omega) hf
theorem fits_most {c : Ca} (h : caOK c = true) : c.fits = true ↔ ∃ n : Nat, c.most = some n ∧ c.p.near ≤ n := by
  have hb := (caOK_B h)
  have hs : stOK c.s = true := by unfold caOK at h; simp only [Bool.and_eq_true] at h; exact h.1.1
  have hp := hb.pc
  have ea : c = c.atN c.p.near := rfl
  constructor
  · intro hf
    rw [ea] at hf
    obtain ⟨k, hk⟩ : ∃ k : Nat, c.p.near = k := ⟨c.p.near.toNat, by omega⟩
    rw [hk] at hf
    obtain ⟨n, h1, h2⟩ := mostN_ge (c := c) (N := c.s.far.toNat) (k := k) (by omega) hf
    exact ⟨n, h1, by omega⟩
  · rintro ⟨n, h1, h2⟩
    obtain ⟨h3, h4⟩ := mostN_some h1
    rw [ea]
    exact fits_mono hs (by omega) h2 h4
theorem most_lt {c : Ca} {n : Nat} (h : c.most = some n) : n < c.s.far.toNat := (mostN_some h).1
theorem fades_inv {c : Ca} {n : Nat} (h : c.fades = some n) : n < c.s.far.toNat ∧ cnt 35 (c.atN n).shadow = 0 ∧ ∀ i : Nat, i < n → cnt 35 (c.atN i).shadow ≠ 0 := by
  unfold Ca.fades at h
  rw [List.find?_range_eq_some] at h
  obtain ⟨h1, h2, h3⟩ := h
  unfold Ca.fadeB at h1
  refine ⟨List.mem_range.1 h2, by simpa using h1, fun i hi => ?_⟩
  have := h3 i hi
  unfold Ca.fadeB at this
  simpa using this
theorem fades_no {c : Ca} (h : c.fades = none) : ∀ i : Nat, i < c.s.far.toNat → cnt 35 (c.atN i).shadow ≠ 0 := by
  unfold Ca.fades at h
  rw [List.find?_eq_none] at h
  intro i hi
  have := h i (List.mem_range.2 hi)
  unfold Ca.fadeB at this
  simpa using this
end Ol
namespace Ol
open Ni (inn)
theorem cnt_le (ch : UInt8) (w : Nat) : ∀ (l : List (List UInt8)), (∀ r ∈ l, r.length ≤ w) → 0 ≤ cnt ch l ∧ cnt ch l ≤ (l.length : Int) * w
  | [], _ => by simp [cnt]
  | r :: l, h => by
    have ih := cnt_le ch w l fun q hq => h q (by simp [hq])
    have h1 := h r (by simp)
    have h2 := List.count_le_length (a := ch) (l := r)
    unfold cnt at ih ⊢
    rw [List.map_cons, List.sum_cons, List.length_cons]
    rw [show ((l.length + 1 : Nat) : Int) * (w : Int) = (l.length : Int) * w + w by rw [Int.natCast_add, Int.add_mul]; simp]
    omega
theorem cnt_pos {ch : UInt8} {l : List (List UInt8)} : 0 < cnt ch l ↔ ∃ r ∈ l, ch ∈ r := by
  induction l with
  | nil => simp [cnt]
  | cons r l ih =>
    have h0 : 0 ≤ cnt ch l := (cnt_le ch ((l.map List.length).sum + 0) l (fun q hq => by
      have : ∀ (L : List (List UInt8)), q ∈ L → q.length ≤ (L.map List.length).sum := fun L => by
        induction L with
        | nil => intro h; cases h
        | cons a L ih => intro h; rw [List.map_cons, List.sum_cons]; rcases List.mem_cons.1 h with rfl | h; omega; have := ih h; omega
      have := this l hq; omega)).1
    have e : cnt ch (r :: l) = (r.count ch : Int) + cnt ch l := by unfold cnt; rw [List.map_cons, List.sum_cons]
    rw [e]
    constructor
    · intro h
      by_cases h1 : ch ∈ r
      · exact ⟨r, by simp, h1⟩
      · rw [List.count_eq_zero.2 h1] at h
        obtain ⟨q, hq, h2⟩ := ih.1 (by simpa using h)
        exact ⟨q, by simp [hq], h2⟩
    · rintro ⟨q, hq, h2⟩
      rcases List.mem_cons.1 hq with rfl | hq
      · have := List.count_pos_iff.2 h2; omega
      · have := ih.2 ⟨q, hq, h2⟩; omega
theorem shadow_len (c : Ca) : c.shadow.length = c.s.high.toNat := by simp [Ca.shadow]
theorem shadow_wide {c : Ca} {r : List UInt8} (h : r ∈ c.shadow) : r.length = c.s.wide.toNat := by
  unfold Ca.shadow at h
  obtain ⟨m, _, rfl⟩ := List.mem_map.1 h
  simp [Ca.srow]
theorem mem_shadow {c : Ca} {ch : UInt8} : (∃ r ∈ c.shadow, ch ∈ r) ↔ ∃ m k : Nat, m < c.s.high.toNat ∧ k < c.s.wide.toNat ∧ c.cell k m = ch := by
  unfold Ca.shadow Ca.srow
  constructor
  · rintro ⟨r, hr, hc⟩
    obtain ⟨m, hm, rfl⟩ := List.mem_map.1 hr
    obtain ⟨k, hk, rfl⟩ := List.mem_map.1 hc
    exact ⟨m, k, List.mem_range.1 hm, List.mem_range.1 hk, rfl⟩
  · rintro ⟨m, k, hm, hk, rfl⟩
    exact ⟨_, List.mem_map.2 ⟨m, List.mem_range.2 hm, rfl⟩, List.mem_map.2 ⟨k, List.mem_range.2 hk, rfl⟩⟩
theorem cnt_shadow (c : Ca) (hs : stOK c.s = true) (ch : UInt8) : 0 ≤ cnt ch c.shadow ∧ cnt ch c.shadow ≤ c.s.wide * c.s.high := by
  have hb := stOK_iff.1 hs
  have := cnt_le ch c.s.wide.toNat c.shadow fun r hr => by rw [shadow_wide hr]; omega
  rw [shadow_len, show ((c.s.high.toNat : Nat) : Int) = c.s.high by omega, show ((c.s.wide.toNat : Nat) : Int) = c.s.wide by omega, Int.mul_comm] at this
  exact this
theorem wh_le {s : Sg} (hs : stOK s = true) : 1 ≤ s.wide * s.high ∧ s.wide * s.high ≤ 256 := by
  have hb := stOK_iff.1 hs
  have h1 := Int.mul_le_mul hb.1.2 hb.2.1.2 (by omega) (by omega)
  have h2 := Int.mul_le_mul hb.1.1 hb.2.1.1 (by omega) (by omega)
  omega
theorem cell_ch3 (c : Ca) (k m : Int) : c.cell k m = 35 ∨ c.cell k m = 43 ∨ c.cell k m = 46 := by
  unfold Ca.cell Ca.cellAt
  split
  · exact .inl rfl
  · split
    · exact .inr (.inl rfl)
    · exact .inr (.inr rfl)
theorem fall {F D b a e l w i : Int} (hD : 0 < D) (hF : 0 < F) (hb : 0 ≤ b) (h1 : b ≤ a * D + (e - a) * F) (h2 : a * D + (e + l - a) * F + b ≤ w * D) (hi : 0 ≤ i) (hil : i < l) :
    ∃ k, 0 ≤ k ∧ k < w ∧ ((a - e) * F + (k - a) * D - b < (i + 1) * F ∧ i * F < (a - e) * F + (k + 1 - a) * D + b) := by
  refine ⟨(a * D + (e + i - a) * F) / D, ?_, ?_, ?_, ?_⟩
  all_goals
    have iF : 0 ≤ i * F := Int.mul_nonneg hi (by omega)
    have lF : (i + 1) * F ≤ l * F := Int.mul_le_mul_of_nonneg_right (by omega) (by omega)
    have q1 : (e + i - a) * F = (e - a) * F + i * F := by rw [show e + i - a = (e - a) + i by omega, Int.add_mul]
    have q2 : (e + l - a) * F = (e - a) * F + l * F := by rw [show e + l - a = (e - a) + l by omega, Int.add_mul]
    have q3 : (i + 1) * F = i * F + F := by rw [Int.add_mul]; omega
    have q4 : (a - e) * F = -((e - a) * F) := by rw [show a - e = -(e - a) by omega, Int.neg_mul]
  · exact Int.ediv_nonneg (by omega) (by omega)
  · exact (Int.ediv_lt_iff_lt_mul hD).2 (by omega)
  · have := Int.ediv_mul_le (a * D + (e + i - a) * F) (show D ≠ 0 by omega)
    rw [Int.sub_mul _ a D]; omega
  · have := Int.lt_ediv_add_one_mul_self (a * D + (e + i - a) * F) hD
    rw [Int.sub_mul _ a D]; omega
theorem fg_dark {f : Fg} (h : fgOK f = true) : ∃ j i : Nat, ∃ hj : j < f.length, ∃ hi : i < f[j].length, f[j][i] = 35 := by
  unfold fgOK at h
  simp only [Bool.and_eq_true, List.any_eq_true, decide_eq_true_eq] at h
  obtain ⟨r, hr, c, hc, e⟩ := h.2
  obtain ⟨j, hj, rfl⟩ := List.getElem_of_mem hr
  obtain ⟨i, hi, rfl⟩ := List.getElem_of_mem hc
  exact ⟨j, i, hj, hi, e⟩
theorem caOK_f {c : Ca} (h : caOK c = true) : stOK c.s = true ∧ fgOK c.f = true ∧ pcOK c.s c.p = true := by
  unfold caOK at h; simp only [Bool.and_eq_true] at h; exact ⟨h.1.1, h.1.2, h.2⟩
theorem fits_seen {c : Ca} (h : caOK c = true) (hf : c.fits = true) : 0 < cnt 35 c.shadow + cnt 43 c.shadow := by
  have B := caOK_B h
  have g := B.good
  have hs := (caOK_f h).1
  obtain ⟨j, i, hj, hi, hd⟩ := fg_dark (caOK_f h).2.1
  have hw := B.row j hj
  unfold Ca.fits Ca.fitsD at hf
  simp only [Bool.and_eq_true, Bool.not_eq_true', Bool.or_eq_false_iff, decide_eq_false_iff_not, Int.not_lt] at hf
  obtain ⟨⟨a1, a2⟩, b1, b2⟩ := hf
  have hD : 0 < c.s.far - c.p.near := by have := g.near; omega
  obtain ⟨k, k0, k1, k2, k3⟩ := fall (i := (i : Int)) hD g.far g.blur a1 (by omega) (by omega) (by omega)
  obtain ⟨m, m0, m1, m2, m3⟩ := fall (i := (j : Int)) hD g.far g.blur b1 (by omega) (by omega) (by omega)
  have hm : (i : Int) ∈ rng (c.mts (c.acr k)).1 (c.mts (c.acr k)).2 := (mem_mts g.far).2 ⟨k2, k3⟩
  have hn : (j : Int) ∈ rng (c.mts (c.dwn m)).1 (c.mts (c.dwn m)).2 := (mem_mts g.far).2 ⟨m2, m3⟩
  have hne : c.cell k m ≠ 46 := fun e => by
    have h1 := (cell_46 g).1 e _ hn _ hm
    rw [hide_in B hj hi, hd] at h1; cases h1
  have c1 := cnt_shadow c hs 35
  have c2 := cnt_shadow c hs 43
  obtain ⟨m', rfl⟩ : ∃ n : Nat, m = n := ⟨m.toNat, by omega⟩
  obtain ⟨k', rfl⟩ : ∃ n : Nat, k = n := ⟨k.toNat, by omega⟩
  rcases cell_ch3 c k' m' with e | e | e
  · have := cnt_pos.2 (mem_shadow.2 ⟨m', k', by omega, by omega, e⟩); omega
  · have := cnt_pos.2 (mem_shadow.2 ⟨m', k', by omega, by omega, e⟩); omega
  · exact absurd e hne
end Ol
namespace Ol
open Ni (inn)
theorem mem_rdgs {x : Sn} {t : Th} : t ∈ rdgs x ↔ t.rd.fig < x.l.length ∧ t ∈ rdN x t.rd.fig := by
  unfold rdgs
  rw [List.mem_flatMap]
  constructor
  · rintro ⟨i, hi, h⟩
    have := rdN_fig h
    subst this
    exact ⟨List.mem_range.1 hi, h⟩
  · rintro ⟨h1, h2⟩; exact ⟨_, List.mem_range.2 h1, h2⟩
theorem good_mists {x : Sn} {t u : Th} (ht : t ∈ rdgs x) (hu : u ∈ rdgs x) (h : goodP t u) : mists ((byF x).getD t.rd.fig []) ((byF x).getD u.rd.fig []) = true := by
  obtain ⟨a1, a2⟩ := mem_rdgs.1 ht
  obtain ⟨b1, b2⟩ := mem_rdgs.1 hu
  have g : ∀ {i : Nat}, i < x.l.length → (byF x).getD i [] = rdN x i := fun {i} hi => by
    unfold byF; rw [getD_get (by simpa using hi)]; simp
  rw [g a1, g b1]
  exact mists_iff.2 ⟨t, a2, u, b2, h.2⟩
theorem MInv.done {x : Sn} {M : Option (Nat × Nat)} (h : MInv (rdgs x) M (rdgs x).length 0) : misOf x = M := by
  have g : ∀ {i : Nat}, i < x.l.length → (byF x).getD i [] = rdN x i := fun {i} hi => by
    unfold byF; rw [getD_get (by simpa using hi)]; simp
  have hl : (byF x).length = x.l.length := by simp [byF]
  have real : ∀ {a b : Nat}, a < b → b < x.l.length → mists ((byF x).getD a []) ((byF x).getD b []) = true → leM M a b := fun {a b} hab hb hm => by
    rw [g (by omega), g hb] at hm
    obtain ⟨t, ht, u, hu, hag⟩ := mists_iff.1 hm
    have ft := rdN_fig ht
    have fu := rdN_fig hu
    have mt : t ∈ rdgs x := mem_rdgs.2 ⟨by omega, by rw [ft]; exact ht⟩
    have mu : u ∈ rdgs x := mem_rdgs.2 ⟨by omega, by rw [fu]; exact hu⟩
    obtain ⟨p, hp, rfl⟩ := List.getElem_of_mem mt
    obtain ⟨q, hq, rfl⟩ := List.getElem_of_mem mu
    have := h.least p q hp hq (.inl hp) ⟨by omega, hag⟩
    rw [ft, fu] at this; exact this
  cases hm : misOf x with
  | none =>
    cases M with
    | none => rfl
    | some m =>
      obtain ⟨t, ht, u, hu, hg, e1, e2⟩ := h.real m rfl
      have h1 := good_mists ht hu hg
      have h2 := pair_none_inv hm _ _ hg.1 (by rw [hl]; exact (mem_rdgs.1 hu).1)
      rw [h1] at h2; cases h2
  | some m' =>
    obtain ⟨a, b⟩ := m'
    obtain ⟨⟨hab, hbl⟩, hmin⟩ := pair_some_inv hm
    rw [hl] at hbl hmin
    obtain ⟨i, hi, e, _⟩ := findSome_inv (show (List.range (byF x).length).findSome? (pairI (byF x)) = some (a, b) from hm)
    have hmm : mists ((byF x).getD a []) ((byF x).getD b []) = true := by
      unfold pairI at e
      cases hf : (List.range (byF x).length).find? (fun k => decide (i < k) && mists ((byF x).getD i []) ((byF x).getD k [])) with
      | none => rw [hf] at e; cases e
      | some k =>
        rw [hf] at e
        simp only [Option.map_some, Option.some.injEq, Prod.mk.injEq] at e
        have h1 := List.find?_some hf
        simp only [Bool.and_eq_true] at h1
        rw [← e.1, ← e.2]; exact h1.2
    have hle := real hab hbl hmm
    cases M with
    | none => unfold leM at hle; simp only [mA] at hle; omega
    | some m =>
      obtain ⟨t, ht, u, hu, hg, e1, e2⟩ := h.real m rfl
      have h1 := good_mists ht hu hg
      have h2 := hmin _ _ hg.1 (mem_rdgs.1 hu).1 h1
      unfold leM at hle
      simp only [mA, mB] at hle
      obtain ⟨m1, m2⟩ := m
      simp only at *
      congr 1
      refine Prod.ext ?_ ?_ <;> simp only <;> omega
end Ol
namespace Go.Proofs.YtmbknoaneglilaaGreatDoor
open Go Go.Ab Ni Ol
theorem en31 : Ent Tryz.prog 31 := Ent.of Tryz.func31 (by kernel_rfl) rfl
theorem en89 : Ent Tryz.prog 89 := Ent.of Tryz.func89 (by kernel_rfl) rfl
theorem rin_pure (n lo hi : Int) : APure Tryz.prog 89 [I n, I lo, I hi] (B (inn n lo hi)) := by
 refine apure_of (rs := [.tmp 6]) Tryz.func89 rfl rfl (Nat.le_of_ble_eq_true rfl) (by simp [AV.pureL, AV.pureB, AV.pureE, pureE_map]) (by first | rfl | (simp [AV.pureL, AV.pureB, AV.pureE, pureE_map])) fun e0 he0 => ?_
 refine aw_seq (aw_region ?_)
 refine asr J rfl (sq_nil (aw_seq (aw_region (mvr J rfl (mvr J rfl (sq_ev rfl (ev_geq J J) ?_))))))
 refine mvr J rfl ?_
 refine sq_split 10 J (fun g1 => ?_) (fun g1 => ?_)
 ·
  have g1' := g1
  try simp only [qq] at g1'
  refine sq_yes rfl rfl (less_b g1) rfl (ev_mv (v := .raw _) J) ?_
  refine sq_yes rfl rfl (less_b g1) rfl (ev_mv (v := .raw _) J) ?_
  refine sq_yes rfl rfl (less_b g1) rfl (ev_leq J J) ?_
  refine sq_ev rfl (ev_pickT (v := .raw _) (less_b g1) J) ?_
  refine asr J rfl (sq_nil (aw_ret ?_))
  exact retQ_pure (v := .raw _) rfl rfl (Less.eq (by simp [inn, *]))
 have g1' := g1
 try simp only [qq] at g1'
 refine sq_no rfl rfl (less_b g1) rfl rfl ?_
 refine sq_no rfl rfl (less_b g1) rfl rfl ?_
 refine sq_no rfl rfl (less_b g1) rfl rfl ?_
 refine sq_ev rfl (ev_pickF (v := .raw _) (less_b g1) J) ?_
 refine asr J rfl (sq_nil (aw_ret ?_))
 exact retQ_pure (v := .raw _) rfl rfl (Less.eq (by simp [inn, *]))
theorem rstage_pure (s : Sg) : APure Tryz.prog 24 [stA s] (B (stOK s)) := by
 refine apure_of (rs := [.tmp 2]) Tryz.func24 rfl rfl (Nat.le_of_ble_eq_true rfl) (by simp [AV.pureL, AV.pureB, AV.pureE, pureE_map]) (by first | rfl | (simp [AV.pureL, AV.pureB, AV.pureE, pureE_map])) fun e0 he0 => ?_
 refine aw_seq (aw_region (sq_box rfl J rfl (asr J rfl (sq_nil (aw_seq (aw_region (sq_ev rfl (ev_fieldAddr fo23_0 J) ?_)))))))
 refine sq_ev rfl (ev_load J rfl ty3 rfl) ?_
 refine sq_ev rfl (ev_call en89 J (rin_pure _ _ _) ⟨J, J, J, trivial⟩) ?_
 refine mvr J rfl ?_
 refine sq_split 6 J (fun g1 => ?_) (fun g1 => ?_)
 ·
  have g1' := g1
  try simp only [qq] at g1'
  refine sq_yes rfl rfl (less_b g1) rfl (ev_fieldAddr fo23_1 J) ?_
  refine sq_yes rfl rfl (less_b g1) rfl (ev_load J rfl ty3 rfl) ?_
  refine sq_yes rfl rfl (less_b g1) rfl (ev_call en89 J (rin_pure _ _ _) ⟨J, J, J, trivial⟩) ?_
  refine sq_ev rfl (ev_pickT (v := .raw _) (less_b g1) J) ?_
  refine mvr J rfl ?_
  refine sq_split 11 J (fun g2 => ?_) (fun g2 => ?_)
  ·
   have g2' := g2
   try simp only [qq] at g2'
   refine sq_yes rfl rfl (less_b g2) rfl (ev_fieldAddr fo23_2 J) ?_
   refine sq_yes rfl rfl (less_b g2) rfl (ev_load J rfl ty3 rfl) ?_
   refine sq_yes rfl rfl (less_b g2) rfl (ev_call en89 J (rin_pure _ _ _) ⟨J, J, J, trivial⟩) ?_
   refine sq_ev rfl (ev_pickT (v := .raw _) (less_b g2) J) ?_
   refine mvr J rfl ?_
   refine sq_split 16 J (fun g3 => ?_) (fun g3 => ?_)
   ·
    have g3' := g3
    try simp only [qq] at g3'
    refine sq_yes rfl rfl (less_b g3) rfl (ev_fieldAddr fo23_3 J) ?_
    refine sq_yes rfl rfl (less_b g3) rfl (ev_load J rfl ty3 rfl) ?_
    refine sq_yes rfl rfl (less_b g3) rfl (ev_call en89 J (rin_pure _ _ _) ⟨J, J, J, trivial⟩) ?_
    refine sq_ev rfl (ev_pickT (v := .raw _) (less_b g3) J) ?_
    refine mvr J rfl ?_
    refine sq_split 21 J (fun g4 => ?_) (fun g4 => ?_)
    ·
     have g4' := g4
     try simp only [qq] at g4'
     refine sq_yes rfl rfl (less_b g4) rfl (ev_fieldAddr fo23_4 J) ?_
     refine sq_yes rfl rfl (less_b g4) rfl (ev_load J rfl ty3 rfl) ?_
     refine sq_yes rfl rfl (less_b g4) rfl (ev_fieldAddr fo23_0 J) ?_
     refine sq_yes rfl rfl (less_b g4) rfl (ev_load J rfl ty3 rfl) ?_
     refine sq_yes rfl rfl (less_b g4) rfl (ev_call en89 J (rin_pure _ _ _) ⟨J, J, J, trivial⟩) ?_
     refine sq_ev rfl (ev_pickT (v := .raw _) (less_b g4) J) ?_
     refine mvr J rfl ?_
     refine sq_split 28 J (fun g5 => ?_) (fun g5 => ?_)
     ·
      have g5' := g5
      try simp only [qq] at g5'
      refine sq_yes rfl rfl (less_b g5) rfl (ev_fieldAddr fo23_5 J) ?_
      refine sq_yes rfl rfl (less_b g5) rfl (ev_load J rfl ty3 rfl) ?_
      refine sq_yes rfl rfl (less_b g5) rfl (ev_fieldAddr fo23_1 J) ?_
      refine sq_yes rfl rfl (less_b g5) rfl (ev_load J rfl ty3 rfl) ?_
      refine sq_yes rfl rfl (less_b g5) rfl (ev_call en89 J (rin_pure _ _ _) ⟨J, J, J, trivial⟩) ?_
      refine sq_ev rfl (ev_pickT (v := .raw _) (less_b g5) J) ?_
      refine asr J rfl (sq_nil (aw_ret ?_))
      exact retQ_pure (v := .raw _) rfl rfl (Less.eq (by simp [stOK, *]))
     have g5' := g5
     try simp only [qq] at g5'
     refine sq_no rfl rfl (less_b g5) rfl rfl ?_
     refine sq_no rfl rfl (less_b g5) rfl rfl ?_
     refine sq_no rfl rfl (less_b g5) rfl rfl ?_
     refine sq_no rfl rfl (less_b g5) rfl rfl ?_
     refine sq_no rfl rfl (less_b g5) rfl rfl ?_
     refine sq_ev rfl (ev_pickF (v := .raw _) (less_b g5) J) ?_
     refine asr J rfl (sq_nil (aw_ret ?_))
     exact retQ_pure (v := .raw _) rfl rfl (Less.eq (by simp [stOK, *]))
    have g4' := g4
    try simp only [qq] at g4'
    refine sq_no rfl rfl (less_b g4) rfl rfl ?_
    refine sq_no rfl rfl (less_b g4) rfl rfl ?_
    refine sq_no rfl rfl (less_b g4) rfl rfl ?_
    refine sq_no rfl rfl (less_b g4) rfl rfl ?_
    refine sq_no rfl rfl (less_b g4) rfl rfl ?_
    refine sq_ev rfl (ev_pickF (v := .raw _) (less_b g4) J) ?_
    refine mvr J rfl (sq_no rfl rfl J rfl rfl (sq_no rfl rfl J rfl rfl ?_))
    refine sq_no rfl rfl J rfl rfl (sq_no rfl rfl J rfl rfl (sq_no rfl rfl J rfl rfl (pf rfl J J (asr J rfl (sq_nil (aw_ret ?_))))))
    exact retQ_pure (v := .raw _) rfl rfl (Less.eq (by simp [stOK, *]))
   have g3' := g3
   try simp only [qq] at g3'
   refine sq_no rfl rfl (less_b g3) rfl rfl ?_
   refine sq_no rfl rfl (less_b g3) rfl rfl ?_
   refine sq_no rfl rfl (less_b g3) rfl rfl ?_
   refine sq_ev rfl (ev_pickF (v := .raw _) (less_b g3) J) ?_
   refine mvr J rfl (sq_no rfl rfl J rfl rfl (sq_no rfl rfl J rfl rfl ?_))
   refine sq_no rfl rfl J rfl rfl (sq_no rfl rfl J rfl rfl (sq_no rfl rfl J rfl rfl (pf rfl J J (mvr J rfl (sq_no rfl rfl J rfl rfl (sq_no rfl rfl J rfl rfl ?_))))))
   refine sq_no rfl rfl J rfl rfl (sq_no rfl rfl J rfl rfl (sq_no rfl rfl J rfl rfl (pf rfl J J (asr J rfl (sq_nil (aw_ret ?_))))))
   exact retQ_pure (v := .raw _) rfl rfl (Less.eq (by simp [stOK, *]))
  have g2' := g2
  try simp only [qq] at g2'
  refine sq_no rfl rfl (less_b g2) rfl rfl ?_
  refine sq_no rfl rfl (less_b g2) rfl rfl ?_
  refine sq_no rfl rfl (less_b g2) rfl rfl ?_
  refine sq_ev rfl (ev_pickF (v := .raw _) (less_b g2) J) ?_
  refine mvr J rfl ?_
  refine sq_no rfl rfl J rfl rfl (sq_no rfl rfl J rfl rfl (sq_no rfl rfl J rfl rfl (pf rfl J J (mvr J rfl (sq_no rfl rfl J rfl rfl (sq_no rfl rfl J rfl rfl ?_))))))
  refine sq_no rfl rfl J rfl rfl (sq_no rfl rfl J rfl rfl (sq_no rfl rfl J rfl rfl (pf rfl J J (mvr J rfl (sq_no rfl rfl J rfl rfl (sq_no rfl rfl J rfl rfl ?_))))))
  refine sq_no rfl rfl J rfl rfl (sq_no rfl rfl J rfl rfl (sq_no rfl rfl J rfl rfl (pf rfl J J (asr J rfl (sq_nil (aw_ret ?_))))))
  exact retQ_pure (v := .raw _) rfl rfl (Less.eq (by simp [stOK, *]))
 have g1' := g1
 try simp only [qq] at g1'
 refine sq_no rfl rfl (less_b g1) rfl rfl ?_
 refine sq_no rfl rfl (less_b g1) rfl rfl ?_
 refine sq_no rfl rfl (less_b g1) rfl rfl ?_
 refine sq_ev rfl (ev_pickF (v := .raw _) (less_b g1) J) ?_
 refine mvr J rfl (sq_no rfl rfl J rfl rfl (sq_no rfl rfl J rfl rfl (sq_no rfl rfl J rfl rfl (pf rfl J J (mvr J rfl ?_)))))
 refine sq_no rfl rfl J rfl rfl (sq_no rfl rfl J rfl rfl (sq_no rfl rfl J rfl rfl (pf rfl J J (mvr J rfl (sq_no rfl rfl J rfl rfl (sq_no rfl rfl J rfl rfl ?_))))))
 refine sq_no rfl rfl J rfl rfl (sq_no rfl rfl J rfl rfl (sq_no rfl rfl J rfl rfl (pf rfl J J (mvr J rfl (sq_no rfl rfl J rfl rfl (sq_no rfl rfl J rfl rfl ?_))))))
 refine sq_no rfl rfl J rfl rfl (sq_no rfl rfl J rfl rfl (sq_no rfl rfl J rfl rfl (pf rfl J J (asr J rfl (sq_nil (aw_ret ?_))))))
 exact retQ_pure (v := .raw _) rfl rfl (Less.eq (by simp [stOK, *]))
theorem rat_pure (x y : Int) : APure Tryz.prog 31 [I x, I y] (B (awayOK x && awayOK y)) := by
 refine apure_of (rs := [.tmp 4]) Tryz.func31 rfl rfl (Nat.le_of_ble_eq_true rfl) (by simp [AV.pureL, AV.pureB, AV.pureE, pureE_map]) (by first | rfl | (simp [AV.pureL, AV.pureB, AV.pureE, pureE_map])) fun e0 he0 => ?_
 refine aw_seq (aw_region (asr J rfl (sq_nil (aw_seq (aw_region (mvr J rfl (sq_ev rfl (ev_call en89 J (rin_pure _ _ _) ⟨J, J, J, trivial⟩) ?_)))))))
 refine mvr J rfl ?_
 refine sq_split 7 J (fun g1 => ?_) (fun g1 => ?_)
 ·
  have g1' := g1
  try simp only [qq] at g1'
  refine sq_yes rfl rfl (less_b g1) rfl (ev_mv (v := .raw _) J) ?_
  refine sq_yes rfl rfl (less_b g1) rfl (ev_call en89 J (rin_pure _ _ _) ⟨J, J, J, trivial⟩) ?_
  refine sq_ev rfl (ev_pickT (v := .raw _) (less_b g1) J) ?_
  refine asr J rfl (sq_nil (aw_ret ?_))
  exact retQ_pure (v := .raw _) rfl rfl (Less.eq (by simp [awayOK, *]))
 have g1' := g1
 try simp only [qq] at g1'
 refine sq_no rfl rfl (less_b g1) rfl rfl ?_
 refine sq_no rfl rfl (less_b g1) rfl rfl ?_
 refine sq_ev rfl (ev_pickF (v := .raw _) (less_b g1) J) ?_
 refine asr J rfl (sq_nil (aw_ret ?_))
 exact retQ_pure (v := .raw _) rfl rfl (Less.eq (by simp [awayOK, *]))
theorem rplace_pure (s : Sg) (p : Pc) (h : 2 ≤ s.far ∧ s.far ≤ 40) : APure Tryz.prog 26 [stA s, pcA p] (B (pcOK s p)) := by
 refine apure_of (rs := [.tmp 4]) Tryz.func26 rfl rfl (Nat.le_of_ble_eq_true rfl) (by simp [AV.pureL, AV.pureB, AV.pureE, pureE_map]) (by first | rfl | (simp [AV.pureL, AV.pureB, AV.pureE, pureE_map])) fun e0 he0 => ?_
 refine aw_seq (aw_region ?_)
 refine sq_box rfl J rfl (sq_box rfl J rfl (asr J rfl (sq_nil (aw_seq (aw_region (sq_ev rfl (ev_fieldAddr fo28_0 J) ?_))))))
 refine sq_ev rfl (ev_load J rfl ty3 rfl) ?_
 refine sq_ev rfl (ev_fieldAddr fo23_2 J) ?_
 refine sq_ev rfl (ev_load J rfl ty3 rfl) ?_
 refine sq_ev rfl (ev_sub J J (wr (by omega) (by omega))) ?_
 refine sq_ev rfl (ev_call en89 J (rin_pure _ _ _) ⟨J, J, J, trivial⟩) ?_
 refine mvr J rfl ?_
 refine sq_split 11 J (fun g1 => ?_) (fun g1 => ?_)
 ·
  have g1' := g1
  try simp only [qq] at g1'
  refine sq_yes rfl rfl (less_b g1) rfl (ev_fieldAddr fo28_1 J) ?_
  refine sq_yes rfl rfl (less_b g1) rfl (ev_load J rfl ty3 rfl) ?_
  refine sq_yes rfl rfl (less_b g1) rfl (ev_fieldAddr fo28_2 J) ?_
  refine sq_yes rfl rfl (less_b g1) rfl (ev_load J rfl ty3 rfl) ?_
  refine sq_yes rfl rfl (less_b g1) rfl (ev_call en31 J (rat_pure _ _) ⟨J, J, trivial⟩) ?_
  refine sq_ev rfl (ev_pickT (v := .raw _) (less_b g1) J) ?_
  refine asr J rfl (sq_nil (aw_ret ?_))
  exact retQ_pure (v := .raw _) rfl rfl (Less.eq (by simp [pcOK, Bool.and_assoc, *]))
 have g1' := g1
 try simp only [qq] at g1'
 refine sq_no rfl rfl (less_b g1) rfl rfl ?_
 refine sq_no rfl rfl (less_b g1) rfl rfl ?_
 refine sq_no rfl rfl (less_b g1) rfl rfl ?_
 refine sq_no rfl rfl (less_b g1) rfl rfl ?_
 refine sq_no rfl rfl (less_b g1) rfl rfl ?_
 refine sq_ev rfl (ev_pickF (v := .raw _) (less_b g1) J) ?_
 refine asr J rfl (sq_nil (aw_ret ?_))
 exact retQ_pure (v := .raw _) rfl rfl (Less.eq (by simp [pcOK, Bool.and_assoc, *]))
end Go.Proofs.YtmbknoaneglilaaGreatDoor
namespace Go.Proofs.YtmbknoaneglilaaGreatDoor
open Go Go.Ab Ni Ol
theorem ch_ok {c : UInt8} (h : (c.toNat : Int) = 35 ∨ (c.toNat : Int) = 46) : chOK c = true := by
  unfold chOK; simp only [decide_eq_true_eq]
  exact h.imp (fun h => UInt8.toNat_inj.1 (by show c.toNat = 35; omega)) (fun h => UInt8.toNat_inj.1 (by show c.toNat = 46; omega))
theorem ch_no {c : UInt8} (h : (c.toNat : Int) ≠ 35) (k : (c.toNat : Int) ≠ 46) : chOK c = false := by
  rw [Bool.eq_false_iff]; intro ho; unfold chOK at ho; simp only [decide_eq_true_eq] at ho
  rcases ho with e | e <;> (subst e; first | exact h rfl | exact k rfl)
theorem rfigure_pure (f : Fg) : APure Tryz.prog 25 [fgA f] (B (fgOK f)) := by
  refine apure_of (rs := [.tmp 2]) Tryz.func25 rfl rfl (Nat.le_of_ble_eq_true rfl) (by simp [AV.pureL, AV.pureB, AV.pureE, pureE_map]) (by first | rfl | (simp [AV.pureL, AV.pureB, AV.pureE, pureE_map])) fun e0 he0 => ?_
  refine aw_seq (aw_region ?_)
  refine sq_box rfl J rfl (asr J rfl (sq_nil (aw_seq (aw_seq (aw_region (sq_ev rfl (ev_fieldAddr fo26_0 J) ?_))))))
  refine sq_ev rfl (ev_load J rfl ty24 rfl) ?_
  refine sq_ev rfl (ev_len_map sl24 J) ?_
  refine sq_ev rfl (ev_call en89 J (rin_pure _ _ _) ⟨J, J, J, trivial⟩) ?_
  refine sq_ev rfl (ev_not J) ?_
  refine mvr J rfl ?_
  refine sq_split 11 J (fun g1_5 => ?_) (fun g1_5 => ?_)
  · skip
    have g1_5' := g1_5
    try simp only [qq] at g1_5'
    refine sq_no rfl rfl (less_b g1_5) rfl rfl ?_
    refine sq_no rfl rfl (less_b g1_5) rfl rfl ?_
    refine sq_no rfl rfl (less_b g1_5) rfl rfl ?_
    refine sq_no rfl rfl (less_b g1_5) rfl rfl ?_
    refine sq_no rfl rfl (less_b g1_5) rfl rfl ?_
    refine sq_no rfl rfl (less_b g1_5) rfl rfl ?_
    refine sq_no rfl rfl (less_b g1_5) rfl rfl ?_
    refine sq_ev rfl (ev_pickT (v := .raw _) (less_b g1_5) J) ?_
    refine sq_nil ?_
    refine aw_true J ?_
    refine aw_seq (aw_region (asr J rfl (sq_nil (aw_ret ?_))))
    exact retQ_pure (v := .raw _) rfl rfl (Less.eq (by unfold fgOK; simp_all))
  · skip
    have g1_5' := g1_5
    try simp only [qq] at g1_5'
    have h1 : inn f.length 1 6 = true := by simpa using g1_5
    have hlen : 1 ≤ f.length ∧ f.length ≤ 6 := by simp only [inn, Bool.and_eq_true, decide_eq_true_eq] at h1; omega
    have hw0 := w0_eq (f := f) (by omega)
    refine sq_yes rfl rfl (less_b g1_5) rfl (ev_fieldAddr fo26_0 J) ?_
    refine sq_yes rfl rfl (less_b g1_5) rfl (ev_load J rfl ty24 rfl) ?_
    refine sq_yes rfl rfl (less_b g1_5) rfl (ev_index_map (k := 0) sl24 J J rfl (by omega)) ?_
    refine sq_yes rfl rfl (less_b g1_5) rfl (ev_load_i J ty9 rfl) ?_
    refine sq_yes rfl rfl (less_b g1_5) rfl (ev_lenS Tryz.underlying9 J) ?_
    refine sq_yes rfl rfl (less_b g1_5) rfl (ev_call en89 J (rin_pure _ _ _) ⟨J, J, J, trivial⟩) ?_
    refine sq_yes rfl rfl (less_b g1_5) rfl (ev_not J) ?_
    refine sq_ev rfl (ev_pickF (v := .raw _) (less_b g1_5) J) ?_
    refine sq_nil ?_
    refine aw_cond J (fun c_19 => ?_) (fun c_19 => ?_)
    · skip
      have c_19' := c_19
      try simp only [qq] at c_19'
      refine aw_seq (aw_region (asr J rfl (sq_nil (aw_ret ?_))))
      exact retQ_pure (v := .raw _) rfl rfl (Less.eq (by unfold fgOK; rw [hw0]; simp_all))
    · skip
      have c_19' := c_19
      try simp only [qq] at c_19'
      have h2 : inn (w0 f) 1 6 = true := by rw [hw0]; simpa using c_19
      refine aw_skip (aw_seq (aw_region (asr J rfl ?_)))
      refine sq_nil (aw_seq (aw_seq (aw_region (asr J rfl (sq_nil (aw_block ?_))))))
      refine aw_loopk (ι := { k : Nat // k ≤ f.length ∧ ∀ i, (h : i < f.length) → i < k → fgRow (w0 f) f[i] = true }) [1] (fun i => [(3, B ((f.take i.1).any hasH)), (4, I i.1)]) (fun H i => H) (fun i => f.length - i.1) (⟨0, Nat.zero_le _, by omega⟩) ⟨J, J, J, trivial⟩ rfl ?_
      rintro ⟨k, hk, hok⟩
      dsimp only [keepS, St.put, sget, slotsOf, nn1, nn2, nn3, nn4, nn5, nn6, Nat.reduceBEq, Nat.reduceAdd, nn7, nn8]
      refine aw_seq (aw_seq (aw_region (mvr J rfl (sq_ev rfl (ev_fieldAddr fo26_0 J) ?_))))
      refine sq_ev rfl (ev_load J rfl ty24 rfl) ?_
      refine sq_ev rfl (ev_len_map sl24 J) ?_
      refine sq_ev rfl (ev_lss J J) ?_
      refine sq_nil ?_
      refine aw_cond J (fun c_24 => ?_) (fun c_24 => ?_)
      · skip
        have c_24' := c_24
        try simp only [qq] at c_24'
        refine aw_skip (aw_seq (aw_block (aw_seq (aw_seq ?_))))
        refine aw_draw 12 mo (by kernel_rfl) ?_
        refine dr_ev rfl (ev_fieldAddr fo26_0 J) ?_
        refine dr_ev rfl (ev_load J rfl ty24 rfl) ?_
        refine dr_ev rfl (ev_mv (v := .raw _) J) ?_
        refine dr_ev rfl (ev_index_map sl24 J J rfl (by omega)) ?_
        refine dr_ev rfl (ev_load_i J ty9 rfl) ?_
        refine dr_ev rfl (ev_lenS Tryz.underlying9 J) ?_
        refine dr_ev rfl (ev_fieldAddr fo26_0 J) ?_
        refine dr_ev rfl (ev_load J rfl ty24 rfl) ?_
        refine dr_ev rfl (ev_index_map (k := 0) sl24 J J rfl (by omega)) ?_
        refine dr_ev rfl (ev_load_i J ty9 rfl) ?_
        refine dr_ev rfl (ev_lenS Tryz.underlying9 J) ?_
        refine dr_ev rfl (ev_neq J J) ?_
        refine dr_end (sq_nil ?_)
        refine aw_cond J (fun c_38 => ?_) (fun c_38 => ?_)
        · skip
          have c_38' := c_38
          try simp only [qq] at c_38'
          refine aw_seq (aw_region (asr J rfl (sq_nil (aw_ret ?_))))
          exact retQ_pure (v := .raw _) rfl rfl (Less.eq (by rw [fg_row_bad (k := k) (by omega) (fgRow_len (by rw [hw0]; omega))]))
        · skip
          have c_38' := c_38
          try simp only [qq] at c_38'
          have hlk : f[k].length ≤ 6 := by simp only [inn, Bool.and_eq_true, decide_eq_true_eq] at h2; omega
          refine aw_skip (aw_seq (aw_region (asr J rfl (sq_nil (aw_block ?_)))))
          refine aw_loopk (ι := { j : Nat // j ≤ f[k].length ∧ ∀ i, (h : i < f[k].length) → i < j → chOK f[k][i] = true }) [1, 4] (fun q => [(3, B ((f.take k).any hasH || (f[k].take q.1).any fun c => decide (c = 35))), (5, I q.1)]) (fun H q => H) (fun q => f[k].length - q.1) (⟨0, Nat.zero_le _, by omega⟩) ⟨(Less.eq (by show B ((f.take k).any hasH) = _; simp)), J, J, J, trivial⟩ rfl ?_
          rintro ⟨j, hj, hoj⟩
          dsimp only [keepS, St.put, sget, slotsOf, nn1, nn2, nn3, nn4, nn5, nn6, Nat.reduceBEq, Nat.reduceAdd, nn7, nn8]
          refine aw_seq (aw_seq (aw_region (mvr J rfl (sq_ev rfl (ev_fieldAddr fo26_0 J) ?_))))
          refine sq_ev rfl (ev_load J rfl ty24 rfl) ?_
          refine mvr J rfl (sq_ev rfl (ev_index_map sl24 J J rfl (by omega)) ?_)
          refine sq_ev rfl (ev_load_i J ty9 rfl) ?_
          refine sq_ev rfl (ev_lenS Tryz.underlying9 J) ?_
          refine sq_ev rfl (ev_lss J J) ?_
          refine sq_nil ?_
          refine aw_cond J (fun c_46 => ?_) (fun c_46 => ?_)
          · skip
            have c_46' := c_46
            try simp only [qq] at c_46'
            have hk' : j < f[k].length := by omega
            have eC := any_take (q := fun c => decide (c = 35)) (l := f[k]) (k := j) hk'
            refine aw_skip (aw_seq (aw_block (aw_seq (aw_seq (aw_region (sq_ev rfl (ev_fieldAddr fo26_0 J) ?_))))))
            refine sq_ev rfl (ev_load J rfl ty24 rfl) ?_
            refine mvr J rfl (sq_ev rfl (ev_index_map sl24 J J rfl (by omega)) ?_)
            refine sq_ev rfl (ev_load_i J ty9 rfl) ?_
            refine mvr J rfl (sq_ev rfl (ev_idxS Tryz.underlying9 J J rfl (by omega)) ?_)
            refine sq_ev rfl (ev_neq J J) ?_
            refine mvr J rfl ?_
            refine sq_split 57 J (fun g12_8 => ?_) (fun g12_8 => ?_)
            · skip
              have g12_8' := g12_8
              try simp only [qq] at g12_8'
              refine sq_yes rfl rfl (less_b g12_8) rfl (ev_fieldAddr fo26_0 J) ?_
              refine sq_yes rfl rfl (less_b g12_8) rfl (ev_load J rfl ty24 rfl) ?_
              refine sq_yes rfl rfl (less_b g12_8) rfl (ev_mv (v := .raw _) J) ?_
              refine sq_yes rfl rfl (less_b g12_8) rfl (ev_index_map sl24 J J rfl (by omega)) ?_
              refine sq_yes rfl rfl (less_b g12_8) rfl (ev_load_i J ty9 rfl) ?_
              refine sq_yes rfl rfl (less_b g12_8) rfl (ev_mv (v := .raw _) J) ?_
              refine sq_yes rfl rfl (less_b g12_8) rfl (ev_idxS Tryz.underlying9 J J rfl (by omega)) ?_
              refine sq_yes rfl rfl (less_b g12_8) rfl (ev_neq J J) ?_
              refine sq_ev rfl (ev_pickT (v := .raw _) (less_b g12_8) J) ?_
              refine sq_nil ?_
              refine aw_cond J (fun c_66 => ?_) (fun c_66 => ?_)
              · skip
                have c_66' := c_66
                try simp only [qq] at c_66'
                refine aw_seq (aw_region (asr J rfl (sq_nil (aw_ret ?_))))
                exact retQ_pure (v := .raw _) rfl rfl (Less.eq (by rw [fg_row_bad (k := k) (by omega) (fgRow_ch (j := j) hk' (ch_no g12_8' c_66'))]))
              · skip
                have c_66' := c_66
                try simp only [qq] at c_66'
                have hch : chOK f[k][j] = true := ch_ok (.inr (by simpa using c_66))
                refine aw_skip (aw_region (mvr J rfl (mvr J rfl ?_)))
                refine sq_split 68 J (fun g14_1 => ?_) (fun g14_1 => ?_)
                · skip
                  have g14_1' := g14_1
                  try simp only [qq] at g14_1'
                  have eF : B true = B ((f.take k).any hasH || (f[k].take (j + 1)).any fun c => decide (c = 35)) := by rw [eC, ← Bool.or_assoc, g14_1]; rfl
                  refine sq_no rfl rfl (less_b g14_1) rfl rfl ?_
                  refine sq_no rfl rfl (less_b g14_1) rfl rfl ?_
                  refine sq_no rfl rfl (less_b g14_1) rfl rfl ?_
                  refine sq_no rfl rfl (less_b g14_1) rfl rfl ?_
                  refine sq_no rfl rfl (less_b g14_1) rfl rfl ?_
                  refine sq_no rfl rfl (less_b g14_1) rfl rfl ?_
                  refine sq_no rfl rfl (less_b g14_1) rfl rfl ?_
                  refine sq_no rfl rfl (less_b g14_1) rfl rfl ?_
                  refine sq_ev rfl (ev_pickT (v := .raw _) (less_b g14_1) J) ?_
                  refine asr J rfl (sq_nil (aw_region (mvr J rfl (sq_ev rfl (ev_add J J (wr (by omega) (by omega))) ?_))))
                  refine asr J rfl (sq_nil ?_)
                  exact ⟨⟨j + 1, by omega, fun i h hi => (by by_cases e : i = j; (subst e; exact hch); exact hoj i h (by omega))⟩, by simp only; omega, Sub.slots ⟨(Less.eq eF), J, J, J, trivial⟩⟩
                · skip
                  have g14_1' := g14_1
                  try simp only [qq] at g14_1'
                  have eF : B (decide (((f[k][j]).toNat : Int) = 35)) = B ((f.take k).any hasH || (f[k].take (j + 1)).any fun c => decide (c = 35)) := by rw [eC, ← Bool.or_assoc, g14_1, dec35]; rfl
                  refine sq_yes rfl rfl (less_b g14_1) rfl (ev_fieldAddr fo26_0 J) ?_
                  refine sq_yes rfl rfl (less_b g14_1) rfl (ev_load J rfl ty24 rfl) ?_
                  refine sq_yes rfl rfl (less_b g14_1) rfl (ev_mv (v := .raw _) J) ?_
                  refine sq_yes rfl rfl (less_b g14_1) rfl (ev_index_map sl24 J J rfl (by omega)) ?_
                  refine sq_yes rfl rfl (less_b g14_1) rfl (ev_load_i J ty9 rfl) ?_
                  refine sq_yes rfl rfl (less_b g14_1) rfl (ev_mv (v := .raw _) J) ?_
                  refine sq_yes rfl rfl (less_b g14_1) rfl (ev_idxS Tryz.underlying9 J J rfl (by omega)) ?_
                  refine sq_yes rfl rfl (less_b g14_1) rfl (ev_eql J J) ?_
                  refine sq_ev rfl (ev_pickF (v := .raw _) (less_b g14_1) J) ?_
                  refine asr J rfl (sq_nil (aw_region (mvr J rfl (sq_ev rfl (ev_add J J (wr (by omega) (by omega))) ?_))))
                  refine asr J rfl (sq_nil ?_)
                  exact ⟨⟨j + 1, by omega, fun i h hi => (by by_cases e : i = j; (subst e; exact hch); exact hoj i h (by omega))⟩, by simp only; omega, Sub.slots ⟨(Less.eq eF), J, J, J, trivial⟩⟩
            · skip
              have g12_8' := g12_8
              try simp only [qq] at g12_8'
              have hch : chOK f[k][j] = true := ch_ok (.inl (by simpa using g12_8))
              refine sq_no rfl rfl (less_b g12_8) rfl rfl ?_
              refine sq_no rfl rfl (less_b g12_8) rfl rfl ?_
              refine sq_no rfl rfl (less_b g12_8) rfl rfl ?_
              refine sq_no rfl rfl (less_b g12_8) rfl rfl ?_
              refine sq_no rfl rfl (less_b g12_8) rfl rfl ?_
              refine sq_no rfl rfl (less_b g12_8) rfl rfl ?_
              refine sq_no rfl rfl (less_b g12_8) rfl rfl ?_
              refine sq_no rfl rfl (less_b g12_8) rfl rfl ?_
              refine sq_ev rfl (ev_pickF (v := .raw _) (less_b g12_8) J) ?_
              refine sq_nil ?_
              refine aw_false J ?_
              refine aw_skip (aw_region (mvr J rfl (mvr J rfl ?_)))
              refine sq_split 68 J (fun g14_1 => ?_) (fun g14_1 => ?_)
              · skip
                have g14_1' := g14_1
                try simp only [qq] at g14_1'
                have eF : B true = B ((f.take k).any hasH || (f[k].take (j + 1)).any fun c => decide (c = 35)) := by rw [eC, ← Bool.or_assoc, g14_1]; rfl
                refine sq_no rfl rfl (less_b g14_1) rfl rfl ?_
                refine sq_no rfl rfl (less_b g14_1) rfl rfl ?_
                refine sq_no rfl rfl (less_b g14_1) rfl rfl ?_
                refine sq_no rfl rfl (less_b g14_1) rfl rfl ?_
                refine sq_no rfl rfl (less_b g14_1) rfl rfl ?_
                refine sq_no rfl rfl (less_b g14_1) rfl rfl ?_
                refine sq_no rfl rfl (less_b g14_1) rfl rfl ?_
                refine sq_no rfl rfl (less_b g14_1) rfl rfl ?_
                refine sq_ev rfl (ev_pickT (v := .raw _) (less_b g14_1) J) ?_
                refine asr J rfl (sq_nil (aw_region (mvr J rfl (sq_ev rfl (ev_add J J (wr (by omega) (by omega))) ?_))))
                refine asr J rfl (sq_nil ?_)
                exact ⟨⟨j + 1, by omega, fun i h hi => (by by_cases e : i = j; (subst e; exact hch); exact hoj i h (by omega))⟩, by simp only; omega, Sub.slots ⟨(Less.eq eF), J, J, J, trivial⟩⟩
              · skip
                have g14_1' := g14_1
                try simp only [qq] at g14_1'
                have eF : B (decide (((f[k][j]).toNat : Int) = 35)) = B ((f.take k).any hasH || (f[k].take (j + 1)).any fun c => decide (c = 35)) := by rw [eC, ← Bool.or_assoc, g14_1, dec35]; rfl
                refine sq_yes rfl rfl (less_b g14_1) rfl (ev_fieldAddr fo26_0 J) ?_
                refine sq_yes rfl rfl (less_b g14_1) rfl (ev_load J rfl ty24 rfl) ?_
                refine sq_yes rfl rfl (less_b g14_1) rfl (ev_mv (v := .raw _) J) ?_
                refine sq_yes rfl rfl (less_b g14_1) rfl (ev_index_map sl24 J J rfl (by omega)) ?_
                refine sq_yes rfl rfl (less_b g14_1) rfl (ev_load_i J ty9 rfl) ?_
                refine sq_yes rfl rfl (less_b g14_1) rfl (ev_mv (v := .raw _) J) ?_
                refine sq_yes rfl rfl (less_b g14_1) rfl (ev_idxS Tryz.underlying9 J J rfl (by omega)) ?_
                refine sq_yes rfl rfl (less_b g14_1) rfl (ev_eql J J) ?_
                refine sq_ev rfl (ev_pickF (v := .raw _) (less_b g14_1) J) ?_
                refine asr J rfl (sq_nil (aw_region (mvr J rfl (sq_ev rfl (ev_add J J (wr (by omega) (by omega))) ?_))))
                refine asr J rfl (sq_nil ?_)
                exact ⟨⟨j + 1, by omega, fun i h hi => (by by_cases e : i = j; (subst e; exact hch); exact hoj i h (by omega))⟩, by simp only; omega, Sub.slots ⟨(Less.eq eF), J, J, J, trivial⟩⟩
          · skip
            have c_46' := c_46
            try simp only [qq] at c_46'
            refine aw_exit (aw_region (mvr J rfl (sq_ev rfl (ev_add J J (wr (by omega) (by omega))) ?_)))
            refine asr J rfl (sq_nil ?_)
            have hgood : fgRow (w0 f) f[k] = true := fgRow_ok (by omega) (fun i h => hoj i h (by omega))
            have eA := any_take (q := hasH) (l := f) (k := k) (by omega)
            have eB : hasH f[k] = (f[k].take j).any (fun c => decide (c = 35)) := by unfold hasH; rw [List.take_of_length_le (by omega)]
            exact ⟨⟨k + 1, by omega, fun i h hi => (by by_cases e : i = k; (subst e; exact hgood); exact hok i h (by omega))⟩, by simp only; omega, Sub.slots ⟨(Less.eq (show B ((f.take k).any hasH || (f[k].take j).any fun c => decide (c = 35)) = _ by rw [eA, eB])), J, J, trivial⟩⟩
      · skip
        have c_24' := c_24
        try simp only [qq] at c_24'
        refine aw_exit (aw_seq (aw_region (mvr J rfl (asr J rfl (sq_nil (aw_ret ?_))))))
        exact retQ_pure (v := .raw _) rfl rfl (Less.eq (by rw [fg_end h1 h2 (fun i h => hok i h (by omega)), show k = f.length by omega, List.take_length]))
end Go.Proofs.YtmbknoaneglilaaGreatDoor
namespace Go.Proofs.YtmbknoaneglilaaGreatDoor
open Go Go.Ab Ni Ol
theorem fitsE_pure (c : Ca) : APure Tryz.prog 60 [stA c.s, fgA c.f, pcA c.p] (.tup [B (caOK c && c.fits), I (er (caOK c))]) := by
 refine apure_of (rs := [.tmp 6, .tmp 7]) Tryz.func60 rfl rfl (Nat.le_of_ble_eq_true rfl) (by simp [AV.pureL, AV.pureB, AV.pureE, pureE_map]) (by first | rfl | (simp [AV.pureL, AV.pureB, AV.pureE, pureE_map])) fun e0 he0 => ?_
 refine aw_seq (aw_region (sq_box rfl J rfl (sq_box rfl J rfl ?_)))
 refine sq_box rfl J rfl (asr J rfl (asr J rfl (sq_nil (aw_seq (aw_region (sq_ev rfl (ev_load_agg J rfl ty23 rfl) ?_))))))
 refine sq_ev rfl (ev_load_agg J rfl ty26 rfl) ?_
 refine sq_ev rfl (ev_load_agg J rfl ty28 rfl) ?_
 refine sq_ev rfl (ev_call en97 J (casting_pure c) ⟨J, J, J, trivial⟩) ?_
 refine sq_ev rfl (ev_mv (v := .tup _) J) ?_
 refine xtr rfl J rfl (xtr rfl J rfl ?_)
 refine sq_alloc rfl z139 ?_
 refine sq_store rfl J J rfl rfl ty139 rfl rfl ?_
 refine asr J rfl (sq_nil (aw_seq (aw_seq (aw_region (mvr J rfl (sq_ev rfl (ev_not J) ?_))))))
 refine sq_nil ?_
 refine aw_cond J (fun c_18 => ?_) (fun c_18 => ?_)
 ·
  have c_18' := c_18
  try simp only [qq] at c_18'
  have hok : caOK c = false := by simpa using c_18
  refine aw_seq (aw_region (asr J rfl (asr J rfl (sq_nil (aw_ret ?_)))))
  exact retQ_pure (v := .tup [.raw _, .raw _]) rfl rfl (less_tup ⟨less_b (by simp [*]), less_int (by simp [er, *]), trivial⟩)
 have c_18' := c_18
 try simp only [qq] at c_18'
 have hok : caOK c = true := by simpa using c_18
 have hc := caOK_B hok
 refine aw_skip (aw_seq (aw_region (sq_ev rfl (ev_load_agg J rfl ty139 rfl) ?_)))
 refine sq_ev rfl (ev_call en129 J (fits_pure hc) ⟨J, trivial⟩) ?_
 refine asr J rfl (asr J rfl (sq_nil (aw_ret ?_)))
 exact retQ_pure (v := .tup [.raw _, .raw _]) rfl rfl (less_tup ⟨less_b (by simp [*]), less_int (by simp [er, *]), trivial⟩)
end Go.Proofs.YtmbknoaneglilaaGreatDoor
namespace Go.Proofs.YtmbknoaneglilaaGreatDoor
open Go Go.Ab Ni Ol
theorem en23 : Ent Tryz.prog 23 := Ent.of Tryz.func23 (by kernel_rfl) rfl
theorem en24 : Ent Tryz.prog 24 := Ent.of Tryz.func24 (by kernel_rfl) rfl
theorem en25 : Ent Tryz.prog 25 := Ent.of Tryz.func25 (by kernel_rfl) rfl
theorem en26 : Ent Tryz.prog 26 := Ent.of Tryz.func26 (by kernel_rfl) rfl
theorem allT_no {α : Type} {q : α → Bool} {l : List α} {n i : Nat} (hi : i < l.length) (hn : i < n) (h : q l[i] = false) : (l.take n).all q = false := by
  rw [List.all_eq_false]
  have hm : i < (l.take n).length := by rw [List.length_take]; omega
  exact ⟨(l.take n)[i], List.getElem_mem hm, by rw [List.getElem_take, h]; simp⟩
theorem allT_yes {α : Type} {q : α → Bool} {l : List α} {n : Nat} (h : ∀ i, (hi : i < l.length) → i < n → q l[i] = true) : (l.take n).all q = true := by
  rw [List.all_eq_true]
  intro x hx
  obtain ⟨i, hi, rfl⟩ := List.getElem_of_mem hx
  rw [List.length_take] at hi
  rw [List.getElem_take]; exact h i (by omega) (by omega)
def shortB (l : List (List UInt8)) : Bool := (l.take 20).all (fun r => decide (r.length ≤ 20)) && decide (l.length ≤ 18)
theorem short_pure (l : List (List UInt8)) : APure Tryz.prog 23 [strs l] (B (shortB l)) := by
  refine apure_of (rs := [.tmp 2]) Tryz.func23 rfl rfl (Nat.le_of_ble_eq_true rfl) (by simp [AV.pureL, AV.pureB, AV.pureE, pureE_map]) (by first | rfl | (simp [AV.pureL, AV.pureB, AV.pureE, pureE_map])) fun e0 he0 => ?_
  refine aw_seq (aw_region (asr J rfl ?_))
  refine sq_nil (aw_seq (aw_seq (aw_region (asr J rfl (sq_nil (aw_block ?_))))))
  refine aw_loopk (ι := { k : Nat // k ≤ l.length ∧ k ≤ 20 ∧ ∀ i, (h : i < l.length) → i < k → decide (l[i].length ≤ 20) = true }) [0] (fun g => [(3, I g.1)]) (fun H g => H) (fun g => 20 - g.1) (⟨0, Nat.zero_le _, by omega, by omega⟩) ⟨J, J, trivial⟩ rfl ?_
  rintro ⟨k, hk, hok⟩
  dsimp only [keepS, St.put, sget, slotsOf, nn1, nn2, nn3, nn4, nn5, nn6, Nat.reduceBEq, Nat.reduceAdd, nn7, nn8]
  refine aw_seq (aw_seq (aw_region (mvr J rfl (mvs rfl J (sq_ev rfl (ev_len_map sl24 J) ?_)))))
  refine sq_ev rfl (ev_lss J J) ?_
  refine mvr J rfl ?_
  refine sq_split 8 J (fun g2_4 => ?_) (fun g2_4 => ?_)
  · skip
    have g2_4' := g2_4
    try simp only [qq] at g2_4'
    have hkL : k < l.length := by omega
    refine sq_yes rfl rfl (less_b g2_4) rfl (ev_mv (v := .raw _) J) ?_
    refine sq_yes rfl rfl (less_b g2_4) rfl (ev_lss J J) ?_
    refine sq_ev rfl (ev_pickT (v := .raw _) (less_b g2_4) J) ?_
    refine sq_nil ?_
    refine aw_cond J (fun c_11 => ?_) (fun c_11 => ?_)
    · skip
      have c_11' := c_11
      try simp only [qq] at c_11'
      refine aw_skip (aw_seq (aw_block (aw_seq (aw_region (mvs rfl J (mvr J rfl (sq_ev rfl (ev_index_map sl24 J J rfl (by omega)) ?_)))))))
      refine sq_ev rfl (ev_load_i J ty9 rfl) ?_
      refine sq_ev rfl (ev_lenS Tryz.underlying9 J) ?_
      refine sq_ev rfl (ev_gtr J J) ?_
      refine sq_nil ?_
      refine aw_cond J (fun c_19 => ?_) (fun c_19 => ?_)
      · skip
        have c_19' := c_19
        try simp only [qq] at c_19'
        refine aw_seq (aw_region (asr J rfl (sq_nil (aw_ret ?_))))
        exact retQ_pure (v := .raw _) rfl rfl (Less.eq (by rw [shortB, allT_no (i := k) (n := 20) hkL (by omega) (by simp only [decide_eq_false_iff_not]; omega)]; rfl))
      · skip
        have c_19' := c_19
        try simp only [qq] at c_19'
        refine aw_skip (aw_region (mvr J rfl (sq_ev rfl (ev_add J J (wr (by omega) (by omega))) ?_)))
        refine asr J rfl (sq_nil ?_)
        have hgood : decide (l[k].length ≤ 20) = true := by simp only [decide_eq_true_eq]; omega
        exact ⟨⟨k + 1, by omega, by omega, fun i h hi => (by by_cases e : i = k; (subst e; exact hgood); exact hok.2 i h (by omega))⟩, by simp only; omega, Sub.slots ⟨J, J, trivial⟩⟩
    · skip
      have c_11' := c_11
      try simp only [qq] at c_11'
      refine aw_exit (aw_seq (aw_region (mvs rfl J (sq_ev rfl (ev_len_map sl24 J) ?_))))
      refine sq_ev rfl (ev_leq J J) ?_
      refine asr J rfl (sq_nil (aw_ret ?_))
      exact retQ_pure (v := .raw _) rfl rfl (Less.eq (by rw [shortB, allT_yes (n := 20) (fun i h hi => hok.2 i h (by omega))]; simp; omega))
  · skip
    have g2_4' := g2_4
    try simp only [qq] at g2_4'
    refine sq_no rfl rfl (less_b g2_4) rfl rfl ?_
    refine sq_no rfl rfl (less_b g2_4) rfl rfl ?_
    refine sq_ev rfl (ev_pickF (v := .raw _) (less_b g2_4) J) ?_
    refine sq_nil ?_
    refine aw_false J ?_
    refine aw_exit (aw_seq (aw_region (mvs rfl J (sq_ev rfl (ev_len_map sl24 J) ?_))))
    refine sq_ev rfl (ev_leq J J) ?_
    refine asr J rfl (sq_nil (aw_ret ?_))
    exact retQ_pure (v := .raw _) rfl rfl (Less.eq (by rw [shortB, allT_yes (n := 20) (fun i h hi => hok.2 i h (by omega))]; simp; omega))
end Go.Proofs.YtmbknoaneglilaaGreatDoor
namespace Go.Proofs.YtmbknoaneglilaaGreatDoor
open Go Go.Ab Ni Ol
theorem en27 : Ent Tryz.prog 27 := Ent.of Tryz.func27 (by kernel_rfl) rfl
end Go.Proofs.YtmbknoaneglilaaGreatDoor
namespace Go.Proofs.YtmbknoaneglilaaGreatDoor
open Go Go.Ab Ni Ol
theorem en60 : Ent Tryz.prog 60 := Ent.of Tryz.func60 (by kernel_rfl) rfl
theorem un4 : Tryz.prog.underlying 4 = some .bool := by kernel_rfl
theorem near_gate (c : Ca) (hg : (shortB c.f && (stOK c.s && (fgOK c.f && pcOK c.s c.p))) = false) : APure Tryz.prog 14 [stA c.s, fgA c.f, pcA c.p] (B true) := by
 refine apure_of (rs := [.tmp 6]) Tryz.func14 rfl rfl (Nat.le_of_ble_eq_true rfl) (by simp [AV.pureL, AV.pureB, AV.pureE, pureE_map]) (by first | rfl | (simp [AV.pureL, AV.pureB, AV.pureE, pureE_map])) fun e0 he0 => ?_
 refine aw_seq (aw_region (sq_box rfl J rfl (sq_box rfl J rfl ?_)))
 refine sq_box rfl J rfl (asr J rfl (sq_nil (aw_seq (aw_seq (aw_region (sq_ev rfl (ev_fieldAddr fo26_0 J) ?_))))))
 refine sq_ev rfl (ev_load J rfl ty24 rfl) ?_
 refine sq_ev rfl (ev_call en23 J (short_pure c.f) ⟨J, trivial⟩) ?_
 refine sq_ev rfl (ev_not J) ?_
 refine mvr J rfl ?_
 refine sq_split 20 J (fun g1_4 => ?_) (fun g1_4 => ?_)
 ·
  have g1_4' := g1_4
  try simp only [qq] at g1_4'
  refine sq_no rfl rfl (less_b g1_4) rfl rfl ?_
  refine sq_no rfl rfl (less_b g1_4) rfl rfl ?_
  refine sq_no rfl rfl (less_b g1_4) rfl rfl ?_
  refine sq_ev rfl (ev_pickT (v := .raw _) (less_b g1_4) J) ?_
  refine mvr J rfl (sq_no rfl rfl J rfl rfl (sq_no rfl rfl J rfl rfl (sq_no rfl rfl J rfl rfl (sq_ev rfl (ev_pickT (v := .raw _) J J) ?_))))
  refine mvr J rfl (sq_no rfl rfl J rfl rfl (sq_no rfl rfl J rfl rfl (sq_no rfl rfl J rfl rfl (sq_no rfl rfl J rfl rfl (sq_ev rfl (ev_pickT (v := .raw _) J J) ?_)))))
  refine sq_nil ?_
  refine aw_true J ?_
  refine aw_seq (aw_region (sq_ev rfl (ev_call en27 J (known_pure) trivial) ?_))
  refine asr J rfl (sq_nil (aw_ret ?_))
  exact retQ_pure (v := .raw _) rfl rfl J
 have g1_4' := g1_4
 try simp only [qq] at g1_4'
 refine sq_yes rfl rfl (less_b g1_4) rfl (ev_load_agg J rfl ty23 rfl) ?_
 refine sq_yes rfl rfl (less_b g1_4) rfl (ev_call en24 J (rstage_pure c.s) ⟨J, trivial⟩) ?_
 refine sq_yes rfl rfl (less_b g1_4) rfl (ev_not J) ?_
 refine sq_ev rfl (ev_pickF (v := .raw _) (less_b g1_4) J) ?_
 refine mvr J rfl ?_
 refine sq_split 25 J (fun g1_9 => ?_) (fun g1_9 => ?_)
 ·
  have g1_9' := g1_9
  try simp only [qq] at g1_9'
  refine sq_no rfl rfl (less_b g1_9) rfl rfl ?_
  refine sq_no rfl rfl (less_b g1_9) rfl rfl ?_
  refine sq_no rfl rfl (less_b g1_9) rfl rfl ?_
  refine sq_ev rfl (ev_pickT (v := .raw _) (less_b g1_9) J) ?_
  refine mvr J rfl (sq_no rfl rfl J rfl rfl (sq_no rfl rfl J rfl rfl (sq_no rfl rfl J rfl rfl (sq_no rfl rfl J rfl rfl (sq_ev rfl (ev_pickT (v := .raw _) J J) ?_)))))
  refine sq_nil ?_
  refine aw_true J ?_
  refine aw_seq (aw_region (sq_ev rfl (ev_call en27 J (known_pure) trivial) ?_))
  refine asr J rfl (sq_nil (aw_ret ?_))
  exact retQ_pure (v := .raw _) rfl rfl J
 have g1_9' := g1_9
 try simp only [qq] at g1_9'
 refine sq_yes rfl rfl (less_b g1_9) rfl (ev_load_agg J rfl ty26 rfl) ?_
 refine sq_yes rfl rfl (less_b g1_9) rfl (ev_call en25 J (rfigure_pure c.f) ⟨J, trivial⟩) ?_
 refine sq_yes rfl rfl (less_b g1_9) rfl (ev_not J) ?_
 refine sq_ev rfl (ev_pickF (v := .raw _) (less_b g1_9) J) ?_
 refine mvr J rfl ?_
 refine sq_split 30 J (fun g1_14 => ?_) (fun g1_14 => ?_)
 ·
  have g1_14' := g1_14
  try simp only [qq] at g1_14'
  refine sq_no rfl rfl (less_b g1_14) rfl rfl ?_
  refine sq_no rfl rfl (less_b g1_14) rfl rfl ?_
  refine sq_no rfl rfl (less_b g1_14) rfl rfl ?_
  refine sq_no rfl rfl (less_b g1_14) rfl rfl ?_
  refine sq_ev rfl (ev_pickT (v := .raw _) (less_b g1_14) J) ?_
  refine sq_nil ?_
  refine aw_true J ?_
  refine aw_seq (aw_region (sq_ev rfl (ev_call en27 J (known_pure) trivial) ?_))
  refine asr J rfl (sq_nil (aw_ret ?_))
  exact retQ_pure (v := .raw _) rfl rfl J
 have g1_14' := g1_14
 try simp only [qq] at g1_14'
 refine sq_yes rfl rfl (less_b g1_14) rfl (ev_load_agg J rfl ty23 rfl) ?_
 refine sq_yes rfl rfl (less_b g1_14) rfl (ev_load_agg J rfl ty28 rfl) ?_
 refine sq_yes rfl rfl (less_b g1_14) rfl (ev_call en26 J (rplace_pure c.s c.p (by have := stOK_iff.1 (by simpa using g1_9); omega)) ⟨J, J, trivial⟩) ?_
 refine sq_yes rfl rfl (less_b g1_14) rfl (ev_not J) ?_
 refine sq_ev rfl (ev_pickF (v := .raw _) (less_b g1_14) J) ?_
 refine sq_nil ?_
 refine aw_cond J (fun c_35 => ?_) (fun c_35 => ?_)
 ·
  have c_35' := c_35
  try simp only [qq] at c_35'
  refine aw_seq (aw_region (sq_ev rfl (ev_call en27 J (known_pure) trivial) ?_))
  refine asr J rfl (sq_nil (aw_ret ?_))
  exact retQ_pure (v := .raw _) rfl rfl J
 have c_35' := c_35
 try simp only [qq] at c_35'
 exfalso; simp_all
set_option maxRecDepth 20000 in
theorem near_t00 {c : Ca} {n m dark grey : Int} (k23 : APure Tryz.prog 23 [strs c.f] (B true)) (k24 : APure Tryz.prog 24 [stA c.s] (B true)) (k25 : APure Tryz.prog 25 [fgA c.f] (B true)) (k26 : APure Tryz.prog 26 [stA c.s, pcA c.p] (B true))
    (k60 : APure Tryz.prog 60 [stA c.s, fgA c.f, pcA c.p] (.tup [B true, I 0])) (k61 : APure Tryz.prog 61 [stA c.s, fgA c.f, I c.p.x, I c.p.y] (.tup [I n, I 0])) (k62 : APure Tryz.prog 62 [stA c.s, fgA c.f, I c.p.x, I c.p.y] (.tup [I m, I 0]))
    (k33 : APure Tryz.prog 33 [stA c.s, fgA c.f, pcA c.p] (.tup [I dark, I grey, I 0])) (hw : 1 ≤ c.s.wide * c.s.high ∧ c.s.wide * c.s.high ≤ 256) (hn : 0 ≤ n ∧ n < c.s.far) (hm : 0 ≤ m ∧ m < c.s.far) (hd : 0 ≤ dark ∧ dark ≤ c.s.wide * c.s.high) (hgr : 0 ≤ grey ∧ grey ≤ c.s.wide * c.s.high) (h1 : c.p.near ≤ n) (h2 : 0 < dark + grey) (h3 : c.p.near < m → 0 < dark) (h4 : c.p.near = m → dark = 0) : APure Tryz.prog 14 [stA c.s, fgA c.f, pcA c.p] (B true) := by
  refine apure_of (rs := [.tmp 6]) Tryz.func14 rfl rfl (Nat.le_of_ble_eq_true rfl) (by simp [AV.pureL, AV.pureB, AV.pureE, pureE_map]) (by first | rfl | (simp [AV.pureL, AV.pureB, AV.pureE, pureE_map])) fun e0 he0 => ?_
  refine aw_seq (aw_region (sq_box rfl J rfl (sq_box rfl J rfl ?_)))
  refine sq_box rfl J rfl (asr J rfl (sq_nil (aw_seq (aw_seq (aw_region (sq_ev rfl (ev_fieldAddr fo26_0 J) ?_))))))
  refine sq_ev rfl (ev_load J rfl ty24 rfl) ?_
  refine sq_ev rfl (ev_call en23 J (k23) ⟨J, trivial⟩) ?_
  refine sq_ev rfl (ev_not J) ?_
  refine mvr J rfl (sq_yes rfl rfl J rfl (ev_load_agg J rfl ty23 rfl) ?_)
  refine sq_yes rfl rfl J rfl (ev_call en24 J (k24) ⟨J, trivial⟩) ?_
  refine sq_yes rfl rfl J rfl (ev_not J) ?_
  refine pf rfl J J (mvr J rfl (sq_yes rfl rfl J rfl (ev_load_agg J rfl ty26 rfl) ?_))
  refine sq_yes rfl rfl J rfl (ev_call en25 J (k25) ⟨J, trivial⟩) ?_
  refine sq_yes rfl rfl J rfl (ev_not J) ?_
  refine pf rfl J J (mvr J rfl (sq_yes rfl rfl J rfl (ev_load_agg J rfl ty23 rfl) ?_))
  refine sq_yes rfl rfl J rfl (ev_load_agg J rfl ty28 rfl) ?_
  refine sq_yes rfl rfl J rfl (ev_call en26 J (k26) ⟨J, J, trivial⟩) ?_
  refine sq_yes rfl rfl J rfl (ev_not J) ?_
  refine pf rfl J J (sq_nil ?_)
  refine aw_cond J (fun c_35 => ?_) (fun c_35 => ?_)
  · skip
    have c_35' := c_35
    try simp only [qq] at c_35'
    first | exact absurd c_35 (by decide) | (exfalso; simp at c_35; done) | (exfalso; simp at c_35; omega) | (exfalso; simp_all; done) | (exfalso; simp_all; omega)
  · skip
    have c_35' := c_35
    try simp only [qq] at c_35'
    refine aw_skip (aw_seq (aw_region (sq_ev rfl (ev_load_agg J rfl ty23 rfl) ?_)))
    refine sq_ev rfl (ev_load_agg J rfl ty26 rfl) ?_
    refine sq_ev rfl (ev_load_agg J rfl ty28 rfl) ?_
    refine sq_ev rfl (ev_call en60 J (k60) ⟨J, J, J, trivial⟩) ?_
    refine sq_ev rfl (ev_mv (v := .tup _) J) ?_
    refine xtr rfl J rfl ?_
    refine xtr rfl J rfl (asr J rfl (asr J rfl (sq_nil (aw_seq (aw_region (sq_ev rfl (ev_load_agg J rfl ty23 rfl) ?_))))))
    refine sq_ev rfl (ev_load_agg J rfl ty26 rfl) ?_
    refine sq_ev rfl (ev_fieldAddr fo28_1 J) ?_
    refine sq_ev rfl (ev_load J rfl ty3 rfl) ?_
    refine sq_ev rfl (ev_fieldAddr fo28_2 J) ?_
    refine sq_ev rfl (ev_load J rfl ty3 rfl) ?_
    refine sq_ev rfl (ev_call en61 J (k61) ⟨J, J, J, J, trivial⟩) ?_
    refine sq_ev rfl (ev_mv (v := .tup _) J) ?_
    refine xtr rfl J rfl ?_
    refine xtr rfl J rfl (asr J rfl (asr J rfl (sq_nil (aw_seq (aw_region (sq_ev rfl (ev_load_agg J rfl ty23 rfl) ?_))))))
    refine sq_ev rfl (ev_load_agg J rfl ty26 rfl) ?_
    refine sq_ev rfl (ev_fieldAddr fo28_1 J) ?_
    refine sq_ev rfl (ev_load J rfl ty3 rfl) ?_
    refine sq_ev rfl (ev_fieldAddr fo28_2 J) ?_
    refine sq_ev rfl (ev_load J rfl ty3 rfl) ?_
    refine sq_ev rfl (ev_call en62 J (k62) ⟨J, J, J, J, trivial⟩) ?_
    refine sq_ev rfl (ev_mv (v := .tup _) J) ?_
    refine xtr rfl J rfl ?_
    refine xtr rfl J rfl (asr J rfl (asr J rfl (sq_nil (aw_seq (aw_region (sq_ev rfl (ev_load_agg J rfl ty23 rfl) ?_))))))
    refine sq_ev rfl (ev_load_agg J rfl ty26 rfl) ?_
    refine sq_ev rfl (ev_load_agg J rfl ty28 rfl) ?_
    refine sq_ev rfl (ev_call en33 J (k33) ⟨J, J, J, trivial⟩) ?_
    refine sq_ev rfl (ev_mv (v := .tup _) J) ?_
    refine xtr rfl J rfl (xtr rfl J rfl (xtr rfl J rfl (asr J rfl (asr J rfl ?_))))
    refine asr J rfl (sq_nil (aw_seq (aw_seq (aw_region (mvr J rfl (sq_ev rfl (ev_neq J J) ?_))))))
    refine mvr J rfl (ymr rfl rfl J rfl J (sq_yes rfl rfl J rfl (ev_neq J J) ?_))
    refine ymr rfl rfl J rfl J (sq_no rfl rfl J rfl rfl (sq_no rfl rfl J rfl rfl (sq_yes rfl rfl J rfl (ev_pickF (v := .raw _) J J) ?_)))
    refine pf rfl J J (mvr J rfl (ymr rfl rfl J rfl J (sq_yes rfl rfl J rfl (ev_neq J J) ?_)))
    refine ymr rfl rfl J rfl J (sq_no rfl rfl J rfl rfl (sq_no rfl rfl J rfl rfl (sq_yes rfl rfl J rfl (ev_pickF (v := .raw _) J J) ?_)))
    refine pf rfl J J (mvr J rfl (ymr rfl rfl J rfl J (sq_yes rfl rfl J rfl (ev_neq J J) ?_)))
    refine pf rfl J J (mvr J rfl (ymr rfl rfl J rfl J (sq_yes rfl rfl J rfl (ev_lss J J) ?_)))
    refine pf rfl J J (mvr J rfl ?_)
    refine sq_split 98 J (fun g7_26 => ?_) (fun g7_26 => ?_)
    · skip
      have g7_26' := g7_26
      try simp only [qq] at g7_26'
      first | exact absurd g7_26 (by decide) | (exfalso; simp at g7_26; done) | (exfalso; simp at g7_26; omega) | (exfalso; simp_all; done) | (exfalso; simp_all; omega)
    · skip
      have g7_26' := g7_26
      try simp only [qq] at g7_26'
      refine sq_yes rfl rfl (less_b g7_26) rfl (ev_mv (v := .raw _) J) ?_
      refine sq_yes rfl rfl (less_b g7_26) rfl (ev_fieldAddr fo23_2 J) ?_
      refine sq_yes rfl rfl (less_b g7_26) rfl (ev_load J rfl ty3 rfl) ?_
      refine sq_yes rfl rfl (less_b g7_26) rfl (ev_geq J J) ?_
      refine sq_ev rfl (ev_pickF (v := .raw _) (less_b g7_26) J) ?_
      refine mvr J rfl ?_
      refine sq_split 104 J (fun g7_32 => ?_) (fun g7_32 => ?_)
      · skip
        have g7_32' := g7_32
        try simp only [qq] at g7_32'
        first | exact absurd g7_32 (by decide) | (exfalso; simp at g7_32; done) | (exfalso; simp at g7_32; omega) | (exfalso; simp_all; done) | (exfalso; simp_all; omega)
      · skip
        have g7_32' := g7_32
        try simp only [qq] at g7_32'
        refine sq_yes rfl rfl (less_b g7_32) rfl (ev_mv (v := .raw _) J) ?_
        refine sq_yes rfl rfl (less_b g7_32) rfl (ev_lss J J) ?_
        refine sq_ev rfl (ev_pickF (v := .raw _) (less_b g7_32) J) ?_
        refine mvr J rfl ?_
        refine sq_split 108 J (fun g7_36 => ?_) (fun g7_36 => ?_)
        · skip
          have g7_36' := g7_36
          try simp only [qq] at g7_36'
          first | exact absurd g7_36 (by decide) | (exfalso; simp at g7_36; done) | (exfalso; simp at g7_36; omega) | (exfalso; simp_all; done) | (exfalso; simp_all; omega)
        · skip
          have g7_36' := g7_36
          try simp only [qq] at g7_36'
          refine sq_yes rfl rfl (less_b g7_36) rfl (ev_mv (v := .raw _) J) ?_
          refine sq_yes rfl rfl (less_b g7_36) rfl (ev_fieldAddr fo23_2 J) ?_
          refine sq_yes rfl rfl (less_b g7_36) rfl (ev_load J rfl ty3 rfl) ?_
          refine sq_yes rfl rfl (less_b g7_36) rfl (ev_geq J J) ?_
          refine sq_ev rfl (ev_pickF (v := .raw _) (less_b g7_36) J) ?_
          refine mvr J rfl ?_
          refine sq_split 114 J (fun g7_42 => ?_) (fun g7_42 => ?_)
          · skip
            have g7_42' := g7_42
            try simp only [qq] at g7_42'
            first | exact absurd g7_42 (by decide) | (exfalso; simp at g7_42; done) | (exfalso; simp at g7_42; omega) | (exfalso; simp_all; done) | (exfalso; simp_all; omega)
          · skip
            have g7_42' := g7_42
            try simp only [qq] at g7_42'
            refine sq_yes rfl rfl (less_b g7_42) rfl (ev_mv (v := .raw _) J) ?_
            refine sq_yes rfl rfl (less_b g7_42) rfl (ev_lss J J) ?_
            refine sq_ev rfl (ev_pickF (v := .raw _) (less_b g7_42) J) ?_
            refine mvr J rfl ?_
            refine sq_split 118 J (fun g7_46 => ?_) (fun g7_46 => ?_)
            · skip
              have g7_46' := g7_46
              try simp only [qq] at g7_46'
              first | exact absurd g7_46 (by decide) | (exfalso; simp at g7_46; done) | (exfalso; simp at g7_46; omega) | (exfalso; simp_all; done) | (exfalso; simp_all; omega)
            · skip
              have g7_46' := g7_46
              try simp only [qq] at g7_46'
              refine sq_yes rfl rfl (less_b g7_46) rfl (ev_mv (v := .raw _) J) ?_
              refine sq_yes rfl rfl (less_b g7_46) rfl (ev_lss J J) ?_
              refine sq_ev rfl (ev_pickF (v := .raw _) (less_b g7_46) J) ?_
              refine mvr J rfl ?_
              refine sq_split 122 J (fun g7_50 => ?_) (fun g7_50 => ?_)
              · skip
                have g7_50' := g7_50
                try simp only [qq] at g7_50'
                first | exact absurd g7_50 (by decide) | (exfalso; simp at g7_50; done) | (exfalso; simp at g7_50; omega) | (exfalso; simp_all; done) | (exfalso; simp_all; omega)
              · skip
                have g7_50' := g7_50
                try simp only [qq] at g7_50'
                refine sq_yes rfl rfl (less_b g7_50) rfl (ev_mv (v := .raw _) J) ?_
                refine sq_yes rfl rfl (less_b g7_50) rfl (ev_fieldAddr fo23_0 J) ?_
                refine sq_yes rfl rfl (less_b g7_50) rfl (ev_load J rfl ty3 rfl) ?_
                refine sq_yes rfl rfl (less_b g7_50) rfl (ev_fieldAddr fo23_1 J) ?_
                refine sq_yes rfl rfl (less_b g7_50) rfl (ev_load J rfl ty3 rfl) ?_
                refine sq_yes rfl rfl (less_b g7_50) rfl (ev_mul J J (wr (by omega) (by omega))) ?_
                refine sq_yes rfl rfl (less_b g7_50) rfl (ev_gtr J J) ?_
                refine sq_ev rfl (ev_pickF (v := .raw _) (less_b g7_50) J) ?_
                refine mvr J rfl ?_
                refine sq_split 131 J (fun g7_59 => ?_) (fun g7_59 => ?_)
                · skip
                  have g7_59' := g7_59
                  try simp only [qq] at g7_59'
                  first | exact absurd g7_59 (by decide) | (exfalso; simp at g7_59; done) | (exfalso; simp at g7_59; omega) | (exfalso; simp_all; done) | (exfalso; simp_all; omega)
                · skip
                  have g7_59' := g7_59
                  try simp only [qq] at g7_59'
                  refine sq_yes rfl rfl (less_b g7_59) rfl (ev_mv (v := .raw _) J) ?_
                  refine sq_yes rfl rfl (less_b g7_59) rfl (ev_fieldAddr fo23_0 J) ?_
                  refine sq_yes rfl rfl (less_b g7_59) rfl (ev_load J rfl ty3 rfl) ?_
                  refine sq_yes rfl rfl (less_b g7_59) rfl (ev_fieldAddr fo23_1 J) ?_
                  refine sq_yes rfl rfl (less_b g7_59) rfl (ev_load J rfl ty3 rfl) ?_
                  refine sq_yes rfl rfl (less_b g7_59) rfl (ev_mul J J (wr (by omega) (by omega))) ?_
                  refine sq_yes rfl rfl (less_b g7_59) rfl (ev_gtr J J) ?_
                  refine sq_ev rfl (ev_pickF (v := .raw _) (less_b g7_59) J) ?_
                  refine sq_nil ?_
                  refine aw_cond J (fun c_139 => ?_) (fun c_139 => ?_)
                  · skip
                    have c_139' := c_139
                    try simp only [qq] at c_139'
                    first | exact absurd c_139 (by decide) | (exfalso; simp at c_139; done) | (exfalso; simp at c_139; omega) | (exfalso; simp_all; done) | (exfalso; simp_all; omega)
                  · skip
                    have c_139' := c_139
                    try simp only [qq] at c_139'
                    refine aw_skip (aw_seq (aw_seq (aw_region (mvr J rfl (mvr J rfl (sq_ev rfl (ev_eql J J) ?_))))))
                    refine mvr J rfl (sq_yes rfl rfl J rfl (ev_fieldAddr fo28_0 J) ?_)
                    refine sq_yes rfl rfl J rfl (ev_load J rfl ty3 rfl) ?_
                    refine ymr rfl rfl J rfl J (sq_yes rfl rfl J rfl (ev_leq J J) ?_)
                    refine sq_ev rfl (ev_pickT (v := .raw _) J J) ?_
                    refine sq_ev rfl (ev_neqB un4 J J) ?_
                    refine mvr J rfl ?_
                    refine sq_split 150 J (fun g9_10 => ?_) (fun g9_10 => ?_)
                    · skip
                      have g9_10' := g9_10
                      try simp only [qq] at g9_10'
                      first | exact absurd g9_10 (by decide) | (exfalso; simp at g9_10; done) | (exfalso; simp at g9_10; omega) | (exfalso; simp_all; done) | (exfalso; simp_all; omega)
                    · skip
                      have g9_10' := g9_10
                      try simp only [qq] at g9_10'
                      refine sq_yes rfl rfl (less_b g9_10) rfl (ev_mv (v := .raw _) J) ?_
                      refine sq_yes rfl rfl (less_b g9_10) rfl (ev_mv (v := .raw _) J) ?_
                      refine ymr rfl rfl J rfl J (ymr rfl rfl J rfl J (sq_yes rfl rfl J rfl (ev_add J J (wr (by omega) (by omega))) ?_))
                      refine sq_yes rfl rfl J rfl (ev_eql J J) ?_
                      refine sq_yes rfl rfl (less_b g9_10) rfl (ev_pickT (v := .raw _) J J) ?_
                      refine sq_ev rfl (ev_pickF (v := .raw _) (less_b g9_10) J) ?_
                      refine mvr J rfl ?_
                      refine sq_split 159 J (fun g9_19 => ?_) (fun g9_19 => ?_)
                      · skip
                        have g9_19' := g9_19
                        try simp only [qq] at g9_19'
                        first | exact absurd g9_19 (by decide) | (exfalso; simp at g9_19; done) | (exfalso; simp at g9_19; omega) | (exfalso; simp_all; done) | (exfalso; simp_all; omega)
                      · skip
                        have g9_19' := g9_19
                        try simp only [qq] at g9_19'
                        refine sq_yes rfl rfl (less_b g9_19) rfl (ev_mv (v := .raw _) J) ?_
                        refine sq_yes rfl rfl (less_b g9_19) rfl (ev_neq J J) ?_
                        refine sq_yes rfl rfl (less_b g9_19) rfl (ev_mv (v := .raw _) J) ?_
                        refine sq_yes rfl rfl J rfl (ev_fieldAddr fo28_0 J) ?_
                        refine sq_yes rfl rfl J rfl (ev_load J rfl ty3 rfl) ?_
                        refine ymr rfl rfl J rfl J (sq_yes rfl rfl J rfl (ev_lss J J) ?_)
                        refine sq_yes rfl rfl (less_b g9_19) rfl (ev_pickF (v := .raw _) J J) ?_
                        refine sq_yes rfl rfl (less_b g9_19) rfl (ev_mv (v := .raw _) J) ?_
                        refine sq_split 168 J (fun g9_28 => ?_) (fun g9_28 => ?_)
                        · skip
                          have g9_28' := g9_28
                          try simp only [qq] at g9_28'
                          refine sq_yes rfl rfl (less_b g9_28) rfl (ev_mv (v := .raw _) J) ?_
                          refine sq_yes rfl rfl (less_b g9_28) rfl (ev_eql J J) ?_
                          refine sq_yes rfl rfl (less_b g9_19) rfl (ev_pickT (v := .raw _) (less_b g9_28) J) ?_
                          refine sq_ev rfl (ev_pickF (v := .raw _) (less_b g9_19) J) ?_
                          refine mvr J rfl ?_
                          refine sq_split 173 J (fun g9_33 => ?_) (fun g9_33 => ?_)
                          · skip
                            have g9_33' := g9_33
                            try simp only [qq] at g9_33'
                            first | exact absurd g9_33 (by decide) | (exfalso; simp at g9_33; done) | (exfalso; simp at g9_33; omega) | (exfalso; simp_all; done) | (exfalso; simp_all; omega)
                          · skip
                            have g9_33' := g9_33
                            try simp only [qq] at g9_33'
                            refine sq_yes rfl rfl (less_b g9_33) rfl (ev_mv (v := .raw _) J) ?_
                            refine sq_yes rfl rfl (less_b g9_33) rfl (ev_eql J J) ?_
                            refine sq_yes rfl rfl (less_b g9_33) rfl (ev_mv (v := .raw _) J) ?_
                            refine sq_yes rfl rfl J rfl (ev_fieldAddr fo28_0 J) ?_
                            refine sq_yes rfl rfl J rfl (ev_load J rfl ty3 rfl) ?_
                            refine ymr rfl rfl J rfl J (sq_yes rfl rfl J rfl (ev_eql J J) ?_)
                            refine sq_yes rfl rfl (less_b g9_33) rfl (ev_pickT (v := .raw _) J J) ?_
                            refine sq_yes rfl rfl (less_b g9_33) rfl (ev_mv (v := .raw _) J) ?_
                            refine sq_split 182 J (fun g9_42 => ?_) (fun g9_42 => ?_)
                            · skip
                              have g9_42' := g9_42
                              try simp only [qq] at g9_42'
                              refine sq_yes rfl rfl (less_b g9_42) rfl (ev_mv (v := .raw _) J) ?_
                              refine sq_yes rfl rfl (less_b g9_42) rfl (ev_gtr J J) ?_
                              refine sq_yes rfl rfl (less_b g9_33) rfl (ev_pickT (v := .raw _) (less_b g9_42) J) ?_
                              refine sq_ev rfl (ev_pickF (v := .raw _) (less_b g9_33) J) ?_
                              refine sq_nil ?_
                              refine aw_cond J (fun c_186 => ?_) (fun c_186 => ?_)
                              · skip
                                have c_186' := c_186
                                try simp only [qq] at c_186'
                                first | exact absurd c_186 (by decide) | (exfalso; simp at c_186; done) | (exfalso; simp at c_186; omega) | (exfalso; simp_all; done) | (exfalso; simp_all; omega)
                              · skip
                                have c_186' := c_186
                                try simp only [qq] at c_186'
                                refine aw_skip (aw_seq (aw_region (sq_ev rfl (ev_call en27 J (known_pure) trivial) ?_)))
                                refine asr J rfl (sq_nil (aw_ret ?_))
                                exact retQ_pure (v := .raw _) rfl rfl J
                            · skip
                              have g9_42' := g9_42
                              try simp only [qq] at g9_42'
                              refine sq_no rfl rfl (less_b g9_42) rfl rfl ?_
                              refine sq_no rfl rfl (less_b g9_42) rfl rfl ?_
                              refine sq_yes rfl rfl (less_b g9_33) rfl (ev_pickF (v := .raw _) (less_b g9_42) J) ?_
                              refine sq_ev rfl (ev_pickF (v := .raw _) (less_b g9_33) J) ?_
                              refine sq_nil ?_
                              refine aw_false J ?_
                              refine aw_skip (aw_seq (aw_region (sq_ev rfl (ev_call en27 J (known_pure) trivial) ?_)))
                              refine asr J rfl (sq_nil (aw_ret ?_))
                              exact retQ_pure (v := .raw _) rfl rfl J
                        · skip
                          have g9_28' := g9_28
                          try simp only [qq] at g9_28'
                          refine sq_no rfl rfl (less_b g9_28) rfl rfl ?_
                          refine sq_no rfl rfl (less_b g9_28) rfl rfl ?_
                          refine sq_yes rfl rfl (less_b g9_19) rfl (ev_pickF (v := .raw _) (less_b g9_28) J) ?_
                          refine sq_ev rfl (ev_pickF (v := .raw _) (less_b g9_19) J) ?_
                          refine mvr J rfl (ymr rfl rfl J rfl J (sq_yes rfl rfl J rfl (ev_eql J J) ?_))
                          refine ymr rfl rfl J rfl J (sq_yes rfl rfl J rfl (ev_fieldAddr fo28_0 J) ?_)
                          refine sq_yes rfl rfl J rfl (ev_load J rfl ty3 rfl) ?_
                          refine ymr rfl rfl J rfl J (sq_yes rfl rfl J rfl (ev_eql J J) ?_)
                          refine sq_yes rfl rfl J rfl (ev_pickT (v := .raw _) J J) ?_
                          refine ymr rfl rfl J rfl J ?_
                          refine sq_split 182 J (fun g9_42 => ?_) (fun g9_42 => ?_)
                          · skip
                            have g9_42' := g9_42
                            try simp only [qq] at g9_42'
                            refine sq_yes rfl rfl (less_b g9_42) rfl (ev_mv (v := .raw _) J) ?_
                            refine sq_yes rfl rfl (less_b g9_42) rfl (ev_gtr J J) ?_
                            refine sq_yes rfl rfl J rfl (ev_pickT (v := .raw _) (less_b g9_42) J) ?_
                            refine pf rfl J J (sq_nil ?_)
                            refine aw_cond J (fun c_186 => ?_) (fun c_186 => ?_)
                            · skip
                              have c_186' := c_186
                              try simp only [qq] at c_186'
                              first | exact absurd c_186 (by decide) | (exfalso; simp at c_186; done) | (exfalso; simp at c_186; omega) | (exfalso; simp_all; done) | (exfalso; simp_all; omega)
                            · skip
                              have c_186' := c_186
                              try simp only [qq] at c_186'
                              refine aw_skip (aw_seq (aw_region (sq_ev rfl (ev_call en27 J (known_pure) trivial) ?_)))
                              refine asr J rfl (sq_nil (aw_ret ?_))
                              exact retQ_pure (v := .raw _) rfl rfl J
                          · skip
                            have g9_42' := g9_42
                            try simp only [qq] at g9_42'
                            refine sq_no rfl rfl (less_b g9_42) rfl rfl ?_
                            refine sq_no rfl rfl (less_b g9_42) rfl rfl ?_
                            refine sq_yes rfl rfl J rfl (ev_pickF (v := .raw _) (less_b g9_42) J) ?_
                            refine pf rfl J J (sq_nil ?_)
                            refine aw_false J ?_
                            refine aw_skip (aw_seq (aw_region (sq_ev rfl (ev_call en27 J (known_pure) trivial) ?_)))
                            refine asr J rfl (sq_nil (aw_ret ?_))
                            exact retQ_pure (v := .raw _) rfl rfl J
set_option maxRecDepth 20000 in
theorem near_t05 {c : Ca} {n m dark grey : Int} (k23 : APure Tryz.prog 23 [strs c.f] (B true)) (k24 : APure Tryz.prog 24 [stA c.s] (B true)) (k25 : APure Tryz.prog 25 [fgA c.f] (B true)) (k26 : APure Tryz.prog 26 [stA c.s, pcA c.p] (B true))
    (k60 : APure Tryz.prog 60 [stA c.s, fgA c.f, pcA c.p] (.tup [B true, I 0])) (k61 : APure Tryz.prog 61 [stA c.s, fgA c.f, I c.p.x, I c.p.y] (.tup [I n, I 0])) (k62 : APure Tryz.prog 62 [stA c.s, fgA c.f, I c.p.x, I c.p.y] (.tup [I m, I 5]))
    (k33 : APure Tryz.prog 33 [stA c.s, fgA c.f, pcA c.p] (.tup [I dark, I grey, I 0])) (hw : 1 ≤ c.s.wide * c.s.high ∧ c.s.wide * c.s.high ≤ 256) (hn : 0 ≤ n ∧ n < c.s.far) (hm : 0 ≤ m ∧ m < c.s.far) (hd : 0 ≤ dark ∧ dark ≤ c.s.wide * c.s.high) (hgr : 0 ≤ grey ∧ grey ≤ c.s.wide * c.s.high) (h1 : c.p.near ≤ n) (h2 : 0 < dark + grey) (h3 : 0 < dark) : APure Tryz.prog 14 [stA c.s, fgA c.f, pcA c.p] (B true) := by
  refine apure_of (rs := [.tmp 6]) Tryz.func14 rfl rfl (Nat.le_of_ble_eq_true rfl) (by simp [AV.pureL, AV.pureB, AV.pureE, pureE_map]) (by first | rfl | (simp [AV.pureL, AV.pureB, AV.pureE, pureE_map])) fun e0 he0 => ?_
  refine aw_seq (aw_region (sq_box rfl J rfl (sq_box rfl J rfl ?_)))
  refine sq_box rfl J rfl (asr J rfl (sq_nil (aw_seq (aw_seq (aw_region (sq_ev rfl (ev_fieldAddr fo26_0 J) ?_))))))
  refine sq_ev rfl (ev_load J rfl ty24 rfl) ?_
  refine sq_ev rfl (ev_call en23 J (k23) ⟨J, trivial⟩) ?_
  refine sq_ev rfl (ev_not J) ?_
  refine mvr J rfl (sq_yes rfl rfl J rfl (ev_load_agg J rfl ty23 rfl) ?_)
  refine sq_yes rfl rfl J rfl (ev_call en24 J (k24) ⟨J, trivial⟩) ?_
  refine sq_yes rfl rfl J rfl (ev_not J) ?_
  refine pf rfl J J (mvr J rfl (sq_yes rfl rfl J rfl (ev_load_agg J rfl ty26 rfl) ?_))
  refine sq_yes rfl rfl J rfl (ev_call en25 J (k25) ⟨J, trivial⟩) ?_
  refine sq_yes rfl rfl J rfl (ev_not J) ?_
  refine pf rfl J J (mvr J rfl (sq_yes rfl rfl J rfl (ev_load_agg J rfl ty23 rfl) ?_))
  refine sq_yes rfl rfl J rfl (ev_load_agg J rfl ty28 rfl) ?_
  refine sq_yes rfl rfl J rfl (ev_call en26 J (k26) ⟨J, J, trivial⟩) ?_
  refine sq_yes rfl rfl J rfl (ev_not J) ?_
  refine pf rfl J J (sq_nil ?_)
  refine aw_cond J (fun c_35 => ?_) (fun c_35 => ?_)
  · skip
    have c_35' := c_35
    try simp only [qq] at c_35'
    first | exact absurd c_35 (by decide) | (exfalso; simp at c_35; done) | (exfalso; simp at c_35; omega) | (exfalso; simp_all; done) | (exfalso; simp_all; omega)
  · skip
    have c_35' := c_35
    try simp only [qq] at c_35'
    refine aw_skip (aw_seq (aw_region (sq_ev rfl (ev_load_agg J rfl ty23 rfl) ?_)))
    refine sq_ev rfl (ev_load_agg J rfl ty26 rfl) ?_
    refine sq_ev rfl (ev_load_agg J rfl ty28 rfl) ?_
    refine sq_ev rfl (ev_call en60 J (k60) ⟨J, J, J, trivial⟩) ?_
    refine sq_ev rfl (ev_mv (v := .tup _) J) ?_
    refine xtr rfl J rfl ?_
    refine xtr rfl J rfl (asr J rfl (asr J rfl (sq_nil (aw_seq (aw_region (sq_ev rfl (ev_load_agg J rfl ty23 rfl) ?_))))))
    refine sq_ev rfl (ev_load_agg J rfl ty26 rfl) ?_
    refine sq_ev rfl (ev_fieldAddr fo28_1 J) ?_
    refine sq_ev rfl (ev_load J rfl ty3 rfl) ?_
    refine sq_ev rfl (ev_fieldAddr fo28_2 J) ?_
    refine sq_ev rfl (ev_load J rfl ty3 rfl) ?_
    refine sq_ev rfl (ev_call en61 J (k61) ⟨J, J, J, J, trivial⟩) ?_
    refine sq_ev rfl (ev_mv (v := .tup _) J) ?_
    refine xtr rfl J rfl ?_
    refine xtr rfl J rfl (asr J rfl (asr J rfl (sq_nil (aw_seq (aw_region (sq_ev rfl (ev_load_agg J rfl ty23 rfl) ?_))))))
    refine sq_ev rfl (ev_load_agg J rfl ty26 rfl) ?_
    refine sq_ev rfl (ev_fieldAddr fo28_1 J) ?_
    refine sq_ev rfl (ev_load J rfl ty3 rfl) ?_
    refine sq_ev rfl (ev_fieldAddr fo28_2 J) ?_
    refine sq_ev rfl (ev_load J rfl ty3 rfl) ?_
    refine sq_ev rfl (ev_call en62 J (k62) ⟨J, J, J, J, trivial⟩) ?_
    refine sq_ev rfl (ev_mv (v := .tup _) J) ?_
    refine xtr rfl J rfl ?_
    refine xtr rfl J rfl (asr J rfl (asr J rfl (sq_nil (aw_seq (aw_region (sq_ev rfl (ev_load_agg J rfl ty23 rfl) ?_))))))
    refine sq_ev rfl (ev_load_agg J rfl ty26 rfl) ?_
    refine sq_ev rfl (ev_load_agg J rfl ty28 rfl) ?_
    refine sq_ev rfl (ev_call en33 J (k33) ⟨J, J, J, trivial⟩) ?_
    refine sq_ev rfl (ev_mv (v := .tup _) J) ?_
    refine xtr rfl J rfl (xtr rfl J rfl (xtr rfl J rfl (asr J rfl (asr J rfl ?_))))
    refine asr J rfl (sq_nil (aw_seq (aw_seq (aw_region (mvr J rfl (sq_ev rfl (ev_neq J J) ?_))))))
    refine mvr J rfl (ymr rfl rfl J rfl J (sq_yes rfl rfl J rfl (ev_neq J J) ?_))
    refine ymr rfl rfl J rfl J (sq_no rfl rfl J rfl rfl (sq_no rfl rfl J rfl rfl (sq_yes rfl rfl J rfl (ev_pickF (v := .raw _) J J) ?_)))
    refine pf rfl J J (mvr J rfl (ymr rfl rfl J rfl J (sq_yes rfl rfl J rfl (ev_neq J J) ?_)))
    refine ymr rfl rfl J rfl J (ymr rfl rfl J rfl J (sq_yes rfl rfl J rfl (ev_neq J J) ?_))
    refine sq_yes rfl rfl J rfl (ev_pickT (v := .raw _) J J) ?_
    refine pf rfl J J (mvr J rfl (ymr rfl rfl J rfl J (sq_yes rfl rfl J rfl (ev_neq J J) ?_)))
    refine pf rfl J J (mvr J rfl (ymr rfl rfl J rfl J (sq_yes rfl rfl J rfl (ev_lss J J) ?_)))
    refine pf rfl J J (mvr J rfl ?_)
    refine sq_split 98 J (fun g7_26 => ?_) (fun g7_26 => ?_)
    · skip
      have g7_26' := g7_26
      try simp only [qq] at g7_26'
      first | exact absurd g7_26 (by decide) | (exfalso; simp at g7_26; done) | (exfalso; simp at g7_26; omega) | (exfalso; simp_all; done) | (exfalso; simp_all; omega)
    · skip
      have g7_26' := g7_26
      try simp only [qq] at g7_26'
      refine sq_yes rfl rfl (less_b g7_26) rfl (ev_mv (v := .raw _) J) ?_
      refine sq_yes rfl rfl (less_b g7_26) rfl (ev_fieldAddr fo23_2 J) ?_
      refine sq_yes rfl rfl (less_b g7_26) rfl (ev_load J rfl ty3 rfl) ?_
      refine sq_yes rfl rfl (less_b g7_26) rfl (ev_geq J J) ?_
      refine sq_ev rfl (ev_pickF (v := .raw _) (less_b g7_26) J) ?_
      refine mvr J rfl ?_
      refine sq_split 104 J (fun g7_32 => ?_) (fun g7_32 => ?_)
      · skip
        have g7_32' := g7_32
        try simp only [qq] at g7_32'
        first | exact absurd g7_32 (by decide) | (exfalso; simp at g7_32; done) | (exfalso; simp at g7_32; omega) | (exfalso; simp_all; done) | (exfalso; simp_all; omega)
      · skip
        have g7_32' := g7_32
        try simp only [qq] at g7_32'
        refine sq_yes rfl rfl (less_b g7_32) rfl (ev_mv (v := .raw _) J) ?_
        refine sq_yes rfl rfl (less_b g7_32) rfl (ev_lss J J) ?_
        refine sq_ev rfl (ev_pickF (v := .raw _) (less_b g7_32) J) ?_
        refine mvr J rfl ?_
        refine sq_split 108 J (fun g7_36 => ?_) (fun g7_36 => ?_)
        · skip
          have g7_36' := g7_36
          try simp only [qq] at g7_36'
          first | exact absurd g7_36 (by decide) | (exfalso; simp at g7_36; done) | (exfalso; simp at g7_36; omega) | (exfalso; simp_all; done) | (exfalso; simp_all; omega)
        · skip
          have g7_36' := g7_36
          try simp only [qq] at g7_36'
          refine sq_yes rfl rfl (less_b g7_36) rfl (ev_mv (v := .raw _) J) ?_
          refine sq_yes rfl rfl (less_b g7_36) rfl (ev_fieldAddr fo23_2 J) ?_
          refine sq_yes rfl rfl (less_b g7_36) rfl (ev_load J rfl ty3 rfl) ?_
          refine sq_yes rfl rfl (less_b g7_36) rfl (ev_geq J J) ?_
          refine sq_ev rfl (ev_pickF (v := .raw _) (less_b g7_36) J) ?_
          refine mvr J rfl ?_
          refine sq_split 114 J (fun g7_42 => ?_) (fun g7_42 => ?_)
          · skip
            have g7_42' := g7_42
            try simp only [qq] at g7_42'
            first | exact absurd g7_42 (by decide) | (exfalso; simp at g7_42; done) | (exfalso; simp at g7_42; omega) | (exfalso; simp_all; done) | (exfalso; simp_all; omega)
          · skip
            have g7_42' := g7_42
            try simp only [qq] at g7_42'
            refine sq_yes rfl rfl (less_b g7_42) rfl (ev_mv (v := .raw _) J) ?_
            refine sq_yes rfl rfl (less_b g7_42) rfl (ev_lss J J) ?_
            refine sq_ev rfl (ev_pickF (v := .raw _) (less_b g7_42) J) ?_
            refine mvr J rfl ?_
            refine sq_split 118 J (fun g7_46 => ?_) (fun g7_46 => ?_)
            · skip
              have g7_46' := g7_46
              try simp only [qq] at g7_46'
              first | exact absurd g7_46 (by decide) | (exfalso; simp at g7_46; done) | (exfalso; simp at g7_46; omega) | (exfalso; simp_all; done) | (exfalso; simp_all; omega)
            · skip
              have g7_46' := g7_46
              try simp only [qq] at g7_46'
              refine sq_yes rfl rfl (less_b g7_46) rfl (ev_mv (v := .raw _) J) ?_
              refine sq_yes rfl rfl (less_b g7_46) rfl (ev_lss J J) ?_
              refine sq_ev rfl (ev_pickF (v := .raw _) (less_b g7_46) J) ?_
              refine mvr J rfl ?_
              refine sq_split 122 J (fun g7_50 => ?_) (fun g7_50 => ?_)
              · skip
                have g7_50' := g7_50
                try simp only [qq] at g7_50'
                first | exact absurd g7_50 (by decide) | (exfalso; simp at g7_50; done) | (exfalso; simp at g7_50; omega) | (exfalso; simp_all; done) | (exfalso; simp_all; omega)
              · skip
                have g7_50' := g7_50
                try simp only [qq] at g7_50'
                refine sq_yes rfl rfl (less_b g7_50) rfl (ev_mv (v := .raw _) J) ?_
                refine sq_yes rfl rfl (less_b g7_50) rfl (ev_fieldAddr fo23_0 J) ?_
                refine sq_yes rfl rfl (less_b g7_50) rfl (ev_load J rfl ty3 rfl) ?_
                refine sq_yes rfl rfl (less_b g7_50) rfl (ev_fieldAddr fo23_1 J) ?_
                refine sq_yes rfl rfl (less_b g7_50) rfl (ev_load J rfl ty3 rfl) ?_
                refine sq_yes rfl rfl (less_b g7_50) rfl (ev_mul J J (wr (by omega) (by omega))) ?_
                refine sq_yes rfl rfl (less_b g7_50) rfl (ev_gtr J J) ?_
                refine sq_ev rfl (ev_pickF (v := .raw _) (less_b g7_50) J) ?_
                refine mvr J rfl ?_
                refine sq_split 131 J (fun g7_59 => ?_) (fun g7_59 => ?_)
                · skip
                  have g7_59' := g7_59
                  try simp only [qq] at g7_59'
                  first | exact absurd g7_59 (by decide) | (exfalso; simp at g7_59; done) | (exfalso; simp at g7_59; omega) | (exfalso; simp_all; done) | (exfalso; simp_all; omega)
                · skip
                  have g7_59' := g7_59
                  try simp only [qq] at g7_59'
                  refine sq_yes rfl rfl (less_b g7_59) rfl (ev_mv (v := .raw _) J) ?_
                  refine sq_yes rfl rfl (less_b g7_59) rfl (ev_fieldAddr fo23_0 J) ?_
                  refine sq_yes rfl rfl (less_b g7_59) rfl (ev_load J rfl ty3 rfl) ?_
                  refine sq_yes rfl rfl (less_b g7_59) rfl (ev_fieldAddr fo23_1 J) ?_
                  refine sq_yes rfl rfl (less_b g7_59) rfl (ev_load J rfl ty3 rfl) ?_
                  refine sq_yes rfl rfl (less_b g7_59) rfl (ev_mul J J (wr (by omega) (by omega))) ?_
                  refine sq_yes rfl rfl (less_b g7_59) rfl (ev_gtr J J) ?_
                  refine sq_ev rfl (ev_pickF (v := .raw _) (less_b g7_59) J) ?_
                  refine sq_nil ?_
                  refine aw_cond J (fun c_139 => ?_) (fun c_139 => ?_)
                  · skip
                    have c_139' := c_139
                    try simp only [qq] at c_139'
                    first | exact absurd c_139 (by decide) | (exfalso; simp at c_139; done) | (exfalso; simp at c_139; omega) | (exfalso; simp_all; done) | (exfalso; simp_all; omega)
                  · skip
                    have c_139' := c_139
                    try simp only [qq] at c_139'
                    refine aw_skip (aw_seq (aw_seq (aw_region (mvr J rfl (mvr J rfl (sq_ev rfl (ev_eql J J) ?_))))))
                    refine mvr J rfl (sq_yes rfl rfl J rfl (ev_fieldAddr fo28_0 J) ?_)
                    refine sq_yes rfl rfl J rfl (ev_load J rfl ty3 rfl) ?_
                    refine ymr rfl rfl J rfl J (sq_yes rfl rfl J rfl (ev_leq J J) ?_)
                    refine sq_ev rfl (ev_pickT (v := .raw _) J J) ?_
                    refine sq_ev rfl (ev_neqB un4 J J) ?_
                    refine mvr J rfl ?_
                    refine sq_split 150 J (fun g9_10 => ?_) (fun g9_10 => ?_)
                    · skip
                      have g9_10' := g9_10
                      try simp only [qq] at g9_10'
                      first | exact absurd g9_10 (by decide) | (exfalso; simp at g9_10; done) | (exfalso; simp at g9_10; omega) | (exfalso; simp_all; done) | (exfalso; simp_all; omega)
                    · skip
                      have g9_10' := g9_10
                      try simp only [qq] at g9_10'
                      refine sq_yes rfl rfl (less_b g9_10) rfl (ev_mv (v := .raw _) J) ?_
                      refine sq_yes rfl rfl (less_b g9_10) rfl (ev_mv (v := .raw _) J) ?_
                      refine ymr rfl rfl J rfl J (ymr rfl rfl J rfl J (sq_yes rfl rfl J rfl (ev_add J J (wr (by omega) (by omega))) ?_))
                      refine sq_yes rfl rfl J rfl (ev_eql J J) ?_
                      refine sq_yes rfl rfl (less_b g9_10) rfl (ev_pickT (v := .raw _) J J) ?_
                      refine sq_ev rfl (ev_pickF (v := .raw _) (less_b g9_10) J) ?_
                      refine mvr J rfl ?_
                      refine sq_split 159 J (fun g9_19 => ?_) (fun g9_19 => ?_)
                      · skip
                        have g9_19' := g9_19
                        try simp only [qq] at g9_19'
                        first | exact absurd g9_19 (by decide) | (exfalso; simp at g9_19; done) | (exfalso; simp at g9_19; omega) | (exfalso; simp_all; done) | (exfalso; simp_all; omega)
                      · skip
                        have g9_19' := g9_19
                        try simp only [qq] at g9_19'
                        refine sq_yes rfl rfl (less_b g9_19) rfl (ev_mv (v := .raw _) J) ?_
                        refine sq_yes rfl rfl (less_b g9_19) rfl (ev_neq J J) ?_
                        refine sq_yes rfl rfl (less_b g9_19) rfl (ev_mv (v := .raw _) J) ?_
                        refine sq_no rfl rfl J rfl rfl (sq_no rfl rfl J rfl rfl (sq_no rfl rfl J rfl rfl (sq_no rfl rfl J rfl rfl (sq_yes rfl rfl (less_b g9_19) rfl (ev_pickT (v := .raw _) J J) ?_))))
                        refine sq_yes rfl rfl (less_b g9_19) rfl (ev_mv (v := .raw _) J) ?_
                        refine ymr rfl rfl J rfl J (sq_yes rfl rfl J rfl (ev_eql J J) ?_)
                        refine sq_yes rfl rfl (less_b g9_19) rfl (ev_pickT (v := .raw _) J J) ?_
                        refine sq_ev rfl (ev_pickF (v := .raw _) (less_b g9_19) J) ?_
                        refine mvr J rfl ?_
                        refine sq_split 173 J (fun g9_33 => ?_) (fun g9_33 => ?_)
                        · skip
                          have g9_33' := g9_33
                          try simp only [qq] at g9_33'
                          first | exact absurd g9_33 (by decide) | (exfalso; simp at g9_33; done) | (exfalso; simp at g9_33; omega) | (exfalso; simp_all; done) | (exfalso; simp_all; omega)
                        · skip
                          have g9_33' := g9_33
                          try simp only [qq] at g9_33'
                          refine sq_yes rfl rfl (less_b g9_33) rfl (ev_mv (v := .raw _) J) ?_
                          refine sq_yes rfl rfl (less_b g9_33) rfl (ev_eql J J) ?_
                          refine sq_yes rfl rfl (less_b g9_33) rfl (ev_mv (v := .raw _) J) ?_
                          refine sq_no rfl rfl J rfl rfl (sq_no rfl rfl J rfl rfl (sq_no rfl rfl J rfl rfl (sq_no rfl rfl J rfl rfl (sq_yes rfl rfl (less_b g9_33) rfl (ev_pickF (v := .raw _) J J) ?_))))
                          refine sq_yes rfl rfl (less_b g9_33) rfl (ev_mv (v := .raw _) J) ?_
                          refine sq_no rfl rfl J rfl rfl (sq_no rfl rfl J rfl rfl (sq_yes rfl rfl (less_b g9_33) rfl (ev_pickF (v := .raw _) J J) ?_))
                          refine sq_ev rfl (ev_pickF (v := .raw _) (less_b g9_33) J) ?_
                          refine sq_nil ?_
                          refine aw_false J ?_
                          refine aw_skip (aw_seq (aw_region (sq_ev rfl (ev_call en27 J (known_pure) trivial) ?_)))
                          refine asr J rfl (sq_nil (aw_ret ?_))
                          exact retQ_pure (v := .raw _) rfl rfl J
set_option maxRecDepth 20000 in
theorem near_f00 {c : Ca} {n m dark grey : Int} (k23 : APure Tryz.prog 23 [strs c.f] (B true)) (k24 : APure Tryz.prog 24 [stA c.s] (B true)) (k25 : APure Tryz.prog 25 [fgA c.f] (B true)) (k26 : APure Tryz.prog 26 [stA c.s, pcA c.p] (B true))
    (k60 : APure Tryz.prog 60 [stA c.s, fgA c.f, pcA c.p] (.tup [B false, I 0])) (k61 : APure Tryz.prog 61 [stA c.s, fgA c.f, I c.p.x, I c.p.y] (.tup [I n, I 0])) (k62 : APure Tryz.prog 62 [stA c.s, fgA c.f, I c.p.x, I c.p.y] (.tup [I m, I 0]))
    (k33 : APure Tryz.prog 33 [stA c.s, fgA c.f, pcA c.p] (.tup [I dark, I grey, I 0])) (hw : 1 ≤ c.s.wide * c.s.high ∧ c.s.wide * c.s.high ≤ 256) (hn : 0 ≤ n ∧ n < c.s.far) (hm : 0 ≤ m ∧ m < c.s.far) (hd : 0 ≤ dark ∧ dark ≤ c.s.wide * c.s.high) (hgr : 0 ≤ grey ∧ grey ≤ c.s.wide * c.s.high) (h1 : n < c.p.near) (h3 : c.p.near < m → 0 < dark) (h4 : c.p.near = m → dark = 0) : APure Tryz.prog 14 [stA c.s, fgA c.f, pcA c.p] (B true) := by
  refine apure_of (rs := [.tmp 6]) Tryz.func14 rfl rfl (Nat.le_of_ble_eq_true rfl) (by simp [AV.pureL, AV.pureB, AV.pureE, pureE_map]) (by first | rfl | (simp [AV.pureL, AV.pureB, AV.pureE, pureE_map])) fun e0 he0 => ?_
  refine aw_seq (aw_region (sq_box rfl J rfl (sq_box rfl J rfl ?_)))
  refine sq_box rfl J rfl (asr J rfl (sq_nil (aw_seq (aw_seq (aw_region (sq_ev rfl (ev_fieldAddr fo26_0 J) ?_))))))
  refine sq_ev rfl (ev_load J rfl ty24 rfl) ?_
  refine sq_ev rfl (ev_call en23 J (k23) ⟨J, trivial⟩) ?_
  refine sq_ev rfl (ev_not J) ?_
  refine mvr J rfl (sq_yes rfl rfl J rfl (ev_load_agg J rfl ty23 rfl) ?_)
  refine sq_yes rfl rfl J rfl (ev_call en24 J (k24) ⟨J, trivial⟩) ?_
  refine sq_yes rfl rfl J rfl (ev_not J) ?_
  refine pf rfl J J (mvr J rfl (sq_yes rfl rfl J rfl (ev_load_agg J rfl ty26 rfl) ?_))
  refine sq_yes rfl rfl J rfl (ev_call en25 J (k25) ⟨J, trivial⟩) ?_
  refine sq_yes rfl rfl J rfl (ev_not J) ?_
  refine pf rfl J J (mvr J rfl (sq_yes rfl rfl J rfl (ev_load_agg J rfl ty23 rfl) ?_))
  refine sq_yes rfl rfl J rfl (ev_load_agg J rfl ty28 rfl) ?_
  refine sq_yes rfl rfl J rfl (ev_call en26 J (k26) ⟨J, J, trivial⟩) ?_
  refine sq_yes rfl rfl J rfl (ev_not J) ?_
  refine pf rfl J J (sq_nil ?_)
  refine aw_cond J (fun c_35 => ?_) (fun c_35 => ?_)
  · skip
    have c_35' := c_35
    try simp only [qq] at c_35'
    first | exact absurd c_35 (by decide) | (exfalso; simp at c_35; done) | (exfalso; simp at c_35; omega) | (exfalso; simp_all; done) | (exfalso; simp_all; omega)
  · skip
    have c_35' := c_35
    try simp only [qq] at c_35'
    refine aw_skip (aw_seq (aw_region (sq_ev rfl (ev_load_agg J rfl ty23 rfl) ?_)))
    refine sq_ev rfl (ev_load_agg J rfl ty26 rfl) ?_
    refine sq_ev rfl (ev_load_agg J rfl ty28 rfl) ?_
    refine sq_ev rfl (ev_call en60 J (k60) ⟨J, J, J, trivial⟩) ?_
    refine sq_ev rfl (ev_mv (v := .tup _) J) ?_
    refine xtr rfl J rfl ?_
    refine xtr rfl J rfl (asr J rfl (asr J rfl (sq_nil (aw_seq (aw_region (sq_ev rfl (ev_load_agg J rfl ty23 rfl) ?_))))))
    refine sq_ev rfl (ev_load_agg J rfl ty26 rfl) ?_
    refine sq_ev rfl (ev_fieldAddr fo28_1 J) ?_
    refine sq_ev rfl (ev_load J rfl ty3 rfl) ?_
    refine sq_ev rfl (ev_fieldAddr fo28_2 J) ?_
    refine sq_ev rfl (ev_load J rfl ty3 rfl) ?_
    refine sq_ev rfl (ev_call en61 J (k61) ⟨J, J, J, J, trivial⟩) ?_
    refine sq_ev rfl (ev_mv (v := .tup _) J) ?_
    refine xtr rfl J rfl ?_
    refine xtr rfl J rfl (asr J rfl (asr J rfl (sq_nil (aw_seq (aw_region (sq_ev rfl (ev_load_agg J rfl ty23 rfl) ?_))))))
    refine sq_ev rfl (ev_load_agg J rfl ty26 rfl) ?_
    refine sq_ev rfl (ev_fieldAddr fo28_1 J) ?_
    refine sq_ev rfl (ev_load J rfl ty3 rfl) ?_
    refine sq_ev rfl (ev_fieldAddr fo28_2 J) ?_
    refine sq_ev rfl (ev_load J rfl ty3 rfl) ?_
    refine sq_ev rfl (ev_call en62 J (k62) ⟨J, J, J, J, trivial⟩) ?_
    refine sq_ev rfl (ev_mv (v := .tup _) J) ?_
    refine xtr rfl J rfl ?_
    refine xtr rfl J rfl (asr J rfl (asr J rfl (sq_nil (aw_seq (aw_region (sq_ev rfl (ev_load_agg J rfl ty23 rfl) ?_))))))
    refine sq_ev rfl (ev_load_agg J rfl ty26 rfl) ?_
    refine sq_ev rfl (ev_load_agg J rfl ty28 rfl) ?_
    refine sq_ev rfl (ev_call en33 J (k33) ⟨J, J, J, trivial⟩) ?_
    refine sq_ev rfl (ev_mv (v := .tup _) J) ?_
    refine xtr rfl J rfl (xtr rfl J rfl (xtr rfl J rfl (asr J rfl (asr J rfl ?_))))
    refine asr J rfl (sq_nil (aw_seq (aw_seq (aw_region (mvr J rfl (sq_ev rfl (ev_neq J J) ?_))))))
    refine mvr J rfl (ymr rfl rfl J rfl J (sq_yes rfl rfl J rfl (ev_neq J J) ?_))
    refine ymr rfl rfl J rfl J (sq_no rfl rfl J rfl rfl (sq_no rfl rfl J rfl rfl (sq_yes rfl rfl J rfl (ev_pickF (v := .raw _) J J) ?_)))
    refine pf rfl J J (mvr J rfl (ymr rfl rfl J rfl J (sq_yes rfl rfl J rfl (ev_neq J J) ?_)))
    refine ymr rfl rfl J rfl J (sq_no rfl rfl J rfl rfl (sq_no rfl rfl J rfl rfl (sq_yes rfl rfl J rfl (ev_pickF (v := .raw _) J J) ?_)))
    refine pf rfl J J (mvr J rfl (ymr rfl rfl J rfl J (sq_yes rfl rfl J rfl (ev_neq J J) ?_)))
    refine pf rfl J J (mvr J rfl (ymr rfl rfl J rfl J (sq_yes rfl rfl J rfl (ev_lss J J) ?_)))
    refine pf rfl J J (mvr J rfl ?_)
    refine sq_split 98 J (fun g7_26 => ?_) (fun g7_26 => ?_)
    · skip
      have g7_26' := g7_26
      try simp only [qq] at g7_26'
      first | exact absurd g7_26 (by decide) | (exfalso; simp at g7_26; done) | (exfalso; simp at g7_26; omega) | (exfalso; simp_all; done) | (exfalso; simp_all; omega)
    · skip
      have g7_26' := g7_26
      try simp only [qq] at g7_26'
      refine sq_yes rfl rfl (less_b g7_26) rfl (ev_mv (v := .raw _) J) ?_
      refine sq_yes rfl rfl (less_b g7_26) rfl (ev_fieldAddr fo23_2 J) ?_
      refine sq_yes rfl rfl (less_b g7_26) rfl (ev_load J rfl ty3 rfl) ?_
      refine sq_yes rfl rfl (less_b g7_26) rfl (ev_geq J J) ?_
      refine sq_ev rfl (ev_pickF (v := .raw _) (less_b g7_26) J) ?_
      refine mvr J rfl ?_
      refine sq_split 104 J (fun g7_32 => ?_) (fun g7_32 => ?_)
      · skip
        have g7_32' := g7_32
        try simp only [qq] at g7_32'
        first | exact absurd g7_32 (by decide) | (exfalso; simp at g7_32; done) | (exfalso; simp at g7_32; omega) | (exfalso; simp_all; done) | (exfalso; simp_all; omega)
      · skip
        have g7_32' := g7_32
        try simp only [qq] at g7_32'
        refine sq_yes rfl rfl (less_b g7_32) rfl (ev_mv (v := .raw _) J) ?_
        refine sq_yes rfl rfl (less_b g7_32) rfl (ev_lss J J) ?_
        refine sq_ev rfl (ev_pickF (v := .raw _) (less_b g7_32) J) ?_
        refine mvr J rfl ?_
        refine sq_split 108 J (fun g7_36 => ?_) (fun g7_36 => ?_)
        · skip
          have g7_36' := g7_36
          try simp only [qq] at g7_36'
          first | exact absurd g7_36 (by decide) | (exfalso; simp at g7_36; done) | (exfalso; simp at g7_36; omega) | (exfalso; simp_all; done) | (exfalso; simp_all; omega)
        · skip
          have g7_36' := g7_36
          try simp only [qq] at g7_36'
          refine sq_yes rfl rfl (less_b g7_36) rfl (ev_mv (v := .raw _) J) ?_
          refine sq_yes rfl rfl (less_b g7_36) rfl (ev_fieldAddr fo23_2 J) ?_
          refine sq_yes rfl rfl (less_b g7_36) rfl (ev_load J rfl ty3 rfl) ?_
          refine sq_yes rfl rfl (less_b g7_36) rfl (ev_geq J J) ?_
          refine sq_ev rfl (ev_pickF (v := .raw _) (less_b g7_36) J) ?_
          refine mvr J rfl ?_
          refine sq_split 114 J (fun g7_42 => ?_) (fun g7_42 => ?_)
          · skip
            have g7_42' := g7_42
            try simp only [qq] at g7_42'
            first | exact absurd g7_42 (by decide) | (exfalso; simp at g7_42; done) | (exfalso; simp at g7_42; omega) | (exfalso; simp_all; done) | (exfalso; simp_all; omega)
          · skip
            have g7_42' := g7_42
            try simp only [qq] at g7_42'
            refine sq_yes rfl rfl (less_b g7_42) rfl (ev_mv (v := .raw _) J) ?_
            refine sq_yes rfl rfl (less_b g7_42) rfl (ev_lss J J) ?_
            refine sq_ev rfl (ev_pickF (v := .raw _) (less_b g7_42) J) ?_
            refine mvr J rfl ?_
            refine sq_split 118 J (fun g7_46 => ?_) (fun g7_46 => ?_)
            · skip
              have g7_46' := g7_46
              try simp only [qq] at g7_46'
              first | exact absurd g7_46 (by decide) | (exfalso; simp at g7_46; done) | (exfalso; simp at g7_46; omega) | (exfalso; simp_all; done) | (exfalso; simp_all; omega)
            · skip
              have g7_46' := g7_46
              try simp only [qq] at g7_46'
              refine sq_yes rfl rfl (less_b g7_46) rfl (ev_mv (v := .raw _) J) ?_
              refine sq_yes rfl rfl (less_b g7_46) rfl (ev_lss J J) ?_
              refine sq_ev rfl (ev_pickF (v := .raw _) (less_b g7_46) J) ?_
              refine mvr J rfl ?_
              refine sq_split 122 J (fun g7_50 => ?_) (fun g7_50 => ?_)
              · skip
                have g7_50' := g7_50
                try simp only [qq] at g7_50'
                first | exact absurd g7_50 (by decide) | (exfalso; simp at g7_50; done) | (exfalso; simp at g7_50; omega) | (exfalso; simp_all; done) | (exfalso; simp_all; omega)
              · skip
                have g7_50' := g7_50
                try simp only [qq] at g7_50'
                refine sq_yes rfl rfl (less_b g7_50) rfl (ev_mv (v := .raw _) J) ?_
                refine sq_yes rfl rfl (less_b g7_50) rfl (ev_fieldAddr fo23_0 J) ?_
                refine sq_yes rfl rfl (less_b g7_50) rfl (ev_load J rfl ty3 rfl) ?_
                refine sq_yes rfl rfl (less_b g7_50) rfl (ev_fieldAddr fo23_1 J) ?_
                refine sq_yes rfl rfl (less_b g7_50) rfl (ev_load J rfl ty3 rfl) ?_
                refine sq_yes rfl rfl (less_b g7_50) rfl (ev_mul J J (wr (by omega) (by omega))) ?_
                refine sq_yes rfl rfl (less_b g7_50) rfl (ev_gtr J J) ?_
                refine sq_ev rfl (ev_pickF (v := .raw _) (less_b g7_50) J) ?_
                refine mvr J rfl ?_
                refine sq_split 131 J (fun g7_59 => ?_) (fun g7_59 => ?_)
                · skip
                  have g7_59' := g7_59
                  try simp only [qq] at g7_59'
                  first | exact absurd g7_59 (by decide) | (exfalso; simp at g7_59; done) | (exfalso; simp at g7_59; omega) | (exfalso; simp_all; done) | (exfalso; simp_all; omega)
                · skip
                  have g7_59' := g7_59
                  try simp only [qq] at g7_59'
                  refine sq_yes rfl rfl (less_b g7_59) rfl (ev_mv (v := .raw _) J) ?_
                  refine sq_yes rfl rfl (less_b g7_59) rfl (ev_fieldAddr fo23_0 J) ?_
                  refine sq_yes rfl rfl (less_b g7_59) rfl (ev_load J rfl ty3 rfl) ?_
                  refine sq_yes rfl rfl (less_b g7_59) rfl (ev_fieldAddr fo23_1 J) ?_
                  refine sq_yes rfl rfl (less_b g7_59) rfl (ev_load J rfl ty3 rfl) ?_
                  refine sq_yes rfl rfl (less_b g7_59) rfl (ev_mul J J (wr (by omega) (by omega))) ?_
                  refine sq_yes rfl rfl (less_b g7_59) rfl (ev_gtr J J) ?_
                  refine sq_ev rfl (ev_pickF (v := .raw _) (less_b g7_59) J) ?_
                  refine sq_nil ?_
                  refine aw_cond J (fun c_139 => ?_) (fun c_139 => ?_)
                  · skip
                    have c_139' := c_139
                    try simp only [qq] at c_139'
                    first | exact absurd c_139 (by decide) | (exfalso; simp at c_139; done) | (exfalso; simp at c_139; omega) | (exfalso; simp_all; done) | (exfalso; simp_all; omega)
                  · skip
                    have c_139' := c_139
                    try simp only [qq] at c_139'
                    refine aw_skip (aw_seq (aw_seq (aw_region (mvr J rfl (mvr J rfl (sq_ev rfl (ev_eql J J) ?_))))))
                    refine mvr J rfl (sq_yes rfl rfl J rfl (ev_fieldAddr fo28_0 J) ?_)
                    refine sq_yes rfl rfl J rfl (ev_load J rfl ty3 rfl) ?_
                    refine ymr rfl rfl J rfl J (sq_yes rfl rfl J rfl (ev_leq J J) ?_)
                    refine sq_ev rfl (ev_pickT (v := .raw _) J J) ?_
                    refine sq_ev rfl (ev_neqB un4 J J) ?_
                    refine mvr J rfl ?_
                    refine sq_split 150 J (fun g9_10 => ?_) (fun g9_10 => ?_)
                    · skip
                      have g9_10' := g9_10
                      try simp only [qq] at g9_10'
                      first | exact absurd g9_10 (by decide) | (exfalso; simp at g9_10; done) | (exfalso; simp at g9_10; omega) | (exfalso; simp_all; done) | (exfalso; simp_all; omega)
                    · skip
                      have g9_10' := g9_10
                      try simp only [qq] at g9_10'
                      refine sq_yes rfl rfl (less_b g9_10) rfl (ev_mv (v := .raw _) J) ?_
                      refine sq_yes rfl rfl (less_b g9_10) rfl (ev_mv (v := .raw _) J) ?_
                      refine sq_no rfl rfl J rfl rfl (sq_no rfl rfl J rfl rfl (sq_no rfl rfl J rfl rfl (sq_no rfl rfl J rfl rfl (sq_yes rfl rfl (less_b g9_10) rfl (ev_pickF (v := .raw _) J J) ?_))))
                      refine sq_ev rfl (ev_pickF (v := .raw _) (less_b g9_10) J) ?_
                      refine mvr J rfl (ymr rfl rfl J rfl J (sq_yes rfl rfl J rfl (ev_neq J J) ?_))
                      refine ymr rfl rfl J rfl J (sq_yes rfl rfl J rfl (ev_fieldAddr fo28_0 J) ?_)
                      refine sq_yes rfl rfl J rfl (ev_load J rfl ty3 rfl) ?_
                      refine ymr rfl rfl J rfl J (sq_yes rfl rfl J rfl (ev_lss J J) ?_)
                      refine sq_yes rfl rfl J rfl (ev_pickF (v := .raw _) J J) ?_
                      refine ymr rfl rfl J rfl J ?_
                      refine sq_split 168 J (fun g9_28 => ?_) (fun g9_28 => ?_)
                      · skip
                        have g9_28' := g9_28
                        try simp only [qq] at g9_28'
                        refine sq_yes rfl rfl (less_b g9_28) rfl (ev_mv (v := .raw _) J) ?_
                        refine sq_yes rfl rfl (less_b g9_28) rfl (ev_eql J J) ?_
                        refine sq_yes rfl rfl J rfl (ev_pickT (v := .raw _) (less_b g9_28) J) ?_
                        refine pf rfl J J (mvr J rfl ?_)
                        refine sq_split 173 J (fun g9_33 => ?_) (fun g9_33 => ?_)
                        · skip
                          have g9_33' := g9_33
                          try simp only [qq] at g9_33'
                          first | exact absurd g9_33 (by decide) | (exfalso; simp at g9_33; done) | (exfalso; simp at g9_33; omega) | (exfalso; simp_all; done) | (exfalso; simp_all; omega)
                        · skip
                          have g9_33' := g9_33
                          try simp only [qq] at g9_33'
                          refine sq_yes rfl rfl (less_b g9_33) rfl (ev_mv (v := .raw _) J) ?_
                          refine sq_yes rfl rfl (less_b g9_33) rfl (ev_eql J J) ?_
                          refine sq_yes rfl rfl (less_b g9_33) rfl (ev_mv (v := .raw _) J) ?_
                          refine sq_yes rfl rfl J rfl (ev_fieldAddr fo28_0 J) ?_
                          refine sq_yes rfl rfl J rfl (ev_load J rfl ty3 rfl) ?_
                          refine ymr rfl rfl J rfl J (sq_yes rfl rfl J rfl (ev_eql J J) ?_)
                          refine sq_yes rfl rfl (less_b g9_33) rfl (ev_pickT (v := .raw _) J J) ?_
                          refine sq_yes rfl rfl (less_b g9_33) rfl (ev_mv (v := .raw _) J) ?_
                          refine sq_split 182 J (fun g9_42 => ?_) (fun g9_42 => ?_)
                          · skip
                            have g9_42' := g9_42
                            try simp only [qq] at g9_42'
                            refine sq_yes rfl rfl (less_b g9_42) rfl (ev_mv (v := .raw _) J) ?_
                            refine sq_yes rfl rfl (less_b g9_42) rfl (ev_gtr J J) ?_
                            refine sq_yes rfl rfl (less_b g9_33) rfl (ev_pickT (v := .raw _) (less_b g9_42) J) ?_
                            refine sq_ev rfl (ev_pickF (v := .raw _) (less_b g9_33) J) ?_
                            refine sq_nil ?_
                            refine aw_cond J (fun c_186 => ?_) (fun c_186 => ?_)
                            · skip
                              have c_186' := c_186
                              try simp only [qq] at c_186'
                              first | exact absurd c_186 (by decide) | (exfalso; simp at c_186; done) | (exfalso; simp at c_186; omega) | (exfalso; simp_all; done) | (exfalso; simp_all; omega)
                            · skip
                              have c_186' := c_186
                              try simp only [qq] at c_186'
                              refine aw_skip (aw_seq (aw_region (sq_ev rfl (ev_call en27 J (known_pure) trivial) ?_)))
                              refine asr J rfl (sq_nil (aw_ret ?_))
                              exact retQ_pure (v := .raw _) rfl rfl J
                          · skip
                            have g9_42' := g9_42
                            try simp only [qq] at g9_42'
                            refine sq_no rfl rfl (less_b g9_42) rfl rfl ?_
                            refine sq_no rfl rfl (less_b g9_42) rfl rfl ?_
                            refine sq_yes rfl rfl (less_b g9_33) rfl (ev_pickF (v := .raw _) (less_b g9_42) J) ?_
                            refine sq_ev rfl (ev_pickF (v := .raw _) (less_b g9_33) J) ?_
                            refine sq_nil ?_
                            refine aw_false J ?_
                            refine aw_skip (aw_seq (aw_region (sq_ev rfl (ev_call en27 J (known_pure) trivial) ?_)))
                            refine asr J rfl (sq_nil (aw_ret ?_))
                            exact retQ_pure (v := .raw _) rfl rfl J
                      · skip
                        have g9_28' := g9_28
                        try simp only [qq] at g9_28'
                        refine sq_no rfl rfl (less_b g9_28) rfl rfl ?_
                        refine sq_no rfl rfl (less_b g9_28) rfl rfl ?_
                        refine sq_yes rfl rfl J rfl (ev_pickF (v := .raw _) (less_b g9_28) J) ?_
                        refine pf rfl J J (mvr J rfl (ymr rfl rfl J rfl J (sq_yes rfl rfl J rfl (ev_eql J J) ?_)))
                        refine ymr rfl rfl J rfl J (sq_yes rfl rfl J rfl (ev_fieldAddr fo28_0 J) ?_)
                        refine sq_yes rfl rfl J rfl (ev_load J rfl ty3 rfl) ?_
                        refine ymr rfl rfl J rfl J (sq_yes rfl rfl J rfl (ev_eql J J) ?_)
                        refine sq_yes rfl rfl J rfl (ev_pickT (v := .raw _) J J) ?_
                        refine ymr rfl rfl J rfl J ?_
                        refine sq_split 182 J (fun g9_42 => ?_) (fun g9_42 => ?_)
                        · skip
                          have g9_42' := g9_42
                          try simp only [qq] at g9_42'
                          refine sq_yes rfl rfl (less_b g9_42) rfl (ev_mv (v := .raw _) J) ?_
                          refine sq_yes rfl rfl (less_b g9_42) rfl (ev_gtr J J) ?_
                          refine sq_yes rfl rfl J rfl (ev_pickT (v := .raw _) (less_b g9_42) J) ?_
                          refine pf rfl J J (sq_nil ?_)
                          refine aw_cond J (fun c_186 => ?_) (fun c_186 => ?_)
                          · skip
                            have c_186' := c_186
                            try simp only [qq] at c_186'
                            first | exact absurd c_186 (by decide) | (exfalso; simp at c_186; done) | (exfalso; simp at c_186; omega) | (exfalso; simp_all; done) | (exfalso; simp_all; omega)
                          · skip
                            have c_186' := c_186
                            try simp only [qq] at c_186'
                            refine aw_skip (aw_seq (aw_region (sq_ev rfl (ev_call en27 J (known_pure) trivial) ?_)))
                            refine asr J rfl (sq_nil (aw_ret ?_))
                            exact retQ_pure (v := .raw _) rfl rfl J
                        · skip
                          have g9_42' := g9_42
                          try simp only [qq] at g9_42'
                          refine sq_no rfl rfl (less_b g9_42) rfl rfl ?_
                          refine sq_no rfl rfl (less_b g9_42) rfl rfl ?_
                          refine sq_yes rfl rfl J rfl (ev_pickF (v := .raw _) (less_b g9_42) J) ?_
                          refine pf rfl J J (sq_nil ?_)
                          refine aw_false J ?_
                          refine aw_skip (aw_seq (aw_region (sq_ev rfl (ev_call en27 J (known_pure) trivial) ?_)))
                          refine asr J rfl (sq_nil (aw_ret ?_))
                          exact retQ_pure (v := .raw _) rfl rfl J
set_option maxRecDepth 20000 in
theorem near_f05 {c : Ca} {n m dark grey : Int} (k23 : APure Tryz.prog 23 [strs c.f] (B true)) (k24 : APure Tryz.prog 24 [stA c.s] (B true)) (k25 : APure Tryz.prog 25 [fgA c.f] (B true)) (k26 : APure Tryz.prog 26 [stA c.s, pcA c.p] (B true))
    (k60 : APure Tryz.prog 60 [stA c.s, fgA c.f, pcA c.p] (.tup [B false, I 0])) (k61 : APure Tryz.prog 61 [stA c.s, fgA c.f, I c.p.x, I c.p.y] (.tup [I n, I 0])) (k62 : APure Tryz.prog 62 [stA c.s, fgA c.f, I c.p.x, I c.p.y] (.tup [I m, I 5]))
    (k33 : APure Tryz.prog 33 [stA c.s, fgA c.f, pcA c.p] (.tup [I dark, I grey, I 0])) (hw : 1 ≤ c.s.wide * c.s.high ∧ c.s.wide * c.s.high ≤ 256) (hn : 0 ≤ n ∧ n < c.s.far) (hm : 0 ≤ m ∧ m < c.s.far) (hd : 0 ≤ dark ∧ dark ≤ c.s.wide * c.s.high) (hgr : 0 ≤ grey ∧ grey ≤ c.s.wide * c.s.high) (h1 : n < c.p.near) (h3 : 0 < dark) : APure Tryz.prog 14 [stA c.s, fgA c.f, pcA c.p] (B true) := by
  refine apure_of (rs := [.tmp 6]) Tryz.func14 rfl rfl (Nat.le_of_ble_eq_true rfl) (by simp [AV.pureL, AV.pureB, AV.pureE, pureE_map]) (by first | rfl | (simp [AV.pureL, AV.pureB, AV.pureE, pureE_map])) fun e0 he0 => ?_
  refine aw_seq (aw_region (sq_box rfl J rfl (sq_box rfl J rfl ?_)))
  refine sq_box rfl J rfl (asr J rfl (sq_nil (aw_seq (aw_seq (aw_region (sq_ev rfl (ev_fieldAddr fo26_0 J) ?_))))))
  refine sq_ev rfl (ev_load J rfl ty24 rfl) ?_
  refine sq_ev rfl (ev_call en23 J (k23) ⟨J, trivial⟩) ?_
  refine sq_ev rfl (ev_not J) ?_
  refine mvr J rfl (sq_yes rfl rfl J rfl (ev_load_agg J rfl ty23 rfl) ?_)
  refine sq_yes rfl rfl J rfl (ev_call en24 J (k24) ⟨J, trivial⟩) ?_
  refine sq_yes rfl rfl J rfl (ev_not J) ?_
  refine pf rfl J J (mvr J rfl (sq_yes rfl rfl J rfl (ev_load_agg J rfl ty26 rfl) ?_))
  refine sq_yes rfl rfl J rfl (ev_call en25 J (k25) ⟨J, trivial⟩) ?_
  refine sq_yes rfl rfl J rfl (ev_not J) ?_
  refine pf rfl J J (mvr J rfl (sq_yes rfl rfl J rfl (ev_load_agg J rfl ty23 rfl) ?_))
  refine sq_yes rfl rfl J rfl (ev_load_agg J rfl ty28 rfl) ?_
  refine sq_yes rfl rfl J rfl (ev_call en26 J (k26) ⟨J, J, trivial⟩) ?_
  refine sq_yes rfl rfl J rfl (ev_not J) ?_
  refine pf rfl J J (sq_nil ?_)
  refine aw_cond J (fun c_35 => ?_) (fun c_35 => ?_)
  · skip
    have c_35' := c_35
    try simp only [qq] at c_35'
    first | exact absurd c_35 (by decide) | (exfalso; simp at c_35; done) | (exfalso; simp at c_35; omega) | (exfalso; simp_all; done) | (exfalso; simp_all; omega)
  · skip
    have c_35' := c_35
    try simp only [qq] at c_35'
    refine aw_skip (aw_seq (aw_region (sq_ev rfl (ev_load_agg J rfl ty23 rfl) ?_)))
    refine sq_ev rfl (ev_load_agg J rfl ty26 rfl) ?_
    refine sq_ev rfl (ev_load_agg J rfl ty28 rfl) ?_
    refine sq_ev rfl (ev_call en60 J (k60) ⟨J, J, J, trivial⟩) ?_
    refine sq_ev rfl (ev_mv (v := .tup _) J) ?_
    refine xtr rfl J rfl ?_
    refine xtr rfl J rfl (asr J rfl (asr J rfl (sq_nil (aw_seq (aw_region (sq_ev rfl (ev_load_agg J rfl ty23 rfl) ?_))))))
    refine sq_ev rfl (ev_load_agg J rfl ty26 rfl) ?_
    refine sq_ev rfl (ev_fieldAddr fo28_1 J) ?_
    refine sq_ev rfl (ev_load J rfl ty3 rfl) ?_
    refine sq_ev rfl (ev_fieldAddr fo28_2 J) ?_
    refine sq_ev rfl (ev_load J rfl ty3 rfl) ?_
    refine sq_ev rfl (ev_call en61 J (k61) ⟨J, J, J, J, trivial⟩) ?_
    refine sq_ev rfl (ev_mv (v := .tup _) J) ?_
    refine xtr rfl J rfl ?_
    refine xtr rfl J rfl (asr J rfl (asr J rfl (sq_nil (aw_seq (aw_region (sq_ev rfl (ev_load_agg J rfl ty23 rfl) ?_))))))
    refine sq_ev rfl (ev_load_agg J rfl ty26 rfl) ?_
    refine sq_ev rfl (ev_fieldAddr fo28_1 J) ?_
    refine sq_ev rfl (ev_load J rfl ty3 rfl) ?_
    refine sq_ev rfl (ev_fieldAddr fo28_2 J) ?_
    refine sq_ev rfl (ev_load J rfl ty3 rfl) ?_
    refine sq_ev rfl (ev_call en62 J (k62) ⟨J, J, J, J, trivial⟩) ?_
    refine sq_ev rfl (ev_mv (v := .tup _) J) ?_
    refine xtr rfl J rfl ?_
    refine xtr rfl J rfl (asr J rfl (asr J rfl (sq_nil (aw_seq (aw_region (sq_ev rfl (ev_load_agg J rfl ty23 rfl) ?_))))))
    refine sq_ev rfl (ev_load_agg J rfl ty26 rfl) ?_
    refine sq_ev rfl (ev_load_agg J rfl ty28 rfl) ?_
    refine sq_ev rfl (ev_call en33 J (k33) ⟨J, J, J, trivial⟩) ?_
    refine sq_ev rfl (ev_mv (v := .tup _) J) ?_
    refine xtr rfl J rfl (xtr rfl J rfl (xtr rfl J rfl (asr J rfl (asr J rfl ?_))))
    refine asr J rfl (sq_nil (aw_seq (aw_seq (aw_region (mvr J rfl (sq_ev rfl (ev_neq J J) ?_))))))
    refine mvr J rfl (ymr rfl rfl J rfl J (sq_yes rfl rfl J rfl (ev_neq J J) ?_))
    refine ymr rfl rfl J rfl J (sq_no rfl rfl J rfl rfl (sq_no rfl rfl J rfl rfl (sq_yes rfl rfl J rfl (ev_pickF (v := .raw _) J J) ?_)))
    refine pf rfl J J (mvr J rfl (ymr rfl rfl J rfl J (sq_yes rfl rfl J rfl (ev_neq J J) ?_)))
    refine ymr rfl rfl J rfl J (ymr rfl rfl J rfl J (sq_yes rfl rfl J rfl (ev_neq J J) ?_))
    refine sq_yes rfl rfl J rfl (ev_pickT (v := .raw _) J J) ?_
    refine pf rfl J J (mvr J rfl (ymr rfl rfl J rfl J (sq_yes rfl rfl J rfl (ev_neq J J) ?_)))
    refine pf rfl J J (mvr J rfl (ymr rfl rfl J rfl J (sq_yes rfl rfl J rfl (ev_lss J J) ?_)))
    refine pf rfl J J (mvr J rfl ?_)
    refine sq_split 98 J (fun g7_26 => ?_) (fun g7_26 => ?_)
    · skip
      have g7_26' := g7_26
      try simp only [qq] at g7_26'
      first | exact absurd g7_26 (by decide) | (exfalso; simp at g7_26; done) | (exfalso; simp at g7_26; omega) | (exfalso; simp_all; done) | (exfalso; simp_all; omega)
    · skip
      have g7_26' := g7_26
      try simp only [qq] at g7_26'
      refine sq_yes rfl rfl (less_b g7_26) rfl (ev_mv (v := .raw _) J) ?_
      refine sq_yes rfl rfl (less_b g7_26) rfl (ev_fieldAddr fo23_2 J) ?_
      refine sq_yes rfl rfl (less_b g7_26) rfl (ev_load J rfl ty3 rfl) ?_
      refine sq_yes rfl rfl (less_b g7_26) rfl (ev_geq J J) ?_
      refine sq_ev rfl (ev_pickF (v := .raw _) (less_b g7_26) J) ?_
      refine mvr J rfl ?_
      refine sq_split 104 J (fun g7_32 => ?_) (fun g7_32 => ?_)
      · skip
        have g7_32' := g7_32
        try simp only [qq] at g7_32'
        first | exact absurd g7_32 (by decide) | (exfalso; simp at g7_32; done) | (exfalso; simp at g7_32; omega) | (exfalso; simp_all; done) | (exfalso; simp_all; omega)
      · skip
        have g7_32' := g7_32
        try simp only [qq] at g7_32'
        refine sq_yes rfl rfl (less_b g7_32) rfl (ev_mv (v := .raw _) J) ?_
        refine sq_yes rfl rfl (less_b g7_32) rfl (ev_lss J J) ?_
        refine sq_ev rfl (ev_pickF (v := .raw _) (less_b g7_32) J) ?_
        refine mvr J rfl ?_
        refine sq_split 108 J (fun g7_36 => ?_) (fun g7_36 => ?_)
        · skip
          have g7_36' := g7_36
          try simp only [qq] at g7_36'
          first | exact absurd g7_36 (by decide) | (exfalso; simp at g7_36; done) | (exfalso; simp at g7_36; omega) | (exfalso; simp_all; done) | (exfalso; simp_all; omega)
        · skip
          have g7_36' := g7_36
          try simp only [qq] at g7_36'
          refine sq_yes rfl rfl (less_b g7_36) rfl (ev_mv (v := .raw _) J) ?_
          refine sq_yes rfl rfl (less_b g7_36) rfl (ev_fieldAddr fo23_2 J) ?_
          refine sq_yes rfl rfl (less_b g7_36) rfl (ev_load J rfl ty3 rfl) ?_
          refine sq_yes rfl rfl (less_b g7_36) rfl (ev_geq J J) ?_
          refine sq_ev rfl (ev_pickF (v := .raw _) (less_b g7_36) J) ?_
          refine mvr J rfl ?_
          refine sq_split 114 J (fun g7_42 => ?_) (fun g7_42 => ?_)
          · skip
            have g7_42' := g7_42
            try simp only [qq] at g7_42'
            first | exact absurd g7_42 (by decide) | (exfalso; simp at g7_42; done) | (exfalso; simp at g7_42; omega) | (exfalso; simp_all; done) | (exfalso; simp_all; omega)
          · skip
            have g7_42' := g7_42
            try simp only [qq] at g7_42'
            refine sq_yes rfl rfl (less_b g7_42) rfl (ev_mv (v := .raw _) J) ?_
            refine sq_yes rfl rfl (less_b g7_42) rfl (ev_lss J J) ?_
            refine sq_ev rfl (ev_pickF (v := .raw _) (less_b g7_42) J) ?_
            refine mvr J rfl ?_
            refine sq_split 118 J (fun g7_46 => ?_) (fun g7_46 => ?_)
            · skip
              have g7_46' := g7_46
              try simp only [qq] at g7_46'
              first | exact absurd g7_46 (by decide) | (exfalso; simp at g7_46; done) | (exfalso; simp at g7_46; omega) | (exfalso; simp_all; done) | (exfalso; simp_all; omega)
            · skip
              have g7_46' := g7_46
              try simp only [qq] at g7_46'
              refine sq_yes rfl rfl (less_b g7_46) rfl (ev_mv (v := .raw _) J) ?_
              refine sq_yes rfl rfl (less_b g7_46) rfl (ev_lss J J) ?_
              refine sq_ev rfl (ev_pickF (v := .raw _) (less_b g7_46) J) ?_
              refine mvr J rfl ?_
              refine sq_split 122 J (fun g7_50 => ?_) (fun g7_50 => ?_)
              · skip
                have g7_50' := g7_50
                try simp only [qq] at g7_50'
                first | exact absurd g7_50 (by decide) | (exfalso; simp at g7_50; done) | (exfalso; simp at g7_50; omega) | (exfalso; simp_all; done) | (exfalso; simp_all; omega)
              · skip
                have g7_50' := g7_50
                try simp only [qq] at g7_50'
                refine sq_yes rfl rfl (less_b g7_50) rfl (ev_mv (v := .raw _) J) ?_
                refine sq_yes rfl rfl (less_b g7_50) rfl (ev_fieldAddr fo23_0 J) ?_
                refine sq_yes rfl rfl (less_b g7_50) rfl (ev_load J rfl ty3 rfl) ?_
                refine sq_yes rfl rfl (less_b g7_50) rfl (ev_fieldAddr fo23_1 J) ?_
                refine sq_yes rfl rfl (less_b g7_50) rfl (ev_load J rfl ty3 rfl) ?_
                refine sq_yes rfl rfl (less_b g7_50) rfl (ev_mul J J (wr (by omega) (by omega))) ?_
                refine sq_yes rfl rfl (less_b g7_50) rfl (ev_gtr J J) ?_
                refine sq_ev rfl (ev_pickF (v := .raw _) (less_b g7_50) J) ?_
                refine mvr J rfl ?_
                refine sq_split 131 J (fun g7_59 => ?_) (fun g7_59 => ?_)
                · skip
                  have g7_59' := g7_59
                  try simp only [qq] at g7_59'
                  first | exact absurd g7_59 (by decide) | (exfalso; simp at g7_59; done) | (exfalso; simp at g7_59; omega) | (exfalso; simp_all; done) | (exfalso; simp_all; omega)
                · skip
                  have g7_59' := g7_59
                  try simp only [qq] at g7_59'
                  refine sq_yes rfl rfl (less_b g7_59) rfl (ev_mv (v := .raw _) J) ?_
                  refine sq_yes rfl rfl (less_b g7_59) rfl (ev_fieldAddr fo23_0 J) ?_
                  refine sq_yes rfl rfl (less_b g7_59) rfl (ev_load J rfl ty3 rfl) ?_
                  refine sq_yes rfl rfl (less_b g7_59) rfl (ev_fieldAddr fo23_1 J) ?_
                  refine sq_yes rfl rfl (less_b g7_59) rfl (ev_load J rfl ty3 rfl) ?_
                  refine sq_yes rfl rfl (less_b g7_59) rfl (ev_mul J J (wr (by omega) (by omega))) ?_
                  refine sq_yes rfl rfl (less_b g7_59) rfl (ev_gtr J J) ?_
                  refine sq_ev rfl (ev_pickF (v := .raw _) (less_b g7_59) J) ?_
                  refine sq_nil ?_
                  refine aw_cond J (fun c_139 => ?_) (fun c_139 => ?_)
                  · skip
                    have c_139' := c_139
                    try simp only [qq] at c_139'
                    first | exact absurd c_139 (by decide) | (exfalso; simp at c_139; done) | (exfalso; simp at c_139; omega) | (exfalso; simp_all; done) | (exfalso; simp_all; omega)
                  · skip
                    have c_139' := c_139
                    try simp only [qq] at c_139'
                    refine aw_skip (aw_seq (aw_seq (aw_region (mvr J rfl (mvr J rfl (sq_ev rfl (ev_eql J J) ?_))))))
                    refine mvr J rfl (sq_yes rfl rfl J rfl (ev_fieldAddr fo28_0 J) ?_)
                    refine sq_yes rfl rfl J rfl (ev_load J rfl ty3 rfl) ?_
                    refine ymr rfl rfl J rfl J (sq_yes rfl rfl J rfl (ev_leq J J) ?_)
                    refine sq_ev rfl (ev_pickT (v := .raw _) J J) ?_
                    refine sq_ev rfl (ev_neqB un4 J J) ?_
                    refine mvr J rfl ?_
                    refine sq_split 150 J (fun g9_10 => ?_) (fun g9_10 => ?_)
                    · skip
                      have g9_10' := g9_10
                      try simp only [qq] at g9_10'
                      first | exact absurd g9_10 (by decide) | (exfalso; simp at g9_10; done) | (exfalso; simp at g9_10; omega) | (exfalso; simp_all; done) | (exfalso; simp_all; omega)
                    · skip
                      have g9_10' := g9_10
                      try simp only [qq] at g9_10'
                      refine sq_yes rfl rfl (less_b g9_10) rfl (ev_mv (v := .raw _) J) ?_
                      refine sq_yes rfl rfl (less_b g9_10) rfl (ev_mv (v := .raw _) J) ?_
                      refine sq_no rfl rfl J rfl rfl (sq_no rfl rfl J rfl rfl (sq_no rfl rfl J rfl rfl (sq_no rfl rfl J rfl rfl (sq_yes rfl rfl (less_b g9_10) rfl (ev_pickF (v := .raw _) J J) ?_))))
                      refine sq_ev rfl (ev_pickF (v := .raw _) (less_b g9_10) J) ?_
                      refine mvr J rfl (ymr rfl rfl J rfl J (sq_yes rfl rfl J rfl (ev_neq J J) ?_))
                      refine ymr rfl rfl J rfl J (sq_no rfl rfl J rfl rfl (sq_no rfl rfl J rfl rfl (sq_no rfl rfl J rfl rfl (sq_no rfl rfl J rfl rfl (sq_yes rfl rfl J rfl (ev_pickT (v := .raw _) J J) ?_)))))
                      refine ymr rfl rfl J rfl J (ymr rfl rfl J rfl J (sq_yes rfl rfl J rfl (ev_eql J J) ?_))
                      refine sq_yes rfl rfl J rfl (ev_pickT (v := .raw _) J J) ?_
                      refine pf rfl J J (mvr J rfl ?_)
                      refine sq_split 173 J (fun g9_33 => ?_) (fun g9_33 => ?_)
                      · skip
                        have g9_33' := g9_33
                        try simp only [qq] at g9_33'
                        first | exact absurd g9_33 (by decide) | (exfalso; simp at g9_33; done) | (exfalso; simp at g9_33; omega) | (exfalso; simp_all; done) | (exfalso; simp_all; omega)
                      · skip
                        have g9_33' := g9_33
                        try simp only [qq] at g9_33'
                        refine sq_yes rfl rfl (less_b g9_33) rfl (ev_mv (v := .raw _) J) ?_
                        refine sq_yes rfl rfl (less_b g9_33) rfl (ev_eql J J) ?_
                        refine sq_yes rfl rfl (less_b g9_33) rfl (ev_mv (v := .raw _) J) ?_
                        refine sq_no rfl rfl J rfl rfl (sq_no rfl rfl J rfl rfl (sq_no rfl rfl J rfl rfl (sq_no rfl rfl J rfl rfl (sq_yes rfl rfl (less_b g9_33) rfl (ev_pickF (v := .raw _) J J) ?_))))
                        refine sq_yes rfl rfl (less_b g9_33) rfl (ev_mv (v := .raw _) J) ?_
                        refine sq_no rfl rfl J rfl rfl (sq_no rfl rfl J rfl rfl (sq_yes rfl rfl (less_b g9_33) rfl (ev_pickF (v := .raw _) J J) ?_))
                        refine sq_ev rfl (ev_pickF (v := .raw _) (less_b g9_33) J) ?_
                        refine sq_nil ?_
                        refine aw_false J ?_
                        refine aw_skip (aw_seq (aw_region (sq_ev rfl (ev_call en27 J (known_pure) trivial) ?_)))
                        refine asr J rfl (sq_nil (aw_ret ?_))
                        exact retQ_pure (v := .raw _) rfl rfl J
set_option maxRecDepth 20000 in
theorem near_f50 {c : Ca} {n m dark grey : Int} (k23 : APure Tryz.prog 23 [strs c.f] (B true)) (k24 : APure Tryz.prog 24 [stA c.s] (B true)) (k25 : APure Tryz.prog 25 [fgA c.f] (B true)) (k26 : APure Tryz.prog 26 [stA c.s, pcA c.p] (B true))
    (k60 : APure Tryz.prog 60 [stA c.s, fgA c.f, pcA c.p] (.tup [B false, I 0])) (k61 : APure Tryz.prog 61 [stA c.s, fgA c.f, I c.p.x, I c.p.y] (.tup [I n, I 5])) (k62 : APure Tryz.prog 62 [stA c.s, fgA c.f, I c.p.x, I c.p.y] (.tup [I m, I 0]))
    (k33 : APure Tryz.prog 33 [stA c.s, fgA c.f, pcA c.p] (.tup [I dark, I grey, I 0])) (hw : 1 ≤ c.s.wide * c.s.high ∧ c.s.wide * c.s.high ≤ 256) (hn : 0 ≤ n ∧ n < c.s.far) (hm : 0 ≤ m ∧ m < c.s.far) (hd : 0 ≤ dark ∧ dark ≤ c.s.wide * c.s.high) (hgr : 0 ≤ grey ∧ grey ≤ c.s.wide * c.s.high) (h3 : c.p.near < m → 0 < dark) (h4 : c.p.near = m → dark = 0) : APure Tryz.prog 14 [stA c.s, fgA c.f, pcA c.p] (B true) := by
  refine apure_of (rs := [.tmp 6]) Tryz.func14 rfl rfl (Nat.le_of_ble_eq_true rfl) (by simp [AV.pureL, AV.pureB, AV.pureE, pureE_map]) (by first | rfl | (simp [AV.pureL, AV.pureB, AV.pureE, pureE_map])) fun e0 he0 => ?_
  refine aw_seq (aw_region (sq_box rfl J rfl (sq_box rfl J rfl ?_)))
  refine sq_box rfl J rfl (asr J rfl (sq_nil (aw_seq (aw_seq (aw_region (sq_ev rfl (ev_fieldAddr fo26_0 J) ?_))))))
  refine sq_ev rfl (ev_load J rfl ty24 rfl) ?_
  refine sq_ev rfl (ev_call en23 J (k23) ⟨J, trivial⟩) ?_
  refine sq_ev rfl (ev_not J) ?_
  refine mvr J rfl (sq_yes rfl rfl J rfl (ev_load_agg J rfl ty23 rfl) ?_)
  refine sq_yes rfl rfl J rfl (ev_call en24 J (k24) ⟨J, trivial⟩) ?_
  refine sq_yes rfl rfl J rfl (ev_not J) ?_
  refine pf rfl J J (mvr J rfl (sq_yes rfl rfl J rfl (ev_load_agg J rfl ty26 rfl) ?_))
  refine sq_yes rfl rfl J rfl (ev_call en25 J (k25) ⟨J, trivial⟩) ?_
  refine sq_yes rfl rfl J rfl (ev_not J) ?_
  refine pf rfl J J (mvr J rfl (sq_yes rfl rfl J rfl (ev_load_agg J rfl ty23 rfl) ?_))
  refine sq_yes rfl rfl J rfl (ev_load_agg J rfl ty28 rfl) ?_
  refine sq_yes rfl rfl J rfl (ev_call en26 J (k26) ⟨J, J, trivial⟩) ?_
  refine sq_yes rfl rfl J rfl (ev_not J) ?_
  refine pf rfl J J (sq_nil ?_)
  refine aw_cond J (fun c_35 => ?_) (fun c_35 => ?_)
  · skip
    have c_35' := c_35
    try simp only [qq] at c_35'
    first | exact absurd c_35 (by decide) | (exfalso; simp at c_35; done) | (exfalso; simp at c_35; omega) | (exfalso; simp_all; done) | (exfalso; simp_all; omega)
  · skip
    have c_35' := c_35
    try simp only [qq] at c_35'
    refine aw_skip (aw_seq (aw_region (sq_ev rfl (ev_load_agg J rfl ty23 rfl) ?_)))
    refine sq_ev rfl (ev_load_agg J rfl ty26 rfl) ?_
    refine sq_ev rfl (ev_load_agg J rfl ty28 rfl) ?_
    refine sq_ev rfl (ev_call en60 J (k60) ⟨J, J, J, trivial⟩) ?_
    refine sq_ev rfl (ev_mv (v := .tup _) J) ?_
    refine xtr rfl J rfl ?_
    refine xtr rfl J rfl (asr J rfl (asr J rfl (sq_nil (aw_seq (aw_region (sq_ev rfl (ev_load_agg J rfl ty23 rfl) ?_))))))
    refine sq_ev rfl (ev_load_agg J rfl ty26 rfl) ?_
    refine sq_ev rfl (ev_fieldAddr fo28_1 J) ?_
    refine sq_ev rfl (ev_load J rfl ty3 rfl) ?_
    refine sq_ev rfl (ev_fieldAddr fo28_2 J) ?_
    refine sq_ev rfl (ev_load J rfl ty3 rfl) ?_
    refine sq_ev rfl (ev_call en61 J (k61) ⟨J, J, J, J, trivial⟩) ?_
    refine sq_ev rfl (ev_mv (v := .tup _) J) ?_
    refine xtr rfl J rfl ?_
    refine xtr rfl J rfl (asr J rfl (asr J rfl (sq_nil (aw_seq (aw_region (sq_ev rfl (ev_load_agg J rfl ty23 rfl) ?_))))))
    refine sq_ev rfl (ev_load_agg J rfl ty26 rfl) ?_
    refine sq_ev rfl (ev_fieldAddr fo28_1 J) ?_
    refine sq_ev rfl (ev_load J rfl ty3 rfl) ?_
    refine sq_ev rfl (ev_fieldAddr fo28_2 J) ?_
    refine sq_ev rfl (ev_load J rfl ty3 rfl) ?_
    refine sq_ev rfl (ev_call en62 J (k62) ⟨J, J, J, J, trivial⟩) ?_
    refine sq_ev rfl (ev_mv (v := .tup _) J) ?_
    refine xtr rfl J rfl ?_
    refine xtr rfl J rfl (asr J rfl (asr J rfl (sq_nil (aw_seq (aw_region (sq_ev rfl (ev_load_agg J rfl ty23 rfl) ?_))))))
    refine sq_ev rfl (ev_load_agg J rfl ty26 rfl) ?_
    refine sq_ev rfl (ev_load_agg J rfl ty28 rfl) ?_
    refine sq_ev rfl (ev_call en33 J (k33) ⟨J, J, J, trivial⟩) ?_
    refine sq_ev rfl (ev_mv (v := .tup _) J) ?_
    refine xtr rfl J rfl (xtr rfl J rfl (xtr rfl J rfl (asr J rfl (asr J rfl ?_))))
    refine asr J rfl (sq_nil (aw_seq (aw_seq (aw_region (mvr J rfl (sq_ev rfl (ev_neq J J) ?_))))))
    refine mvr J rfl (ymr rfl rfl J rfl J (sq_yes rfl rfl J rfl (ev_neq J J) ?_))
    refine ymr rfl rfl J rfl J (ymr rfl rfl J rfl J (sq_yes rfl rfl J rfl (ev_neq J J) ?_))
    refine sq_yes rfl rfl J rfl (ev_pickT (v := .raw _) J J) ?_
    refine pf rfl J J (mvr J rfl (ymr rfl rfl J rfl J (sq_yes rfl rfl J rfl (ev_neq J J) ?_)))
    refine ymr rfl rfl J rfl J (sq_no rfl rfl J rfl rfl (sq_no rfl rfl J rfl rfl (sq_yes rfl rfl J rfl (ev_pickF (v := .raw _) J J) ?_)))
    refine pf rfl J J (mvr J rfl (ymr rfl rfl J rfl J (sq_yes rfl rfl J rfl (ev_neq J J) ?_)))
    refine pf rfl J J (mvr J rfl (ymr rfl rfl J rfl J (sq_yes rfl rfl J rfl (ev_lss J J) ?_)))
    refine pf rfl J J (mvr J rfl ?_)
    refine sq_split 98 J (fun g7_26 => ?_) (fun g7_26 => ?_)
    · skip
      have g7_26' := g7_26
      try simp only [qq] at g7_26'
      first | exact absurd g7_26 (by decide) | (exfalso; simp at g7_26; done) | (exfalso; simp at g7_26; omega) | (exfalso; simp_all; done) | (exfalso; simp_all; omega)
    · skip
      have g7_26' := g7_26
      try simp only [qq] at g7_26'
      refine sq_yes rfl rfl (less_b g7_26) rfl (ev_mv (v := .raw _) J) ?_
      refine sq_yes rfl rfl (less_b g7_26) rfl (ev_fieldAddr fo23_2 J) ?_
      refine sq_yes rfl rfl (less_b g7_26) rfl (ev_load J rfl ty3 rfl) ?_
      refine sq_yes rfl rfl (less_b g7_26) rfl (ev_geq J J) ?_
      refine sq_ev rfl (ev_pickF (v := .raw _) (less_b g7_26) J) ?_
      refine mvr J rfl ?_
      refine sq_split 104 J (fun g7_32 => ?_) (fun g7_32 => ?_)
      · skip
        have g7_32' := g7_32
        try simp only [qq] at g7_32'
        first | exact absurd g7_32 (by decide) | (exfalso; simp at g7_32; done) | (exfalso; simp at g7_32; omega) | (exfalso; simp_all; done) | (exfalso; simp_all; omega)
      · skip
        have g7_32' := g7_32
        try simp only [qq] at g7_32'
        refine sq_yes rfl rfl (less_b g7_32) rfl (ev_mv (v := .raw _) J) ?_
        refine sq_yes rfl rfl (less_b g7_32) rfl (ev_lss J J) ?_
        refine sq_ev rfl (ev_pickF (v := .raw _) (less_b g7_32) J) ?_
        refine mvr J rfl ?_
        refine sq_split 108 J (fun g7_36 => ?_) (fun g7_36 => ?_)
        · skip
          have g7_36' := g7_36
          try simp only [qq] at g7_36'
          first | exact absurd g7_36 (by decide) | (exfalso; simp at g7_36; done) | (exfalso; simp at g7_36; omega) | (exfalso; simp_all; done) | (exfalso; simp_all; omega)
        · skip
          have g7_36' := g7_36
          try simp only [qq] at g7_36'
          refine sq_yes rfl rfl (less_b g7_36) rfl (ev_mv (v := .raw _) J) ?_
          refine sq_yes rfl rfl (less_b g7_36) rfl (ev_fieldAddr fo23_2 J) ?_
          refine sq_yes rfl rfl (less_b g7_36) rfl (ev_load J rfl ty3 rfl) ?_
          refine sq_yes rfl rfl (less_b g7_36) rfl (ev_geq J J) ?_
          refine sq_ev rfl (ev_pickF (v := .raw _) (less_b g7_36) J) ?_
          refine mvr J rfl ?_
          refine sq_split 114 J (fun g7_42 => ?_) (fun g7_42 => ?_)
          · skip
            have g7_42' := g7_42
            try simp only [qq] at g7_42'
            first | exact absurd g7_42 (by decide) | (exfalso; simp at g7_42; done) | (exfalso; simp at g7_42; omega) | (exfalso; simp_all; done) | (exfalso; simp_all; omega)
          · skip
            have g7_42' := g7_42
            try simp only [qq] at g7_42'
            refine sq_yes rfl rfl (less_b g7_42) rfl (ev_mv (v := .raw _) J) ?_
            refine sq_yes rfl rfl (less_b g7_42) rfl (ev_lss J J) ?_
            refine sq_ev rfl (ev_pickF (v := .raw _) (less_b g7_42) J) ?_
            refine mvr J rfl ?_
            refine sq_split 118 J (fun g7_46 => ?_) (fun g7_46 => ?_)
            · skip
              have g7_46' := g7_46
              try simp only [qq] at g7_46'
              first | exact absurd g7_46 (by decide) | (exfalso; simp at g7_46; done) | (exfalso; simp at g7_46; omega) | (exfalso; simp_all; done) | (exfalso; simp_all; omega)
            · skip
              have g7_46' := g7_46
              try simp only [qq] at g7_46'
              refine sq_yes rfl rfl (less_b g7_46) rfl (ev_mv (v := .raw _) J) ?_
              refine sq_yes rfl rfl (less_b g7_46) rfl (ev_lss J J) ?_
              refine sq_ev rfl (ev_pickF (v := .raw _) (less_b g7_46) J) ?_
              refine mvr J rfl ?_
              refine sq_split 122 J (fun g7_50 => ?_) (fun g7_50 => ?_)
              · skip
                have g7_50' := g7_50
                try simp only [qq] at g7_50'
                first | exact absurd g7_50 (by decide) | (exfalso; simp at g7_50; done) | (exfalso; simp at g7_50; omega) | (exfalso; simp_all; done) | (exfalso; simp_all; omega)
              · skip
                have g7_50' := g7_50
                try simp only [qq] at g7_50'
                refine sq_yes rfl rfl (less_b g7_50) rfl (ev_mv (v := .raw _) J) ?_
                refine sq_yes rfl rfl (less_b g7_50) rfl (ev_fieldAddr fo23_0 J) ?_
                refine sq_yes rfl rfl (less_b g7_50) rfl (ev_load J rfl ty3 rfl) ?_
                refine sq_yes rfl rfl (less_b g7_50) rfl (ev_fieldAddr fo23_1 J) ?_
                refine sq_yes rfl rfl (less_b g7_50) rfl (ev_load J rfl ty3 rfl) ?_
                refine sq_yes rfl rfl (less_b g7_50) rfl (ev_mul J J (wr (by omega) (by omega))) ?_
                refine sq_yes rfl rfl (less_b g7_50) rfl (ev_gtr J J) ?_
                refine sq_ev rfl (ev_pickF (v := .raw _) (less_b g7_50) J) ?_
                refine mvr J rfl ?_
                refine sq_split 131 J (fun g7_59 => ?_) (fun g7_59 => ?_)
                · skip
                  have g7_59' := g7_59
                  try simp only [qq] at g7_59'
                  first | exact absurd g7_59 (by decide) | (exfalso; simp at g7_59; done) | (exfalso; simp at g7_59; omega) | (exfalso; simp_all; done) | (exfalso; simp_all; omega)
                · skip
                  have g7_59' := g7_59
                  try simp only [qq] at g7_59'
                  refine sq_yes rfl rfl (less_b g7_59) rfl (ev_mv (v := .raw _) J) ?_
                  refine sq_yes rfl rfl (less_b g7_59) rfl (ev_fieldAddr fo23_0 J) ?_
                  refine sq_yes rfl rfl (less_b g7_59) rfl (ev_load J rfl ty3 rfl) ?_
                  refine sq_yes rfl rfl (less_b g7_59) rfl (ev_fieldAddr fo23_1 J) ?_
                  refine sq_yes rfl rfl (less_b g7_59) rfl (ev_load J rfl ty3 rfl) ?_
                  refine sq_yes rfl rfl (less_b g7_59) rfl (ev_mul J J (wr (by omega) (by omega))) ?_
                  refine sq_yes rfl rfl (less_b g7_59) rfl (ev_gtr J J) ?_
                  refine sq_ev rfl (ev_pickF (v := .raw _) (less_b g7_59) J) ?_
                  refine sq_nil ?_
                  refine aw_cond J (fun c_139 => ?_) (fun c_139 => ?_)
                  · skip
                    have c_139' := c_139
                    try simp only [qq] at c_139'
                    first | exact absurd c_139 (by decide) | (exfalso; simp at c_139; done) | (exfalso; simp at c_139; omega) | (exfalso; simp_all; done) | (exfalso; simp_all; omega)
                  · skip
                    have c_139' := c_139
                    try simp only [qq] at c_139'
                    refine aw_skip (aw_seq (aw_seq (aw_region (mvr J rfl (mvr J rfl (sq_ev rfl (ev_eql J J) ?_))))))
                    refine mvr J rfl (sq_no rfl rfl J rfl rfl (sq_no rfl rfl J rfl rfl (sq_no rfl rfl J rfl rfl (sq_no rfl rfl J rfl rfl (pf rfl J J (sq_ev rfl (ev_neqB un4 J J) ?_))))))
                    refine mvr J rfl ?_
                    refine ymr rfl rfl J rfl J (ymr rfl rfl J rfl J (sq_no rfl rfl J rfl rfl (sq_no rfl rfl J rfl rfl (sq_no rfl rfl J rfl rfl (sq_no rfl rfl J rfl rfl (sq_yes rfl rfl J rfl (ev_pickF (v := .raw _) J J) ?_))))))
                    refine pf rfl J J (mvr J rfl (ymr rfl rfl J rfl J (sq_yes rfl rfl J rfl (ev_neq J J) ?_)))
                    refine ymr rfl rfl J rfl J (sq_yes rfl rfl J rfl (ev_fieldAddr fo28_0 J) ?_)
                    refine sq_yes rfl rfl J rfl (ev_load J rfl ty3 rfl) ?_
                    refine ymr rfl rfl J rfl J (sq_yes rfl rfl J rfl (ev_lss J J) ?_)
                    refine sq_yes rfl rfl J rfl (ev_pickF (v := .raw _) J J) ?_
                    refine ymr rfl rfl J rfl J ?_
                    refine sq_split 168 J (fun g9_28 => ?_) (fun g9_28 => ?_)
                    · skip
                      have g9_28' := g9_28
                      try simp only [qq] at g9_28'
                      refine sq_yes rfl rfl (less_b g9_28) rfl (ev_mv (v := .raw _) J) ?_
                      refine sq_yes rfl rfl (less_b g9_28) rfl (ev_eql J J) ?_
                      refine sq_yes rfl rfl J rfl (ev_pickT (v := .raw _) (less_b g9_28) J) ?_
                      refine pf rfl J J (mvr J rfl ?_)
                      refine sq_split 173 J (fun g9_33 => ?_) (fun g9_33 => ?_)
                      · skip
                        have g9_33' := g9_33
                        try simp only [qq] at g9_33'
                        first | exact absurd g9_33 (by decide) | (exfalso; simp at g9_33; done) | (exfalso; simp at g9_33; omega) | (exfalso; simp_all; done) | (exfalso; simp_all; omega)
                      · skip
                        have g9_33' := g9_33
                        try simp only [qq] at g9_33'
                        refine sq_yes rfl rfl (less_b g9_33) rfl (ev_mv (v := .raw _) J) ?_
                        refine sq_yes rfl rfl (less_b g9_33) rfl (ev_eql J J) ?_
                        refine sq_yes rfl rfl (less_b g9_33) rfl (ev_mv (v := .raw _) J) ?_
                        refine sq_yes rfl rfl J rfl (ev_fieldAddr fo28_0 J) ?_
                        refine sq_yes rfl rfl J rfl (ev_load J rfl ty3 rfl) ?_
                        refine ymr rfl rfl J rfl J (sq_yes rfl rfl J rfl (ev_eql J J) ?_)
                        refine sq_yes rfl rfl (less_b g9_33) rfl (ev_pickT (v := .raw _) J J) ?_
                        refine sq_yes rfl rfl (less_b g9_33) rfl (ev_mv (v := .raw _) J) ?_
                        refine sq_split 182 J (fun g9_42 => ?_) (fun g9_42 => ?_)
                        · skip
                          have g9_42' := g9_42
                          try simp only [qq] at g9_42'
                          refine sq_yes rfl rfl (less_b g9_42) rfl (ev_mv (v := .raw _) J) ?_
                          refine sq_yes rfl rfl (less_b g9_42) rfl (ev_gtr J J) ?_
                          refine sq_yes rfl rfl (less_b g9_33) rfl (ev_pickT (v := .raw _) (less_b g9_42) J) ?_
                          refine sq_ev rfl (ev_pickF (v := .raw _) (less_b g9_33) J) ?_
                          refine sq_nil ?_
                          refine aw_cond J (fun c_186 => ?_) (fun c_186 => ?_)
                          · skip
                            have c_186' := c_186
                            try simp only [qq] at c_186'
                            first | exact absurd c_186 (by decide) | (exfalso; simp at c_186; done) | (exfalso; simp at c_186; omega) | (exfalso; simp_all; done) | (exfalso; simp_all; omega)
                          · skip
                            have c_186' := c_186
                            try simp only [qq] at c_186'
                            refine aw_skip (aw_seq (aw_region (sq_ev rfl (ev_call en27 J (known_pure) trivial) ?_)))
                            refine asr J rfl (sq_nil (aw_ret ?_))
                            exact retQ_pure (v := .raw _) rfl rfl J
                        · skip
                          have g9_42' := g9_42
                          try simp only [qq] at g9_42'
                          refine sq_no rfl rfl (less_b g9_42) rfl rfl ?_
                          refine sq_no rfl rfl (less_b g9_42) rfl rfl ?_
                          refine sq_yes rfl rfl (less_b g9_33) rfl (ev_pickF (v := .raw _) (less_b g9_42) J) ?_
                          refine sq_ev rfl (ev_pickF (v := .raw _) (less_b g9_33) J) ?_
                          refine sq_nil ?_
                          refine aw_false J ?_
                          refine aw_skip (aw_seq (aw_region (sq_ev rfl (ev_call en27 J (known_pure) trivial) ?_)))
                          refine asr J rfl (sq_nil (aw_ret ?_))
                          exact retQ_pure (v := .raw _) rfl rfl J
                    · skip
                      have g9_28' := g9_28
                      try simp only [qq] at g9_28'
                      refine sq_no rfl rfl (less_b g9_28) rfl rfl ?_
                      refine sq_no rfl rfl (less_b g9_28) rfl rfl ?_
                      refine sq_yes rfl rfl J rfl (ev_pickF (v := .raw _) (less_b g9_28) J) ?_
                      refine pf rfl J J (mvr J rfl (ymr rfl rfl J rfl J (sq_yes rfl rfl J rfl (ev_eql J J) ?_)))
                      refine ymr rfl rfl J rfl J (sq_yes rfl rfl J rfl (ev_fieldAddr fo28_0 J) ?_)
                      refine sq_yes rfl rfl J rfl (ev_load J rfl ty3 rfl) ?_
                      refine ymr rfl rfl J rfl J (sq_yes rfl rfl J rfl (ev_eql J J) ?_)
                      refine sq_yes rfl rfl J rfl (ev_pickT (v := .raw _) J J) ?_
                      refine ymr rfl rfl J rfl J ?_
                      refine sq_split 182 J (fun g9_42 => ?_) (fun g9_42 => ?_)
                      · skip
                        have g9_42' := g9_42
                        try simp only [qq] at g9_42'
                        refine sq_yes rfl rfl (less_b g9_42) rfl (ev_mv (v := .raw _) J) ?_
                        refine sq_yes rfl rfl (less_b g9_42) rfl (ev_gtr J J) ?_
                        refine sq_yes rfl rfl J rfl (ev_pickT (v := .raw _) (less_b g9_42) J) ?_
                        refine pf rfl J J (sq_nil ?_)
                        refine aw_cond J (fun c_186 => ?_) (fun c_186 => ?_)
                        · skip
                          have c_186' := c_186
                          try simp only [qq] at c_186'
                          first | exact absurd c_186 (by decide) | (exfalso; simp at c_186; done) | (exfalso; simp at c_186; omega) | (exfalso; simp_all; done) | (exfalso; simp_all; omega)
                        · skip
                          have c_186' := c_186
                          try simp only [qq] at c_186'
                          refine aw_skip (aw_seq (aw_region (sq_ev rfl (ev_call en27 J (known_pure) trivial) ?_)))
                          refine asr J rfl (sq_nil (aw_ret ?_))
                          exact retQ_pure (v := .raw _) rfl rfl J
                      · skip
                        have g9_42' := g9_42
                        try simp only [qq] at g9_42'
                        refine sq_no rfl rfl (less_b g9_42) rfl rfl ?_
                        refine sq_no rfl rfl (less_b g9_42) rfl rfl ?_
                        refine sq_yes rfl rfl J rfl (ev_pickF (v := .raw _) (less_b g9_42) J) ?_
                        refine pf rfl J J (sq_nil ?_)
                        refine aw_false J ?_
                        refine aw_skip (aw_seq (aw_region (sq_ev rfl (ev_call en27 J (known_pure) trivial) ?_)))
                        refine asr J rfl (sq_nil (aw_ret ?_))
                        exact retQ_pure (v := .raw _) rfl rfl J
set_option maxRecDepth 20000 in
theorem near_f55 {c : Ca} {n m dark grey : Int} (k23 : APure Tryz.prog 23 [strs c.f] (B true)) (k24 : APure Tryz.prog 24 [stA c.s] (B true)) (k25 : APure Tryz.prog 25 [fgA c.f] (B true)) (k26 : APure Tryz.prog 26 [stA c.s, pcA c.p] (B true))
    (k60 : APure Tryz.prog 60 [stA c.s, fgA c.f, pcA c.p] (.tup [B false, I 0])) (k61 : APure Tryz.prog 61 [stA c.s, fgA c.f, I c.p.x, I c.p.y] (.tup [I n, I 5])) (k62 : APure Tryz.prog 62 [stA c.s, fgA c.f, I c.p.x, I c.p.y] (.tup [I m, I 5]))
    (k33 : APure Tryz.prog 33 [stA c.s, fgA c.f, pcA c.p] (.tup [I dark, I grey, I 0])) (hw : 1 ≤ c.s.wide * c.s.high ∧ c.s.wide * c.s.high ≤ 256) (hn : 0 ≤ n ∧ n < c.s.far) (hm : 0 ≤ m ∧ m < c.s.far) (hd : 0 ≤ dark ∧ dark ≤ c.s.wide * c.s.high) (hgr : 0 ≤ grey ∧ grey ≤ c.s.wide * c.s.high) (h3 : 0 < dark) : APure Tryz.prog 14 [stA c.s, fgA c.f, pcA c.p] (B true) := by
  refine apure_of (rs := [.tmp 6]) Tryz.func14 rfl rfl (Nat.le_of_ble_eq_true rfl) (by simp [AV.pureL, AV.pureB, AV.pureE, pureE_map]) (by first | rfl | (simp [AV.pureL, AV.pureB, AV.pureE, pureE_map])) fun e0 he0 => ?_
  refine aw_seq (aw_region (sq_box rfl J rfl (sq_box rfl J rfl ?_)))
  refine sq_box rfl J rfl (asr J rfl (sq_nil (aw_seq (aw_seq (aw_region (sq_ev rfl (ev_fieldAddr fo26_0 J) ?_))))))
  refine sq_ev rfl (ev_load J rfl ty24 rfl) ?_
  refine sq_ev rfl (ev_call en23 J (k23) ⟨J, trivial⟩) ?_
  refine sq_ev rfl (ev_not J) ?_
  refine mvr J rfl (sq_yes rfl rfl J rfl (ev_load_agg J rfl ty23 rfl) ?_)
  refine sq_yes rfl rfl J rfl (ev_call en24 J (k24) ⟨J, trivial⟩) ?_
  refine sq_yes rfl rfl J rfl (ev_not J) ?_
  refine pf rfl J J (mvr J rfl (sq_yes rfl rfl J rfl (ev_load_agg J rfl ty26 rfl) ?_))
  refine sq_yes rfl rfl J rfl (ev_call en25 J (k25) ⟨J, trivial⟩) ?_
  refine sq_yes rfl rfl J rfl (ev_not J) ?_
  refine pf rfl J J (mvr J rfl (sq_yes rfl rfl J rfl (ev_load_agg J rfl ty23 rfl) ?_))
  refine sq_yes rfl rfl J rfl (ev_load_agg J rfl ty28 rfl) ?_
  refine sq_yes rfl rfl J rfl (ev_call en26 J (k26) ⟨J, J, trivial⟩) ?_
  refine sq_yes rfl rfl J rfl (ev_not J) ?_
  refine pf rfl J J (sq_nil ?_)
  refine aw_cond J (fun c_35 => ?_) (fun c_35 => ?_)
  · skip
    have c_35' := c_35
    try simp only [qq] at c_35'
    first | exact absurd c_35 (by decide) | (exfalso; simp at c_35; done) | (exfalso; simp at c_35; omega) | (exfalso; simp_all; done) | (exfalso; simp_all; omega)
  · skip
    have c_35' := c_35
    try simp only [qq] at c_35'
    refine aw_skip (aw_seq (aw_region (sq_ev rfl (ev_load_agg J rfl ty23 rfl) ?_)))
    refine sq_ev rfl (ev_load_agg J rfl ty26 rfl) ?_
    refine sq_ev rfl (ev_load_agg J rfl ty28 rfl) ?_
    refine sq_ev rfl (ev_call en60 J (k60) ⟨J, J, J, trivial⟩) ?_
    refine sq_ev rfl (ev_mv (v := .tup _) J) ?_
    refine xtr rfl J rfl ?_
    refine xtr rfl J rfl (asr J rfl (asr J rfl (sq_nil (aw_seq (aw_region (sq_ev rfl (ev_load_agg J rfl ty23 rfl) ?_))))))
    refine sq_ev rfl (ev_load_agg J rfl ty26 rfl) ?_
    refine sq_ev rfl (ev_fieldAddr fo28_1 J) ?_
    refine sq_ev rfl (ev_load J rfl ty3 rfl) ?_
    refine sq_ev rfl (ev_fieldAddr fo28_2 J) ?_
    refine sq_ev rfl (ev_load J rfl ty3 rfl) ?_
    refine sq_ev rfl (ev_call en61 J (k61) ⟨J, J, J, J, trivial⟩) ?_
    refine sq_ev rfl (ev_mv (v := .tup _) J) ?_
    refine xtr rfl J rfl ?_
    refine xtr rfl J rfl (asr J rfl (asr J rfl (sq_nil (aw_seq (aw_region (sq_ev rfl (ev_load_agg J rfl ty23 rfl) ?_))))))
    refine sq_ev rfl (ev_load_agg J rfl ty26 rfl) ?_
    refine sq_ev rfl (ev_fieldAddr fo28_1 J) ?_
    refine sq_ev rfl (ev_load J rfl ty3 rfl) ?_
    refine sq_ev rfl (ev_fieldAddr fo28_2 J) ?_
    refine sq_ev rfl (ev_load J rfl ty3 rfl) ?_
    refine sq_ev rfl (ev_call en62 J (k62) ⟨J, J, J, J, trivial⟩) ?_
    refine sq_ev rfl (ev_mv (v := .tup _) J) ?_
    refine xtr rfl J rfl ?_
    refine xtr rfl J rfl (asr J rfl (asr J rfl (sq_nil (aw_seq (aw_region (sq_ev rfl (ev_load_agg J rfl ty23 rfl) ?_))))))
    refine sq_ev rfl (ev_load_agg J rfl ty26 rfl) ?_
    refine sq_ev rfl (ev_load_agg J rfl ty28 rfl) ?_
    refine sq_ev rfl (ev_call en33 J (k33) ⟨J, J, J, trivial⟩) ?_
    refine sq_ev rfl (ev_mv (v := .tup _) J) ?_
    refine xtr rfl J rfl (xtr rfl J rfl (xtr rfl J rfl (asr J rfl (asr J rfl ?_))))
    refine asr J rfl (sq_nil (aw_seq (aw_seq (aw_region (mvr J rfl (sq_ev rfl (ev_neq J J) ?_))))))
    refine mvr J rfl (ymr rfl rfl J rfl J (sq_yes rfl rfl J rfl (ev_neq J J) ?_))
    refine ymr rfl rfl J rfl J (ymr rfl rfl J rfl J (sq_yes rfl rfl J rfl (ev_neq J J) ?_))
    refine sq_yes rfl rfl J rfl (ev_pickT (v := .raw _) J J) ?_
    refine pf rfl J J (mvr J rfl (ymr rfl rfl J rfl J (sq_yes rfl rfl J rfl (ev_neq J J) ?_)))
    refine ymr rfl rfl J rfl J (ymr rfl rfl J rfl J (sq_yes rfl rfl J rfl (ev_neq J J) ?_))
    refine sq_yes rfl rfl J rfl (ev_pickT (v := .raw _) J J) ?_
    refine pf rfl J J (mvr J rfl (ymr rfl rfl J rfl J (sq_yes rfl rfl J rfl (ev_neq J J) ?_)))
    refine pf rfl J J (mvr J rfl (ymr rfl rfl J rfl J (sq_yes rfl rfl J rfl (ev_lss J J) ?_)))
    refine pf rfl J J (mvr J rfl ?_)
    refine sq_split 98 J (fun g7_26 => ?_) (fun g7_26 => ?_)
    · skip
      have g7_26' := g7_26
      try simp only [qq] at g7_26'
      first | exact absurd g7_26 (by decide) | (exfalso; simp at g7_26; done) | (exfalso; simp at g7_26; omega) | (exfalso; simp_all; done) | (exfalso; simp_all; omega)
    · skip
      have g7_26' := g7_26
      try simp only [qq] at g7_26'
      refine sq_yes rfl rfl (less_b g7_26) rfl (ev_mv (v := .raw _) J) ?_
      refine sq_yes rfl rfl (less_b g7_26) rfl (ev_fieldAddr fo23_2 J) ?_
      refine sq_yes rfl rfl (less_b g7_26) rfl (ev_load J rfl ty3 rfl) ?_
      refine sq_yes rfl rfl (less_b g7_26) rfl (ev_geq J J) ?_
      refine sq_ev rfl (ev_pickF (v := .raw _) (less_b g7_26) J) ?_
      refine mvr J rfl ?_
      refine sq_split 104 J (fun g7_32 => ?_) (fun g7_32 => ?_)
      · skip
        have g7_32' := g7_32
        try simp only [qq] at g7_32'
        first | exact absurd g7_32 (by decide) | (exfalso; simp at g7_32; done) | (exfalso; simp at g7_32; omega) | (exfalso; simp_all; done) | (exfalso; simp_all; omega)
      · skip
        have g7_32' := g7_32
        try simp only [qq] at g7_32'
        refine sq_yes rfl rfl (less_b g7_32) rfl (ev_mv (v := .raw _) J) ?_
        refine sq_yes rfl rfl (less_b g7_32) rfl (ev_lss J J) ?_
        refine sq_ev rfl (ev_pickF (v := .raw _) (less_b g7_32) J) ?_
        refine mvr J rfl ?_
        refine sq_split 108 J (fun g7_36 => ?_) (fun g7_36 => ?_)
        · skip
          have g7_36' := g7_36
          try simp only [qq] at g7_36'
          first | exact absurd g7_36 (by decide) | (exfalso; simp at g7_36; done) | (exfalso; simp at g7_36; omega) | (exfalso; simp_all; done) | (exfalso; simp_all; omega)
        · skip
          have g7_36' := g7_36
          try simp only [qq] at g7_36'
          refine sq_yes rfl rfl (less_b g7_36) rfl (ev_mv (v := .raw _) J) ?_
          refine sq_yes rfl rfl (less_b g7_36) rfl (ev_fieldAddr fo23_2 J) ?_
          refine sq_yes rfl rfl (less_b g7_36) rfl (ev_load J rfl ty3 rfl) ?_
          refine sq_yes rfl rfl (less_b g7_36) rfl (ev_geq J J) ?_
          refine sq_ev rfl (ev_pickF (v := .raw _) (less_b g7_36) J) ?_
          refine mvr J rfl ?_
          refine sq_split 114 J (fun g7_42 => ?_) (fun g7_42 => ?_)
          · skip
            have g7_42' := g7_42
            try simp only [qq] at g7_42'
            first | exact absurd g7_42 (by decide) | (exfalso; simp at g7_42; done) | (exfalso; simp at g7_42; omega) | (exfalso; simp_all; done) | (exfalso; simp_all; omega)
          · skip
            have g7_42' := g7_42
            try simp only [qq] at g7_42'
            refine sq_yes rfl rfl (less_b g7_42) rfl (ev_mv (v := .raw _) J) ?_
            refine sq_yes rfl rfl (less_b g7_42) rfl (ev_lss J J) ?_
            refine sq_ev rfl (ev_pickF (v := .raw _) (less_b g7_42) J) ?_
            refine mvr J rfl ?_
            refine sq_split 118 J (fun g7_46 => ?_) (fun g7_46 => ?_)
            · skip
              have g7_46' := g7_46
              try simp only [qq] at g7_46'
              first | exact absurd g7_46 (by decide) | (exfalso; simp at g7_46; done) | (exfalso; simp at g7_46; omega) | (exfalso; simp_all; done) | (exfalso; simp_all; omega)
            · skip
              have g7_46' := g7_46
              try simp only [qq] at g7_46'
              refine sq_yes rfl rfl (less_b g7_46) rfl (ev_mv (v := .raw _) J) ?_
              refine sq_yes rfl rfl (less_b g7_46) rfl (ev_lss J J) ?_
              refine sq_ev rfl (ev_pickF (v := .raw _) (less_b g7_46) J) ?_
              refine mvr J rfl ?_
              refine sq_split 122 J (fun g7_50 => ?_) (fun g7_50 => ?_)
              · skip
                have g7_50' := g7_50
                try simp only [qq] at g7_50'
                first | exact absurd g7_50 (by decide) | (exfalso; simp at g7_50; done) | (exfalso; simp at g7_50; omega) | (exfalso; simp_all; done) | (exfalso; simp_all; omega)
              · skip
                have g7_50' := g7_50
                try simp only [qq] at g7_50'
                refine sq_yes rfl rfl (less_b g7_50) rfl (ev_mv (v := .raw _) J) ?_
                refine sq_yes rfl rfl (less_b g7_50) rfl (ev_fieldAddr fo23_0 J) ?_
                refine sq_yes rfl rfl (less_b g7_50) rfl (ev_load J rfl ty3 rfl) ?_
                refine sq_yes rfl rfl (less_b g7_50) rfl (ev_fieldAddr fo23_1 J) ?_
                refine sq_yes rfl rfl (less_b g7_50) rfl (ev_load J rfl ty3 rfl) ?_
                refine sq_yes rfl rfl (less_b g7_50) rfl (ev_mul J J (wr (by omega) (by omega))) ?_
                refine sq_yes rfl rfl (less_b g7_50) rfl (ev_gtr J J) ?_
                refine sq_ev rfl (ev_pickF (v := .raw _) (less_b g7_50) J) ?_
                refine mvr J rfl ?_
                refine sq_split 131 J (fun g7_59 => ?_) (fun g7_59 => ?_)
                · skip
                  have g7_59' := g7_59
                  try simp only [qq] at g7_59'
                  first | exact absurd g7_59 (by decide) | (exfalso; simp at g7_59; done) | (exfalso; simp at g7_59; omega) | (exfalso; simp_all; done) | (exfalso; simp_all; omega)
                · skip
                  have g7_59' := g7_59
                  try simp only [qq] at g7_59'
                  refine sq_yes rfl rfl (less_b g7_59) rfl (ev_mv (v := .raw _) J) ?_
                  refine sq_yes rfl rfl (less_b g7_59) rfl (ev_fieldAddr fo23_0 J) ?_
                  refine sq_yes rfl rfl (less_b g7_59) rfl (ev_load J rfl ty3 rfl) ?_
                  refine sq_yes rfl rfl (less_b g7_59) rfl (ev_fieldAddr fo23_1 J) ?_
                  refine sq_yes rfl rfl (less_b g7_59) rfl (ev_load J rfl ty3 rfl) ?_
                  refine sq_yes rfl rfl (less_b g7_59) rfl (ev_mul J J (wr (by omega) (by omega))) ?_
                  refine sq_yes rfl rfl (less_b g7_59) rfl (ev_gtr J J) ?_
                  refine sq_ev rfl (ev_pickF (v := .raw _) (less_b g7_59) J) ?_
                  refine sq_nil ?_
                  refine aw_cond J (fun c_139 => ?_) (fun c_139 => ?_)
                  · skip
                    have c_139' := c_139
                    try simp only [qq] at c_139'
                    first | exact absurd c_139 (by decide) | (exfalso; simp at c_139; done) | (exfalso; simp at c_139; omega) | (exfalso; simp_all; done) | (exfalso; simp_all; omega)
                  · skip
                    have c_139' := c_139
                    try simp only [qq] at c_139'
                    refine aw_skip (aw_seq (aw_seq (aw_region (mvr J rfl (mvr J rfl (sq_ev rfl (ev_eql J J) ?_))))))
                    refine mvr J rfl (sq_no rfl rfl J rfl rfl (sq_no rfl rfl J rfl rfl (sq_no rfl rfl J rfl rfl (sq_no rfl rfl J rfl rfl (pf rfl J J (sq_ev rfl (ev_neqB un4 J J) ?_))))))
                    refine mvr J rfl ?_
                    refine ymr rfl rfl J rfl J (ymr rfl rfl J rfl J (sq_no rfl rfl J rfl rfl (sq_no rfl rfl J rfl rfl (sq_no rfl rfl J rfl rfl (sq_no rfl rfl J rfl rfl (sq_yes rfl rfl J rfl (ev_pickF (v := .raw _) J J) ?_))))))
                    refine pf rfl J J (mvr J rfl (ymr rfl rfl J rfl J (sq_yes rfl rfl J rfl (ev_neq J J) ?_)))
                    refine ymr rfl rfl J rfl J (sq_no rfl rfl J rfl rfl (sq_no rfl rfl J rfl rfl (sq_no rfl rfl J rfl rfl (sq_no rfl rfl J rfl rfl (sq_yes rfl rfl J rfl (ev_pickT (v := .raw _) J J) ?_)))))
                    refine ymr rfl rfl J rfl J (ymr rfl rfl J rfl J (sq_yes rfl rfl J rfl (ev_eql J J) ?_))
                    refine sq_yes rfl rfl J rfl (ev_pickT (v := .raw _) J J) ?_
                    refine pf rfl J J (mvr J rfl ?_)
                    refine sq_split 173 J (fun g9_33 => ?_) (fun g9_33 => ?_)
                    · skip
                      have g9_33' := g9_33
                      try simp only [qq] at g9_33'
                      first | exact absurd g9_33 (by decide) | (exfalso; simp at g9_33; done) | (exfalso; simp at g9_33; omega) | (exfalso; simp_all; done) | (exfalso; simp_all; omega)
                    · skip
                      have g9_33' := g9_33
                      try simp only [qq] at g9_33'
                      refine sq_yes rfl rfl (less_b g9_33) rfl (ev_mv (v := .raw _) J) ?_
                      refine sq_yes rfl rfl (less_b g9_33) rfl (ev_eql J J) ?_
                      refine sq_yes rfl rfl (less_b g9_33) rfl (ev_mv (v := .raw _) J) ?_
                      refine sq_no rfl rfl J rfl rfl (sq_no rfl rfl J rfl rfl (sq_no rfl rfl J rfl rfl (sq_no rfl rfl J rfl rfl (sq_yes rfl rfl (less_b g9_33) rfl (ev_pickF (v := .raw _) J J) ?_))))
                      refine sq_yes rfl rfl (less_b g9_33) rfl (ev_mv (v := .raw _) J) ?_
                      refine sq_no rfl rfl J rfl rfl (sq_no rfl rfl J rfl rfl (sq_yes rfl rfl (less_b g9_33) rfl (ev_pickF (v := .raw _) J J) ?_))
                      refine sq_ev rfl (ev_pickF (v := .raw _) (less_b g9_33) J) ?_
                      refine sq_nil ?_
                      refine aw_false J ?_
                      refine aw_skip (aw_seq (aw_region (sq_ev rfl (ev_call en27 J (known_pure) trivial) ?_)))
                      refine asr J rfl (sq_nil (aw_ret ?_))
                      exact retQ_pure (v := .raw _) rfl rfl J
/-- **OutlineNear.** -/
theorem law14 (s : Sg) (f : Fg) (p : Pc) : APure Tryz.prog 14 [stA s, fgA f, pcA p] (B true) := by
  obtain ⟨c, rfl, rfl, rfl⟩ : ∃ c : Ca, s = c.s ∧ f = c.f ∧ p = c.p := ⟨⟨s, f, p⟩, rfl, rfl, rfl⟩
  cases hg : (shortB c.f && (stOK c.s && (fgOK c.f && pcOK c.s c.p))) with
  | false => exact near_gate c hg
  | true =>
    simp only [Bool.and_eq_true] at hg
    obtain ⟨h1, h2, h3, h4⟩ := hg
    have hok : caOK c = true := by unfold caOK; rw [h2, h3, h4]; rfl
    have hs := stOK_iff.1 h2
    have hp := pcOK_iff.1 h4
    have h0 : caOK (c.atN 0) = true := caOK_at hok (by omega) (by omega)
    have k23 : APure Tryz.prog 23 [strs c.f] (B true) := by have := short_pure c.f; rwa [h1] at this
    have k24 : APure Tryz.prog 24 [stA c.s] (B true) := by have := rstage_pure c.s; rwa [h2] at this
    have k25 : APure Tryz.prog 25 [fgA c.f] (B true) := by have := rfigure_pure c.f; rwa [h3] at this
    have k26 : APure Tryz.prog 26 [stA c.s, pcA c.p] (B true) := by have := rplace_pure c.s c.p (by omega); rwa [h4] at this
    have k60 := fitsE_pure c
    have k61 := most_pure c
    have k62 := fades_pure c
    have k33 := counts_pure c
    rw [hok, show er true = 0 from rfl, Bool.true_and] at k60
    simp only [h0, if_true] at k61 k62
    simp only [hok, if_true, show er true = 0 from rfl] at k33
    have hw := wh_le h2
    have c1 := cnt_shadow c h2 35
    have c2 := cnt_shadow c h2 43
    have hf := fits_most hok
    have hse := fits_seen hok
    have hF : ∀ n : Nat, n < c.s.far.toNat → (n : Int) < c.s.far := fun n h => by omega
    obtain ⟨q, hq⟩ : ∃ q : Nat, c.p.near = q := ⟨c.p.near.toNat, by omega⟩
    have hat : c.atN (q : Int) = c := by rw [← hq]; rfl
    have fd1 : ∀ {m : Nat}, (∀ i : Nat, i < m → cnt 35 (c.atN i).shadow ≠ 0) → c.p.near < m → 0 < cnt 35 c.shadow := fun f3 h => by
      have := f3 q (by omega)
      rw [hat] at this
      omega
    have fd2 : ∀ {m : Nat}, cnt 35 (c.atN m).shadow = 0 → c.p.near = m → cnt 35 c.shadow = 0 := fun {m} f2 h => by
      have e : m = q := by omega
      rw [e, hat] at f2
      exact f2
    cases hb : c.fits with
    | true =>
      rw [hb] at k60
      obtain ⟨n, e1, e2⟩ := hf.1 hb
      have hn := hF n (most_lt e1)
      rw [e1] at k61; simp only [opN, opE] at k61
      cases ef : c.fades with
      | some m =>
        obtain ⟨f1, f2, f3⟩ := fades_inv ef
        have hm := hF m f1
        rw [ef] at k62; simp only [opN, opE] at k62
        exact near_t00 k23 k24 k25 k26 k60 k61 k62 k33 hw ⟨by omega, hn⟩ ⟨by omega, hm⟩ c1 c2 e2 (hse hb) (fd1 f3) (fd2 f2)
      | none =>
        rw [ef] at k62; simp only [opN, opE] at k62
        have := fades_no ef q (by omega)
        rw [hat] at this
        exact near_t05 k23 k24 k25 k26 k60 k61 k62 k33 hw ⟨by omega, hn⟩ ⟨by omega, by omega⟩ c1 c2 e2 (hse hb) (by omega)
    | false =>
      rw [hb] at k60
      cases em : c.most with
      | some n =>
        have hn := hF n (most_lt em)
        have hlt : (n : Int) < c.p.near := by
          apply Int.not_le.1
          intro h
          have := hf.2 ⟨n, em, h⟩
          rw [hb] at this; cases this
        rw [em] at k61; simp only [opN, opE] at k61
        cases ef : c.fades with
        | some m =>
          obtain ⟨f1, f2, f3⟩ := fades_inv ef
          have hm := hF m f1
          rw [ef] at k62; simp only [opN, opE] at k62
          exact near_f00 k23 k24 k25 k26 k60 k61 k62 k33 hw ⟨by omega, hn⟩ ⟨by omega, hm⟩ c1 c2 hlt (fd1 f3) (fd2 f2)
        | none =>
          rw [ef] at k62; simp only [opN, opE] at k62
          have := fades_no ef q (by omega)
          rw [hat] at this
          exact near_f05 k23 k24 k25 k26 k60 k61 k62 k33 hw ⟨by omega, hn⟩ ⟨by omega, by omega⟩ c1 c2 hlt (by omega)
      | none =>
        rw [em] at k61; simp only [opN, opE] at k61
        cases ef : c.fades with
        | some m =>
          obtain ⟨f1, f2, f3⟩ := fades_inv ef
          have hm := hF m f1
          rw [ef] at k62; simp only [opN, opE] at k62
          exact near_f50 k23 k24 k25 k26 k60 k61 k62 k33 hw ⟨by omega, by omega⟩ ⟨by omega, hm⟩ c1 c2 (fd1 f3) (fd2 f2)
        | none =>
          rw [ef] at k62; simp only [opN, opE] at k62
          have := fades_no ef q (by omega)
          rw [hat] at this
          exact near_f55 k23 k24 k25 k26 k60 k61 k62 k33 hw ⟨by omega, by omega⟩ ⟨by omega, by omega⟩ c1 c2 (by omega)
end Go.Proofs.YtmbknoaneglilaaGreatDoor
