/-
  A part of the proof: conditions: none beyond each theorem's own.
-/
import Derived.Test.YtjghdbdiejaacaaGreatDoorSpecA
import Derived.Test.YtjghdbdiejaacaaGreatDoorLogicC
import Derived.KernelRfl
import Derived.Lib.LaidTab
import Derived.Lib.ItoaNum
import Derived.Test.YtjghdbdiejaacaaGreatDoorProg
import Derived.Test.YtjghdbdiejaacaaGreatDoorWalkA
import Derived.Test.YtjghdbdiejaacaaGreatDoorWalkF
import Derived.Test.YtjghdbdiejaacaaGreatDoorWalkG
import Derived.Test.YtjghdbdiejaacaaGreatDoorLogicA
import Derived.Test.YtjghdbdiejaacaaGreatDoorLogicB
import Derived.Test.YtjghdbdiejaacaaGreatDoorLogicD
import Derived.Test.YtjghdbdiejaacaaGreatDoorShelf
import Derived.Test.YtjghdbdiejaacaaGreatDoorWalkB
import Derived.Test.YtjghdbdiejaacaaGreatDoorWalkC
import Derived.Test.YtjghdbdiejaacaaGreatDoorWalkD
import Derived.Test.YtjghdbdiejaacaaGreatDoorWalkE
import Derived.Test.YtjghdbdiejaacaaGreatDoorRow
set_option linter.all false
namespace Ni

theorem has_yes {l : List Int} {n : Int} {k : Nat} (h : k < l.length) (e : l[k] = n) : has l n = true := by
  simp only [has, decide_eq_true_eq]; exact e ▸ List.getElem_mem h
theorem has_no {l : List Int} {n : Int} {k : Nat} (hn : ¬ (k : Int) < l.length) (h : ∀ i, (h : i < l.length) → i < k → l[i] ≠ n) : has l n = false := by
  simp only [has, decide_eq_false_iff_not]
  intro hm
  obtain ⟨j, hj, e⟩ := List.getElem_of_mem hm
  exact h j hj (by omega) e
theorem ssum_take {f : Nat → Int} {c : Nat → Bool} {l : List Nat} {k : Nat} (h : k < l.length) : ssum f c (l.take (k + 1)) = ssum f c (l.take k) + (if c l[k] = true then f l[k] else 0) := by
  unfold ssum
  rw [List.take_succ_eq_append_getElem h, List.filter_append, List.map_append, List.sum_append]
  by_cases hc : c l[k] = true <;> simp [hc]
theorem ssum_bd {f : Nat → Int} {c : Nat → Bool} : ∀ {l : List Nat}, (∀ x ∈ l, 0 ≤ f x ∧ f x ≤ 10000) → 0 ≤ ssum f c l ∧ ssum f c l ≤ 10000 * l.length
  | [], _ => by simp [ssum]
  | x :: l, h => by
    have ih := ssum_bd (c := c) (l := l) (fun y hy => h y (List.mem_cons_of_mem _ hy))
    have hx := h x (by simp)
    have e : ssum f c (x :: l) = (if c x = true then f x else 0) + ssum f c l := by
      unfold ssum
      by_cases hc : c x = true <;> simp [hc]
    rw [e, List.length_cons]
    split <;> omega
theorem ssum_bd_take {f : Nat → Int} {c : Nat → Bool} {l : List Nat} (h : ∀ x ∈ l, 0 ≤ f x ∧ f x ≤ 10000) (hl : l.length ≤ 1000) (k : Nat) : 0 ≤ ssum f c (l.take k) ∧ ssum f c (l.take k) ≤ 10000000 := by
  have := ssum_bd (c := c) (l := l.take k) (fun x hx => h x (List.mem_of_mem_take hx))
  have := List.length_take_le' k l
  omega

theorem lo_bd {p : Pl} {l : List Nat} (gp : GP p) (cv : CV p l) (part a b : Int) (k : Nat) : 0 ≤ lo p (l.take k) part a b ∧ lo p (l.take k) part a b ≤ 10000000 := ssum_bd_take (fun x hx => gp.least (cv.rng x hx)) cv.len k
theorem hi_bd {p : Pl} {l : List Nat} (gp : GP p) (cv : CV p l) (part a b : Int) (k : Nat) : 0 ≤ hi p (l.take k) part a b ∧ hi p (l.take k) part a b ≤ 10000000 := ssum_bd_take (fun x hx => gp.most (cv.rng x hx)) cv.len k
theorem lo_take {p : Pl} {l : List Nat} {k : Nat} (h : k < l.length) (part a b : Int) : lo p (l.take (k + 1)) part a b = lo p (l.take k) part a b + (if inP p part a b l[k] = true then (scn p l[k]).least else 0) := ssum_take h
theorem hi_take {p : Pl} {l : List Nat} {k : Nat} (h : k < l.length) (part a b : Int) : hi p (l.take (k + 1)) part a b = hi p (l.take k) part a b + (if inP p part a b l[k] = true then (scn p l[k]).most else 0) := ssum_take h
theorem lo_bd' {p : Pl} {l : List Nat} (gp : GP p) (cv : CV p l) (part a b : Int) : 0 ≤ lo p l part a b ∧ lo p l part a b ≤ 10000000 := by have := lo_bd gp cv part a b l.length; rwa [List.take_length] at this
theorem fm_zero {α : Type} (f : Nat → List α) : fm 0 f = [] := rfl
theorem fm_len' {α : Type} {f : Nat → List α} {n B k : Nat} (h : ∀ i, (f i).length ≤ B) (hk : k ≤ n) : (fm k f).length ≤ n * B :=
  Nat.le_trans (fm_len h k) (Nat.mul_le_mul_right _ hk)

theorem hC_len (p : Pl) (l : List Nat) (a b : Int) (k : Nat) : (hC p l a b k).length ≤ 1 := by unfold hC; split <;> simp
theorem wid_le {a b : Int} (h : 0 ≤ a) (k : b ≤ 10000) : wid a b ≤ 10001 := by unfold wid; omega
theorem hB_len {p : Pl} (gp : GP p) (l : List Nat) (a : Int) (j : Nat) : (hB p l a j).length ≤ 10001 := by
  unfold hB; split
  · have := fm_len (hC_len p l a (p.s1l + j)) (wid p.dl p.dh)
    have := wid_le gp.dl.1 gp.dh.2
    omega
  · simp
theorem hA_len {p : Pl} (gp : GP p) (l : List Nat) (i : Nat) : (hA p l i).length ≤ 100020001 := by
  unfold hA; split
  · have := fm_len (hB_len gp l (p.s0l + i)) (wid p.s1l p.s1h)
    have := wid_le gp.s1l.1 gp.s1h.2
    omega
  · simp
theorem hAs_len {p : Pl} (gp : GP p) (l : List Nat) {i : Nat} (h : i ≤ wid p.s0l p.s0h) : (fm i (hA p l)).length ≤ 1000300030001 := by
  have := fm_len (hA_len gp l) i
  have := wid_le gp.s0l.1 gp.s0h.2
  omega
theorem hBs_len {p : Pl} (gp : GP p) (l : List Nat) (a : Int) {j : Nat} (h : j ≤ wid p.s1l p.s1h) : (fm j (hB p l a)).length ≤ 100020001 := by
  have := fm_len (hB_len gp l a) j
  have := wid_le gp.s1l.1 gp.s1h.2
  omega
theorem hCs_len {p : Pl} (gp : GP p) (l : List Nat) (a b : Int) {k : Nat} (h : k ≤ wid p.dl p.dh) : (fm k (hC p l a b)).length ≤ 10001 := by
  have := fm_len (hC_len p l a b) k
  have := wid_le gp.dl.1 gp.dh.2
  omega
theorem hB_eq {p : Pl} {l : List Nat} {a : Int} {j k : Nat} (hk0 : 0 < k → inn (p.s1l + j - a) (lo p l 1 0 10) (hi p l 1 0 10) = true) (h : k = wid p.dl p.dh ∨ inn (p.s1l + j - a) (lo p l 1 0 10) (hi p l 1 0 10) = false) :
    hB p l a j = fm k (hC p l a (p.s1l + j)) := by
  unfold hB
  cases hc : inn (p.s1l + j - a) (lo p l 1 0 10) (hi p l 1 0 10) with
  | true =>
    rw [hc] at h
    rcases h with h | h
    · rw [if_pos rfl, h]
    · cases h
  | false =>
    rw [hc] at hk0
    have : k = 0 := by
      rcases Nat.eq_zero_or_pos k with h0 | h0
      · exact h0
      · have := hk0 h0; cases this
    subst this; rfl
theorem hA_eq {p : Pl} {l : List Nat} {i k : Nat} (hk0 : 0 < k → inn (p.s0l + i - p.beg) (lo p l 0 0 10) (hi p l 0 0 10) = true) (h : k = wid p.s1l p.s1h ∨ inn (p.s0l + i - p.beg) (lo p l 0 0 10) (hi p l 0 0 10) = false) :
    hA p l i = fm k (hB p l (p.s0l + i)) := by
  unfold hA
  cases hc : inn (p.s0l + i - p.beg) (lo p l 0 0 10) (hi p l 0 0 10) with
  | true =>
    rw [hc] at h
    rcases h with h | h
    · rw [if_pos rfl, h]
    · cases h
  | false =>
    rw [hc] at hk0
    have : k = 0 := by
      rcases Nat.eq_zero_or_pos k with h0 | h0
      · exact h0
      · have := hk0 h0; cases this
    subst this; rfl
end Ni

namespace Ni

/-- the minutes at which a part can end that begins at a minute -/
def nxI (p : Pl) (l : List Nat) (k : Nat) (a : Int) (j : Nat) : List Int := if inn (wl p k + j - a) (lo p l k 0 10) (hi p l k 0 10) = true then [wl p k + j] else []
def nxJ (p : Pl) (l : List Nat) (k : Nat) (a : Int) (j : Nat) : List Int := fm j (nxI p l k a)
def nxA (p : Pl) (l : List Nat) (k : Nat) (a : Int) : List Int := nxJ p l k a (wid (wl p k) (wh p k))
def nxT (p : Pl) (l : List Nat) (k : Nat) (now : List Int) (i : Nat) : List Int := fm i fun i => nxA p l k (now.getD i 0)
def nowS (p : Pl) (l : List Nat) : Nat → List Int
  | 0 => [p.beg]
  | k + 1 => nxT p l k (nowS p l k) (nowS p l k).length
def oversT (p : Pl) (l : List Nat) (k : Nat) (now : List Int) : Nat → Int
  | 0 => 1
  | i + 1 => if wh p k < now.getD i 0 + lo p l k 0 10 then 2 else oversT p l k now i
def overs (p : Pl) (l : List Nat) (k : Nat) : Int := oversT p l k (nowS p l k) (nowS p l k).length
def rfails (p : Pl) (l : List Nat) : Nat × Int :=
  if nowS p l 1 = [] then (0, overs p l 0) else if nowS p l 2 = [] then (1, overs p l 1) else if nowS p l 3 = [] then (2, overs p l 2) else (0, 0)
theorem rfails_at {p : Pl} {l : List Nat} {k : Nat} (hk : k < 3) (h : ∀ j, j < k → nowS p l (j + 1) ≠ []) (hf : nowS p l (k + 1) = []) : rfails p l = (k, overs p l k) := by
  unfold rfails
  rcases k with _ | _ | _ | k
  · rw [if_pos hf]
  · rw [if_neg (h 0 (by omega)), if_pos hf]
  · rw [if_neg (h 0 (by omega)), if_neg (h 1 (by omega)), if_pos hf]
  · omega
theorem rfails_end {p : Pl} {l : List Nat} (h : ∀ j, j < 3 → nowS p l (j + 1) ≠ []) : rfails p l = (0, 0) := by
  unfold rfails
  rw [if_neg (h 0 (by omega)), if_neg (h 1 (by omega)), if_neg (h 2 (by omega))]
theorem nxI_len (p : Pl) (l : List Nat) (k : Nat) (a : Int) (j : Nat) : (nxI p l k a j).length ≤ 1 := by unfold nxI; split <;> simp
theorem nxJ_len {p : Pl} (gp : GP p) (l : List Nat) (k : Nat) (a : Int) {j : Nat} (h : j ≤ wid (wl p k) (wh p k)) : (nxJ p l k a j).length ≤ 10001 := by
  have h1 : (nxJ p l k a j).length ≤ wid (wl p k) (wh p k) * 1 := fm_len' (nxI_len p l k a) h
  have h2 := win_bd gp k
  have h3 := wid_le h2.1.1 h2.2.2
  omega
theorem nxA_len {p : Pl} (gp : GP p) (l : List Nat) (k : Nat) (a : Int) : (nxA p l k a).length ≤ 10001 := nxJ_len gp l k a (Nat.le_refl _)
theorem nxT_len {p : Pl} (gp : GP p) (l : List Nat) (k : Nat) (now : List Int) (i : Nat) : (nxT p l k now i).length ≤ i * 10001 := fm_len (fun _ => nxA_len gp l k _) i
theorem nowS_len {p : Pl} (gp : GP p) (l : List Nat) : (nowS p l 0).length ≤ 1 ∧ (nowS p l 1).length ≤ 10001 ∧ (nowS p l 2).length ≤ 100020001 ∧ (nowS p l 3).length ≤ 1000300030001 := by
  have h0 : (nowS p l 0).length = 1 := rfl
  have h1 := nxT_len gp l 0 (nowS p l 0) (nowS p l 0).length
  have h2 := nxT_len gp l 1 (nowS p l 1) (nowS p l 1).length
  have h3 := nxT_len gp l 2 (nowS p l 2) (nowS p l 2).length
  have e1 : nowS p l 1 = nxT p l 0 (nowS p l 0) (nowS p l 0).length := rfl
  have e2 : nowS p l 2 = nxT p l 1 (nowS p l 1) (nowS p l 1).length := rfl
  have e3 : nowS p l 3 = nxT p l 2 (nowS p l 2) (nowS p l 2).length := rfl
  rw [← e1] at h1; rw [← e2] at h2; rw [← e3] at h3
  omega
theorem now_len {p : Pl} (gp : GP p) (l : List Nat) {k : Nat} (hk : k ≤ 2) : (nowS p l k).length ≤ 100020001 := by
  have := nowS_len gp l
  have hc : k = 0 ∨ k = 1 ∨ k = 2 := by omega
  rcases hc with rfl | rfl | rfl <;> omega
theorem mem_nxA {p : Pl} {l : List Nat} {k : Nat} {a n : Int} : n ∈ nxA p l k a ↔ wl p k ≤ n ∧ n ≤ wh p k ∧ lo p l k 0 10 ≤ n - a ∧ n - a ≤ hi p l k 0 10 := by
  unfold nxA nxJ
  rw [mem_fm]
  constructor
  · rintro ⟨j, hj, h⟩
    unfold nxI at h
    split at h
    · rename_i g
      simp only [List.mem_singleton] at h
      simp only [inn, Bool.and_eq_true, decide_eq_true_eq] at g
      unfold wid at hj
      subst h; omega
    · simp at h
  · rintro ⟨h1, h2, h3, h4⟩
    refine ⟨(n - wl p k).toNat, by unfold wid; omega, ?_⟩
    have e : wl p k + ((n - wl p k).toNat : Int) = n := by omega
    unfold nxI
    rw [e, if_pos (by simp only [inn, Bool.and_eq_true, decide_eq_true_eq]; omega)]
    simp
theorem mem_nxT {p : Pl} {l : List Nat} {k : Nat} {now : List Int} {n : Int} : n ∈ nxT p l k now now.length ↔ ∃ a ∈ now, n ∈ nxA p l k a := by
  unfold nxT
  rw [mem_fm]
  constructor
  · rintro ⟨i, hi, h⟩
    rw [List.getD_eq_getElem?_getD, List.getElem?_eq_getElem hi] at h
    exact ⟨now[i], List.getElem_mem hi, h⟩
  · rintro ⟨a, ha, h⟩
    obtain ⟨i, hi, rfl⟩ := List.getElem_of_mem ha
    exact ⟨i, hi, by rw [List.getD_eq_getElem?_getD, List.getElem?_eq_getElem hi]; exact h⟩
/-- the minutes at which a part begins are those between its bounds -/
theorem mem_nowS {p : Pl} {l : List Nat} (wp : WP p) (cv : CV p l) : ∀ k, (∀ j, j < k → flt p l j = 0) → ∀ n, n ∈ nowS p l k ↔ (fw p l k).1 ≤ n ∧ n ≤ (fw p l k).2
  | 0, _, n => by
    simp only [nowS, fw, List.mem_singleton]
    omega
  | k + 1, h, n => by
    have ih := mem_nowS wp cv k fun j hj => h j (by omega)
    have h1 := fw_le wp cv k fun j hj => h j (by omega)
    have h2 := pl_le wp cv k
    have e1 := pl_lo wp cv k; have e2 := ph_hi wp cv k
    show n ∈ nxT p l k (nowS p l k) (nowS p l k).length ↔ _
    rw [mem_nxT]
    simp only [fw]
    constructor
    · rintro ⟨a, ha, hn⟩
      rw [mem_nxA] at hn
      have := (ih a).1 ha
      omega
    · intro hn
      obtain ⟨s, s1, s2, s3, s4⟩ := pick (t := n) h1 h2 (by omega) (by omega)
      exact ⟨s, (ih s).2 ⟨s1, s2⟩, mem_nxA.2 ⟨by omega, by omega, by omega, by omega⟩⟩
theorem nowS_nil {p : Pl} {l : List Nat} (wp : WP p) (cv : CV p l) {k : Nat} (h : ∀ j, j < k → flt p l j = 0) : nowS p l (k + 1) = [] ↔ flt p l k ≠ 0 := by
  have h1 := fw_le wp cv k h
  have h2 := pl_le wp cv k
  have h3 := win_le wp k
  have e1 := pl_lo wp cv k; have e2 := ph_hi wp cv k
  have ih := mem_nowS wp cv k h
  constructor
  · intro e hz
    have hx := mem_nowS wp cv (k + 1) (fun j hj => by rcases Nat.lt_or_eq_of_le (Nat.le_of_lt_succ hj) with h' | h'; exact h j h'; rw [h']; exact hz) (fw p l (k + 1)).1
    have := fw_le wp cv (k + 1) (fun j hj => by rcases Nat.lt_or_eq_of_le (Nat.le_of_lt_succ hj) with h' | h'; exact h j h'; rw [h']; exact hz)
    have := hx.2 ⟨Int.le_refl _, this⟩
    rw [e] at this; cases this
  · intro hz
    refine List.eq_nil_iff_forall_not_mem.2 fun n hn => hz ?_
    have hn : n ∈ nxT p l k (nowS p l k) (nowS p l k).length := hn
    rw [mem_nxT] at hn
    obtain ⟨a, ha, hn⟩ := hn
    rw [mem_nxA] at hn
    have := (ih a).1 ha
    exact flt_zero.2 (by omega)
theorem oversT_two {p : Pl} {l : List Nat} {k : Nat} {now : List Int} : ∀ i, i ≤ now.length → (oversT p l k now i = 2 ∨ oversT p l k now i = 1) ∧ (oversT p l k now i = 2 ↔ ∃ j, ∃ h : j < now.length, j < i ∧ wh p k < now[j] + lo p l k 0 10)
  | 0, _ => ⟨Or.inr rfl, by constructor; (intro h; cases h); (rintro ⟨j, _, h, _⟩; omega)⟩
  | i + 1, hi => by
    have ih := oversT_two (p := p) (l := l) (k := k) (now := now) i (by omega)
    have e : now.getD i 0 = now[i] := by rw [List.getD_eq_getElem?_getD, List.getElem?_eq_getElem (by omega)]; rfl
    simp only [oversT, e]
    by_cases hc : wh p k < now[i] + lo p l k 0 10
    · rw [if_pos hc]
      exact ⟨Or.inl rfl, ⟨fun _ => ⟨i, by omega, by omega, hc⟩, fun _ => rfl⟩⟩
    · rw [if_neg hc]
      refine ⟨ih.1, ih.2.trans ⟨?_, ?_⟩⟩
      · rintro ⟨j, h1, h2, h3⟩; exact ⟨j, h1, by omega, h3⟩
      · rintro ⟨j, h1, h2, h3⟩
        rcases Nat.lt_or_eq_of_le (Nat.le_of_lt_succ h2) with h' | h'
        · exact ⟨j, h1, h', h3⟩
        · subst h'; exact absurd h3 hc
theorem overs_flt {p : Pl} {l : List Nat} (wp : WP p) (cv : CV p l) {k : Nat} (h : ∀ j, j < k → flt p l j = 0) (hz : flt p l k ≠ 0) : overs p l k = flt p l k := by
  have h1 := fw_le wp cv k h
  have h2 := pl_le wp cv k
  have h3 := win_le wp k
  have e1 := pl_lo wp cv k; have e2 := ph_hi wp cv k
  have ih := mem_nowS wp cv k h
  obtain ⟨g1, g2⟩ := oversT_two (p := p) (l := l) (k := k) (now := nowS p l k) (nowS p l k).length (Nat.le_refl _)
  change overs p l k = 2 ∨ overs p l k = 1 at g1
  change overs p l k = 2 ↔ _ at g2
  by_cases hs : (fw p l k).2 + ph p l k < wl p k
  · have e : flt p l k = 1 := by unfold flt; rw [if_pos hs]
    rw [e]
    rcases g1 with g1 | g1
    · obtain ⟨j, hj, _, hc⟩ := g2.1 g1
      have := (ih _).1 (List.getElem_mem hj)
      omega
    · exact g1
  · by_cases ho : wh p k < (fw p l k).1 + pl p l k
    · have e : flt p l k = 2 := by unfold flt; rw [if_neg hs, if_pos ho]
      rw [e]
      have hm := (ih (fw p l k).1).2 ⟨Int.le_refl _, h1⟩
      obtain ⟨j, hj, he⟩ := List.getElem_of_mem hm
      exact g2.2 ⟨j, hj, hj, by rw [he]; omega⟩
    · exact absurd (by unfold flt; rw [if_neg hs, if_neg ho]) hz
/-- the reference finds what going forward finds -/
theorem rfails_ffail {p : Pl} {l : List Nat} (wp : WP p) (cv : CV p l) {r : Nat × Int} (h : ffail p l = some r) : rfails p l = r := by
  unfold ffail at h
  split at h
  · rename_i g0
    cases h
    rw [rfails_at (k := 0) (by omega) (fun j hj => by omega) ((nowS_nil wp cv (fun j hj => by omega)).2 g0), overs_flt wp cv (fun j hj => by omega) g0]
  · rename_i g0
    have g0 : flt p l 0 = 0 := Decidable.not_not.1 g0
    have z1 : ∀ j, j < 1 → flt p l j = 0 := fun j hj => by obtain rfl : j = 0 := by omega
                                                           exact g0
    have n1 : nowS p l 1 ≠ [] := fun e => (nowS_nil wp cv (fun j hj => by omega)).1 e g0
    split at h
    · rename_i g1
      cases h
      rw [rfails_at (k := 1) (by omega) (fun j hj => by obtain rfl : j = 0 := by omega
                                                        exact n1) ((nowS_nil wp cv z1).2 g1), overs_flt wp cv z1 g1]
    · rename_i g1
      have g1 : flt p l 1 = 0 := Decidable.not_not.1 g1
      have z2 : ∀ j, j < 2 → flt p l j = 0 := fun j hj => by rcases j with _ | _ | j; exact g0; exact g1; omega
      have n2 : nowS p l 2 ≠ [] := fun e => (nowS_nil wp cv z1).1 e g1
      split at h
      · rename_i g2
        cases h
        rw [rfails_at (k := 2) (by omega) (fun j hj => by rcases j with _ | _ | j; exact n1; exact n2; omega) ((nowS_nil wp cv z2).2 g2), overs_flt wp cv z2 g2]
      · cases h
end Ni

namespace Go.Proofs.YtjghdbdiejaacaaGreatDoor
open Go Go.Ab Ni
theorem en35 : Ent Tryz.prog 35 := Ent.of Tryz.func35 (by kernel_rfl) rfl
theorem en62 : Ent Tryz.prog 62 := Ent.of Tryz.func62 (by kernel_rfl) rfl
theorem en89 : Ent Tryz.prog 89 := Ent.of Tryz.func89 (by kernel_rfl) rfl
theorem en90 : Ent Tryz.prog 90 := Ent.of Tryz.func90 (by kernel_rfl) rfl
theorem en91 : Ent Tryz.prog 91 := Ent.of Tryz.func91 (by kernel_rfl) rfl
set_option maxHeartbeats 400000 in
/-- kelir/kelirref03.in -/
theorem in_pure (n lo hi : Int) : APure Tryz.prog 89 [I n, I lo, I hi] (B (inn n lo hi)) := by
 refine apure_of (rs := [.tmp 6]) Tryz.func89 rfl rfl (Nat.le_of_ble_eq_true rfl) (by simp [AV.pureL, AV.pureB, AV.pureE, pureE_map]) (rfl) fun e0 he0 => ?_
 refine aw_seq (aw_region ?_)
 refine asr (lr _) rfl ?_
 refine sq_nil (aw_seq (aw_region ?_))
 refine mvr (lr _) rfl ?_
 refine mvr (lr _) rfl ?_
 refine sq_ev rfl (ev_geq (lr _) (lr _)) ?_
 refine mvr (lr _) rfl ?_
 refine sq_split 10 (lr _) (fun g1 => ?_) (fun g1 => ?_)
 ·
  have g1' := g1
  try simp only [qq] at g1'
  refine sq_yes rfl rfl (less_b g1) rfl (ev_mv (v := .raw _) (lr _)) ?_
  refine sq_yes rfl rfl (less_b g1) rfl (ev_mv (v := .raw _) (lr _)) ?_
  refine sq_yes rfl rfl (less_b g1) rfl (ev_leq (lr _) (lr _)) ?_
  refine sq_ev rfl (ev_pickT (v := .raw _) (less_b g1) (lr _)) ?_
  refine asr (lr _) rfl ?_
  refine sq_nil (aw_ret ?_)
  exact retQ_pure (v := .raw _) rfl rfl (Less.eq (by simp [inn, *]))
 ·
  have g1' := g1
  try simp only [qq] at g1'
  refine sq_no rfl rfl (less_b g1) rfl rfl ?_
  refine sq_no rfl rfl (less_b g1) rfl rfl ?_
  refine sq_no rfl rfl (less_b g1) rfl rfl ?_
  refine sq_ev rfl (ev_pickF (v := .raw _) (less_b g1) (lr _)) ?_
  refine asr (lr _) rfl ?_
  refine sq_nil (aw_ret ?_)
  exact retQ_pure (v := .raw _) rfl rfl (Less.eq (by simp [inn, *]))

set_option maxHeartbeats 400000 in
/-- kelir/kelirref03.window -/
theorem window_pure (lo hi : Int) : APure Tryz.prog 90 [.agg [I lo, I hi]] (B (wnd lo hi)) := by
 refine apure_of (rs := [.tmp 2]) Tryz.func90 rfl rfl (Nat.le_of_ble_eq_true rfl) (by simp [AV.pureL, AV.pureB, AV.pureE, pureE_map]) (rfl) fun e0 he0 => ?_
 refine aw_seq (aw_region ?_)
 refine sq_box rfl (lr _) rfl ?_
 refine asr (lr _) rfl ?_
 refine sq_nil (aw_seq (aw_region ?_))
 refine sq_ev rfl (ev_fieldAddr fo23_0 (lr _)) ?_
 refine sq_ev rfl (ev_load (lr _) rfl ty3 rfl) ?_
 refine sq_ev rfl (ev_call en89 (lr _) (in_pure _ _ _) ⟨lr _, lr _, lr _, trivial⟩) ?_
 refine mvr (lr _) rfl ?_
 refine sq_split 6 (lr _) (fun g1 => ?_) (fun g1 => ?_)
 ·
  have g1' := g1
  try simp only [qq] at g1'
  refine sq_yes rfl rfl (less_b g1) rfl (ev_fieldAddr fo23_1 (lr _)) ?_
  refine sq_yes rfl rfl (less_b g1) rfl (ev_load (lr _) rfl ty3 rfl) ?_
  refine sq_yes rfl rfl (less_b g1) rfl (ev_fieldAddr fo23_0 (lr _)) ?_
  refine sq_yes rfl rfl (less_b g1) rfl (ev_load (lr _) rfl ty3 rfl) ?_
  refine sq_yes rfl rfl (less_b g1) rfl (ev_call en89 (lr _) (in_pure _ _ _) ⟨lr _, lr _, lr _, trivial⟩) ?_
  refine sq_ev rfl (ev_pickT (v := .raw _) (less_b g1) (lr _)) ?_
  refine mvr (lr _) rfl ?_
  refine sq_split 13 (lr _) (fun g2 => ?_) (fun g2 => ?_)
  ·
   have g2' := g2
   try simp only [qq] at g2'
   simp only [inn, Bool.and_eq_true, decide_eq_true_eq] at g1' g2'
   refine sq_yes rfl rfl (less_b g2) rfl (ev_fieldAddr fo23_1 (lr _)) ?_
   refine sq_yes rfl rfl (less_b g2) rfl (ev_load (lr _) rfl ty3 rfl) ?_
   refine sq_yes rfl rfl (less_b g2) rfl (ev_fieldAddr fo23_0 (lr _)) ?_
   refine sq_yes rfl rfl (less_b g2) rfl (ev_load (lr _) rfl ty3 rfl) ?_
   refine sq_yes rfl rfl (less_b g2) rfl (ev_sub (lr _) (lr _) (wr (by omega) (by omega))) ?_
   refine sq_yes rfl rfl (less_b g2) rfl (ev_leq (lr _) (lr _)) ?_
   refine sq_ev rfl (ev_pickT (v := .raw _) (less_b g2) (lr _)) ?_
   refine asr (lr _) rfl ?_
   refine sq_nil (aw_ret ?_)
   exact retQ_pure (v := .raw _) rfl rfl (Less.eq (by simp [wnd, *]))
  ·
   have g2' := g2
   try simp only [qq] at g2'
   refine sq_no rfl rfl (less_b g2) rfl rfl ?_
   refine sq_no rfl rfl (less_b g2) rfl rfl ?_
   refine sq_no rfl rfl (less_b g2) rfl rfl ?_
   refine sq_no rfl rfl (less_b g2) rfl rfl ?_
   refine sq_no rfl rfl (less_b g2) rfl rfl ?_
   refine sq_no rfl rfl (less_b g2) rfl rfl ?_
   refine sq_ev rfl (ev_pickF (v := .raw _) (less_b g2) (lr _)) ?_
   refine asr (lr _) rfl ?_
   refine sq_nil (aw_ret ?_)
   exact retQ_pure (v := .raw _) rfl rfl (Less.eq (by simp [wnd, *]))
 ·
  have g1' := g1
  try simp only [qq] at g1'
  refine sq_no rfl rfl (less_b g1) rfl rfl ?_
  refine sq_no rfl rfl (less_b g1) rfl rfl ?_
  refine sq_no rfl rfl (less_b g1) rfl rfl ?_
  refine sq_no rfl rfl (less_b g1) rfl rfl ?_
  refine sq_no rfl rfl (less_b g1) rfl rfl ?_
  refine sq_ev rfl (ev_pickF (v := .raw _) (less_b g1) (lr _)) ?_
  refine mvr (lr _) rfl ?_
  refine sq_no rfl rfl (lr _) rfl rfl ?_
  refine sq_no rfl rfl (lr _) rfl rfl ?_
  refine sq_no rfl rfl (lr _) rfl rfl ?_
  refine sq_no rfl rfl (lr _) rfl rfl ?_
  refine sq_no rfl rfl (lr _) rfl rfl ?_
  refine sq_no rfl rfl (lr _) rfl rfl ?_
  refine sq_ev rfl (ev_pickF (v := .raw _) (lr _) (lr _)) ?_
  refine asr (lr _) rfl ?_
  refine sq_nil (aw_ret ?_)
  exact retQ_pure (v := .raw _) rfl rfl (Less.eq (by simp [wnd, *]))

set_option maxHeartbeats 2000000 in
/-- kelir/kelirref03.scenes -/
theorem scenes_pure (p : Pl) (hl : p.scenes.length ≤ 1000000) : APure Tryz.prog 91 [plan p] (B (decide (ScOK p.scenes))) := by
 refine apure_of (rs := [.tmp 2]) Tryz.func91 rfl rfl (Nat.le_of_ble_eq_true rfl) (by simp [AV.pureL, AV.pureB, AV.pureE, pureE_map]) (rfl) fun e0 he0 => ?_
 refine aw_seq (aw_region ?_)
 refine sq_box rfl (lr _) rfl ?_
 refine asr (lr _) rfl ?_
 refine sq_nil (aw_seq (aw_region ?_))
 refine asr (lr _) rfl ?_
 refine sq_nil (aw_seq (aw_seq (aw_region ?_)))
 refine asr (lr _) rfl ?_
 refine sq_nil (aw_block ?_)
 refine aw_loopk (ι := { k : Nat // k ≤ p.scenes.length ∧ ∀ i, (h : i < p.scenes.length) → i < k → scBad p.scenes i h = false }) [1] (fun i => [(3, I (loosies (p.scenes.take i.1))), (4, I i.1)]) (fun H i => H) (fun i => p.scenes.length - i.1) (⟨0, Nat.zero_le _, by omega⟩) ⟨lr _, lr _, lr _, trivial⟩ rfl ?_
 rintro ⟨k, hk, hok⟩
 dsimp only [keepS, St.put, sget, slotsOf, List.map_cons, List.map_nil, List.cons_append, List.nil_append, List.length_cons, List.length_nil, Nat.reduceBEq, Nat.reduceAdd, cond_true, cond_false]
 have hlo := loosies_le (p.scenes.take k)
 have hlt := List.length_take_le k p.scenes
 refine aw_seq (aw_seq (aw_region ?_))
 refine mvr (lr _) rfl ?_
 refine sq_ev rfl (ev_fieldAddr fo27_3 (lr _)) ?_
 refine sq_ev rfl (ev_load (lr _) rfl ty25 rfl) ?_
 refine sq_ev rfl (ev_len_map sl25 (lr _)) ?_
 refine sq_ev rfl (ev_lss (lr _) (lr _)) ?_
 refine sq_nil ?_
 refine aw_cond (lr _) (fun c1 => ?_) (fun c1 => ?_)
 ·
  have c1' := c1
  try simp only [qq] at c1'
  refine aw_skip (aw_seq (aw_block (aw_seq (aw_region ?_))))
  refine sq_ev rfl (ev_fieldAddr fo27_3 (lr _)) ?_
  refine sq_ev rfl (ev_load (lr _) rfl ty25 rfl) ?_
  refine mvr (lr _) rfl ?_
  refine sq_ev rfl (ev_index_map sl25 (lr _) (lr _) rfl (by omega)) ?_
  refine sq_ev rfl (ev_load_agg_i (lr _) ty84 (Nat.le_of_ble_eq_true rfl)) ?_
  refine sq_alloc rfl z84 ?_
  refine sq_store rfl (lr _) (lr _) rfl rfl ty84 rfl rfl ?_
  refine sq_nil (aw_seq (aw_seq ?_))
  refine aw_draw 50 mo (by kernel_rfl) ?_
  refine dr_ev rfl (ev_fieldAddr fo84_0 (lr _)) ?_
  refine dr_ev rfl (ev_load (lr _) rfl ty3 rfl) ?_
  refine dr_ev rfl (ev_call en89 (lr _) (in_pure _ _ _) ⟨lr _, lr _, lr _, trivial⟩) ?_
  refine dr_ev rfl (ev_not (lr _)) ?_
  refine dr_ev rfl (ev_mv (v := .raw _) (lr _)) ?_
  refine dr_split 22 (lr _) (fun g2 => ?_) (fun g2 => ?_)
  ·
   have g2' := g2
   try simp only [qq] at g2'
   refine dr_no rfl rfl (less_b g2) rfl rfl ?_
   refine dr_no rfl rfl (less_b g2) rfl rfl ?_
   refine dr_no rfl rfl (less_b g2) rfl rfl ?_
   refine dr_no rfl rfl (lr _) rfl rfl ?_
   refine dr_no rfl rfl (lr _) rfl rfl ?_
   refine dr_no rfl rfl (lr _) rfl rfl ?_
   refine dr_no rfl rfl (lr _) rfl rfl ?_
   refine dr_no rfl rfl (lr _) rfl rfl ?_
   refine dr_no rfl rfl (lr _) rfl rfl ?_
   refine dr_no rfl rfl (lr _) rfl rfl ?_
   refine dr_no rfl rfl (lr _) rfl rfl ?_
   refine dr_no rfl rfl (lr _) rfl rfl ?_
   refine dr_no rfl rfl (lr _) rfl rfl ?_
   refine dr_no rfl rfl (less_b g2) rfl rfl ?_
   refine dr_ev rfl (ev_pickT (v := .raw _) (less_b g2) (lr _)) ?_
   refine dr_ev rfl (ev_mv (v := .raw _) (lr _)) ?_
   refine dr_no rfl rfl (lr _) rfl rfl ?_
   refine dr_no rfl rfl (lr _) rfl rfl ?_
   refine dr_no rfl rfl (lr _) rfl rfl ?_
   refine dr_no rfl rfl (lr _) rfl rfl ?_
   refine dr_ev rfl (ev_pickT (v := .raw _) (lr _) (lr _)) ?_
   refine dr_ev rfl (ev_mv (v := .raw _) (lr _)) ?_
   refine dr_no rfl rfl (lr _) rfl rfl ?_
   refine dr_no rfl rfl (lr _) rfl rfl ?_
   refine dr_no rfl rfl (lr _) rfl rfl ?_
   refine dr_no rfl rfl (lr _) rfl rfl ?_
   refine dr_no rfl rfl (lr _) rfl rfl ?_
   refine dr_no rfl rfl (lr _) rfl rfl ?_
   refine dr_ev rfl (ev_pickT (v := .raw _) (lr _) (lr _)) ?_
   refine dr_ev rfl (ev_mv (v := .raw _) (lr _)) ?_
   refine dr_no rfl rfl (lr _) rfl rfl ?_
   refine dr_no rfl rfl (lr _) rfl rfl ?_
   refine dr_no rfl rfl (lr _) rfl rfl ?_
   refine dr_no rfl rfl (lr _) rfl rfl ?_
   refine dr_no rfl rfl (lr _) rfl rfl ?_
   refine dr_no rfl rfl (lr _) rfl rfl ?_
   refine dr_no rfl rfl (lr _) rfl rfl ?_
   refine dr_no rfl rfl (lr _) rfl rfl ?_
   refine dr_ev rfl (ev_pickT (v := .raw _) (lr _) (lr _)) ?_
   refine dr_ev rfl (ev_mv (v := .raw _) (lr _)) ?_
   refine dr_no rfl rfl (lr _) rfl rfl ?_
   refine dr_no rfl rfl (lr _) rfl rfl ?_
   refine dr_no rfl rfl (lr _) rfl rfl ?_
   refine dr_no rfl rfl (lr _) rfl rfl ?_
   refine dr_ev rfl (ev_pickT (v := .raw _) (lr _) (lr _)) ?_
   refine dr_end (sq_nil ?_)
   refine aw_true (lr _) ?_
   refine aw_seq (aw_region ?_)
   refine asr (lr _) rfl ?_
   refine sq_nil (aw_ret ?_)
   exact retQ_pure (v := .raw _) rfl rfl (Less.eq (by rw [scOK_bad (i := k) (by omega) (by simp [scBad, *])]))
  ·
   have g2' := g2
   try simp only [qq] at g2'
   refine dr_yes rfl rfl (less_b g2) rfl (ev_mv (v := .raw _) (lr _)) ?_
   refine dr_yes rfl rfl (less_b g2) rfl (ev_gtr (lr _) (lr _)) ?_
   refine dr_yes rfl rfl (less_b g2) rfl (ev_mv (v := .raw _) (lr _)) ?_
   refine dr_split 25 (lr _) (fun g3 => ?_) (fun g3 => ?_)
   ·
    have g3' := g3
    try simp only [qq] at g3'
    have g3n : 0 < k := by omega
    refine dr_yes rfl rfl (less_b g3) rfl (ev_fieldAddr fo84_0 (lr _)) ?_
    refine dr_yes rfl rfl (less_b g3) rfl (ev_load (lr _) rfl ty3 rfl) ?_
    refine dr_yes rfl rfl (less_b g3) rfl (ev_fieldAddr fo27_3 (lr _)) ?_
    refine dr_yes rfl rfl (less_b g3) rfl (ev_load (lr _) rfl ty25 rfl) ?_
    refine dr_yes rfl rfl (less_b g3) rfl (ev_mv (v := .raw _) (lr _)) ?_
    refine dr_yes rfl rfl (less_b g3) rfl (ev_sub (lr _) (lr _) (wr (by omega) (by omega))) ?_
    refine dr_yes rfl rfl (less_b g3) rfl (ev_index_map sl25 (lr _) (lr _) (show ((k : Int) - 1) = ((k - 1 : Nat) : Int) by omega) (by omega)) ?_
    refine dr_yes rfl rfl (less_b g3) rfl (ev_fieldAddr_i fo84_0 (lr _)) ?_
    refine dr_yes rfl rfl (less_b g3) rfl (ev_load_i (lr _) ty3 rfl) ?_
    refine dr_yes rfl rfl (less_b g3) rfl (ev_lss (lr _) (lr _)) ?_
    refine dr_yes rfl rfl (less_b g2) rfl (ev_pickT (v := .raw _) (less_b g3) (lr _)) ?_
    refine dr_ev rfl (ev_pickF (v := .raw _) (less_b g2) (lr _)) ?_
    refine dr_ev rfl (ev_mv (v := .raw _) (lr _)) ?_
    refine dr_split 38 (lr _) (fun g4 => ?_) (fun g4 => ?_)
    ·
     have g4' := g4
     try simp only [qq] at g4'
     refine dr_no rfl rfl (less_b g4) rfl rfl ?_
     refine dr_no rfl rfl (less_b g4) rfl rfl ?_
     refine dr_no rfl rfl (less_b g4) rfl rfl ?_
     refine dr_no rfl rfl (less_b g4) rfl rfl ?_
     refine dr_ev rfl (ev_pickT (v := .raw _) (less_b g4) (lr _)) ?_
     refine dr_ev rfl (ev_mv (v := .raw _) (lr _)) ?_
     refine dr_no rfl rfl (lr _) rfl rfl ?_
     refine dr_no rfl rfl (lr _) rfl rfl ?_
     refine dr_no rfl rfl (lr _) rfl rfl ?_
     refine dr_no rfl rfl (lr _) rfl rfl ?_
     refine dr_no rfl rfl (lr _) rfl rfl ?_
     refine dr_no rfl rfl (lr _) rfl rfl ?_
     refine dr_ev rfl (ev_pickT (v := .raw _) (lr _) (lr _)) ?_
     refine dr_ev rfl (ev_mv (v := .raw _) (lr _)) ?_
     refine dr_no rfl rfl (lr _) rfl rfl ?_
     refine dr_no rfl rfl (lr _) rfl rfl ?_
     refine dr_no rfl rfl (lr _) rfl rfl ?_
     refine dr_no rfl rfl (lr _) rfl rfl ?_
     refine dr_no rfl rfl (lr _) rfl rfl ?_
     refine dr_no rfl rfl (lr _) rfl rfl ?_
     refine dr_no rfl rfl (lr _) rfl rfl ?_
     refine dr_no rfl rfl (lr _) rfl rfl ?_
     refine dr_ev rfl (ev_pickT (v := .raw _) (lr _) (lr _)) ?_
     refine dr_ev rfl (ev_mv (v := .raw _) (lr _)) ?_
     refine dr_no rfl rfl (lr _) rfl rfl ?_
     refine dr_no rfl rfl (lr _) rfl rfl ?_
     refine dr_no rfl rfl (lr _) rfl rfl ?_
     refine dr_no rfl rfl (lr _) rfl rfl ?_
     refine dr_ev rfl (ev_pickT (v := .raw _) (lr _) (lr _)) ?_
     refine dr_end (sq_nil ?_)
     refine aw_true (lr _) ?_
     refine aw_seq (aw_region ?_)
     refine asr (lr _) rfl ?_
     refine sq_nil (aw_ret ?_)
     exact retQ_pure (v := .raw _) rfl rfl (Less.eq (by rw [scOK_bad (i := k) (by omega) (by simp [scBad, *])]))
    ·
     have g4' := g4
     try simp only [qq] at g4'
     refine dr_yes rfl rfl (less_b g4) rfl (ev_fieldAddr fo84_1 (lr _)) ?_
     refine dr_yes rfl rfl (less_b g4) rfl (ev_load (lr _) rfl ty3 rfl) ?_
     refine dr_yes rfl rfl (less_b g4) rfl (ev_call en89 (lr _) (in_pure _ _ _) ⟨lr _, lr _, lr _, trivial⟩) ?_
     refine dr_yes rfl rfl (less_b g4) rfl (ev_not (lr _)) ?_
     refine dr_ev rfl (ev_pickF (v := .raw _) (less_b g4) (lr _)) ?_
     refine dr_ev rfl (ev_mv (v := .raw _) (lr _)) ?_
     refine dr_split 44 (lr _) (fun g5 => ?_) (fun g5 => ?_)
     ·
      have g5' := g5
      try simp only [qq] at g5'
      refine dr_no rfl rfl (less_b g5) rfl rfl ?_
      refine dr_no rfl rfl (less_b g5) rfl rfl ?_
      refine dr_no rfl rfl (less_b g5) rfl rfl ?_
      refine dr_no rfl rfl (less_b g5) rfl rfl ?_
      refine dr_no rfl rfl (less_b g5) rfl rfl ?_
      refine dr_no rfl rfl (less_b g5) rfl rfl ?_
      refine dr_ev rfl (ev_pickT (v := .raw _) (less_b g5) (lr _)) ?_
      refine dr_ev rfl (ev_mv (v := .raw _) (lr _)) ?_
      refine dr_no rfl rfl (lr _) rfl rfl ?_
      refine dr_no rfl rfl (lr _) rfl rfl ?_
      refine dr_no rfl rfl (lr _) rfl rfl ?_
      refine dr_no rfl rfl (lr _) rfl rfl ?_
      refine dr_no rfl rfl (lr _) rfl rfl ?_
      refine dr_no rfl rfl (lr _) rfl rfl ?_
      refine dr_no rfl rfl (lr _) rfl rfl ?_
      refine dr_no rfl rfl (lr _) rfl rfl ?_
      refine dr_ev rfl (ev_pickT (v := .raw _) (lr _) (lr _)) ?_
      refine dr_ev rfl (ev_mv (v := .raw _) (lr _)) ?_
      refine dr_no rfl rfl (lr _) rfl rfl ?_
      refine dr_no rfl rfl (lr _) rfl rfl ?_
      refine dr_no rfl rfl (lr _) rfl rfl ?_
      refine dr_no rfl rfl (lr _) rfl rfl ?_
      refine dr_ev rfl (ev_pickT (v := .raw _) (lr _) (lr _)) ?_
      refine dr_end (sq_nil ?_)
      refine aw_true (lr _) ?_
      refine aw_seq (aw_region ?_)
      refine asr (lr _) rfl ?_
      refine sq_nil (aw_ret ?_)
      exact retQ_pure (v := .raw _) rfl rfl (Less.eq (by rw [scOK_bad (i := k) (by omega) (by simp [scBad, *])]))
     ·
      have g5' := g5
      try simp only [qq] at g5'
      refine dr_yes rfl rfl (less_b g5) rfl (ev_fieldAddr fo84_2 (lr _)) ?_
      refine dr_yes rfl rfl (less_b g5) rfl (ev_load (lr _) rfl ty3 rfl) ?_
      refine dr_yes rfl rfl (less_b g5) rfl (ev_fieldAddr fo84_1 (lr _)) ?_
      refine dr_yes rfl rfl (less_b g5) rfl (ev_load (lr _) rfl ty3 rfl) ?_
      refine dr_yes rfl rfl (less_b g5) rfl (ev_call en89 (lr _) (in_pure _ _ _) ⟨lr _, lr _, lr _, trivial⟩) ?_
      refine dr_yes rfl rfl (less_b g5) rfl (ev_not (lr _)) ?_
      refine dr_ev rfl (ev_pickF (v := .raw _) (less_b g5) (lr _)) ?_
      refine dr_ev rfl (ev_mv (v := .raw _) (lr _)) ?_
      refine dr_split 52 (lr _) (fun g6 => ?_) (fun g6 => ?_)
      ·
       have g6' := g6
       try simp only [qq] at g6'
       refine dr_no rfl rfl (less_b g6) rfl rfl ?_
       refine dr_no rfl rfl (less_b g6) rfl rfl ?_
       refine dr_no rfl rfl (less_b g6) rfl rfl ?_
       refine dr_no rfl rfl (less_b g6) rfl rfl ?_
       refine dr_no rfl rfl (less_b g6) rfl rfl ?_
       refine dr_no rfl rfl (less_b g6) rfl rfl ?_
       refine dr_no rfl rfl (less_b g6) rfl rfl ?_
       refine dr_no rfl rfl (less_b g6) rfl rfl ?_
       refine dr_ev rfl (ev_pickT (v := .raw _) (less_b g6) (lr _)) ?_
       refine dr_ev rfl (ev_mv (v := .raw _) (lr _)) ?_
       refine dr_no rfl rfl (lr _) rfl rfl ?_
       refine dr_no rfl rfl (lr _) rfl rfl ?_
       refine dr_no rfl rfl (lr _) rfl rfl ?_
       refine dr_no rfl rfl (lr _) rfl rfl ?_
       refine dr_ev rfl (ev_pickT (v := .raw _) (lr _) (lr _)) ?_
       refine dr_end (sq_nil ?_)
       refine aw_true (lr _) ?_
       refine aw_seq (aw_region ?_)
       refine asr (lr _) rfl ?_
       refine sq_nil (aw_ret ?_)
       exact retQ_pure (v := .raw _) rfl rfl (Less.eq (by rw [scOK_bad (i := k) (by omega) (by simp [scBad, *])]))
      ·
       have g6' := g6
       try simp only [qq] at g6'
       refine dr_yes rfl rfl (less_b g6) rfl (ev_fieldAddr fo84_4 (lr _)) ?_
       refine dr_yes rfl rfl (less_b g6) rfl (ev_load (lr _) rfl ty3 rfl) ?_
       refine dr_yes rfl rfl (less_b g6) rfl (ev_fieldAddr fo27_3 (lr _)) ?_
       refine dr_yes rfl rfl (less_b g6) rfl (ev_load (lr _) rfl ty25 rfl) ?_
       refine dr_yes rfl rfl (less_b g6) rfl (ev_len_map sl25 (lr _)) ?_
       refine dr_yes rfl rfl (less_b g6) rfl (ev_sub (lr _) (lr _) (wr (by omega) (by omega))) ?_
       refine dr_yes rfl rfl (less_b g6) rfl (ev_call en89 (lr _) (in_pure _ _ _) ⟨lr _, lr _, lr _, trivial⟩) ?_
       refine dr_yes rfl rfl (less_b g6) rfl (ev_not (lr _)) ?_
       refine dr_ev rfl (ev_pickF (v := .raw _) (less_b g6) (lr _)) ?_
       refine dr_ev rfl (ev_mv (v := .raw _) (lr _)) ?_
       refine dr_split 62 (lr _) (fun g7 => ?_) (fun g7 => ?_)
       ·
        have g7' := g7
        try simp only [qq] at g7'
        refine dr_no rfl rfl (less_b g7) rfl rfl ?_
        refine dr_no rfl rfl (less_b g7) rfl rfl ?_
        refine dr_no rfl rfl (less_b g7) rfl rfl ?_
        refine dr_no rfl rfl (less_b g7) rfl rfl ?_
        refine dr_ev rfl (ev_pickT (v := .raw _) (less_b g7) (lr _)) ?_
        refine dr_end (sq_nil ?_)
        refine aw_true (lr _) ?_
        refine aw_seq (aw_region ?_)
        refine asr (lr _) rfl ?_
        refine sq_nil (aw_ret ?_)
        exact retQ_pure (v := .raw _) rfl rfl (Less.eq (by rw [scOK_bad (i := k) (by omega) (by simp [scBad, *])]))
       ·
        have g7' := g7
        try simp only [qq] at g7'
        refine dr_yes rfl rfl (less_b g7) rfl (ev_fieldAddr fo84_4 (lr _)) ?_
        refine dr_yes rfl rfl (less_b g7) rfl (ev_load (lr _) rfl ty3 rfl) ?_
        refine dr_yes rfl rfl (less_b g7) rfl (ev_mv (v := .raw _) (lr _)) ?_
        refine dr_yes rfl rfl (less_b g7) rfl (ev_eql (lr _) (lr _)) ?_
        refine dr_ev rfl (ev_pickF (v := .raw _) (less_b g7) (lr _)) ?_
        refine dr_end (sq_nil ?_)
        refine aw_cond (lr _) (fun c8 => ?_) (fun c8 => ?_)
        ·
         have c8' := c8
         try simp only [qq] at c8'
         refine aw_seq (aw_region ?_)
         refine asr (lr _) rfl ?_
         refine sq_nil (aw_ret ?_)
         exact retQ_pure (v := .raw _) rfl rfl (Less.eq (by rw [scOK_bad (i := k) (by omega) (by simp [scBad, *])]))
        ·
         have c8' := c8
         try simp only [qq] at c8'
         refine aw_skip (aw_seq (aw_region ?_))
         refine sq_ev rfl (ev_fieldAddr fo84_3 (lr _)) ?_
         refine sq_ev rfl (ev_load (lr _) rfl ty4 rfl) ?_
         refine sq_nil ?_
         refine aw_cond (lr _) (fun c9 => ?_) (fun c9 => ?_)
         ·
          have c9' := c9
          try simp only [qq] at c9'
          refine aw_region ?_
          refine mvr (lr _) rfl ?_
          refine sq_ev rfl (ev_add (lr _) (lr _) (wr (by omega) (by omega))) ?_
          refine asr (lr _) rfl ?_
          refine sq_nil (aw_region ?_)
          refine mvr (lr _) rfl ?_
          refine sq_ev rfl (ev_add (lr _) (lr _) (wr (by omega) (by omega))) ?_
          refine asr (lr _) rfl ?_
          refine sq_nil ?_
          have hstep := loosies_take (l := p.scenes) (k := k) (by omega)
          have hgood : scBad p.scenes k (by omega) = false := by simp [scBad, *]
          exact ⟨⟨k + 1, by omega, fun i h hi => (by by_cases e : i = k; (subst e; exact hgood); exact hok i h (by omega))⟩, by simp only; omega, Sub.fin 1 ⟨less_int (by rw [hstep]; simp [*]), lr _, lr _, trivial⟩ rfl (by simp [slotsIn, objsIn, sget, keepS, AObj.inB, AV.inB, AV.inL, AV.inE, inE_map]) (by simp [slotsIn, objsIn, sget, keepS, AObj.inB, AV.inB, AV.inL, AV.inE, inE_map]) (by simp [he0])⟩
         ·
          have c9' := c9
          try simp only [qq] at c9'
          refine aw_skip (aw_region ?_)
          refine mvr (lr _) rfl ?_
          refine sq_ev rfl (ev_add (lr _) (lr _) (wr (by omega) (by omega))) ?_
          refine asr (lr _) rfl ?_
          refine sq_nil ?_
          have hstep := loosies_take (l := p.scenes) (k := k) (by omega)
          have hgood : scBad p.scenes k (by omega) = false := by simp [scBad, *]
          exact ⟨⟨k + 1, by omega, fun i h hi => (by by_cases e : i = k; (subst e; exact hgood); exact hok i h (by omega))⟩, by simp only; omega, Sub.fin 1 ⟨less_int (by rw [hstep]; simp [*]), lr _, lr _, trivial⟩ rfl (by simp [slotsIn, objsIn, sget, keepS, AObj.inB, AV.inB, AV.inL, AV.inE, inE_map]) (by simp [slotsIn, objsIn, sget, keepS, AObj.inB, AV.inB, AV.inL, AV.inE, inE_map]) (by simp [he0])⟩
   ·
    have g3' := g3
    try simp only [qq] at g3'
    have g3n : ¬ (0 < k) := by omega
    refine dr_no rfl rfl (less_b g3) rfl rfl ?_
    refine dr_no rfl rfl (less_b g3) rfl rfl ?_
    refine dr_no rfl rfl (less_b g3) rfl rfl ?_
    refine dr_no rfl rfl (less_b g3) rfl rfl ?_
    refine dr_no rfl rfl (less_b g3) rfl rfl ?_
    refine dr_no rfl rfl (less_b g3) rfl rfl ?_
    refine dr_no rfl rfl (less_b g3) rfl rfl ?_
    refine dr_no rfl rfl (less_b g3) rfl rfl ?_
    refine dr_no rfl rfl (less_b g3) rfl rfl ?_
    refine dr_no rfl rfl (less_b g3) rfl rfl ?_
    refine dr_yes rfl rfl (less_b g2) rfl (ev_pickF (v := .raw _) (less_b g3) (lr _)) ?_
    refine dr_ev rfl (ev_pickF (v := .raw _) (less_b g2) (lr _)) ?_
    refine dr_ev rfl (ev_mv (v := .raw _) (lr _)) ?_
    refine dr_yes rfl rfl (lr _) rfl (ev_fieldAddr fo84_1 (lr _)) ?_
    refine dr_yes rfl rfl (lr _) rfl (ev_load (lr _) rfl ty3 rfl) ?_
    refine dr_yes rfl rfl (lr _) rfl (ev_call en89 (lr _) (in_pure _ _ _) ⟨lr _, lr _, lr _, trivial⟩) ?_
    refine dr_yes rfl rfl (lr _) rfl (ev_not (lr _)) ?_
    refine dr_ev rfl (ev_pickF (v := .raw _) (lr _) (lr _)) ?_
    refine dr_ev rfl (ev_mv (v := .raw _) (lr _)) ?_
    refine dr_split 44 (lr _) (fun g10 => ?_) (fun g10 => ?_)
    ·
     have g10' := g10
     try simp only [qq] at g10'
     refine dr_no rfl rfl (less_b g10) rfl rfl ?_
     refine dr_no rfl rfl (less_b g10) rfl rfl ?_
     refine dr_no rfl rfl (less_b g10) rfl rfl ?_
     refine dr_no rfl rfl (less_b g10) rfl rfl ?_
     refine dr_no rfl rfl (less_b g10) rfl rfl ?_
     refine dr_no rfl rfl (less_b g10) rfl rfl ?_
     refine dr_ev rfl (ev_pickT (v := .raw _) (less_b g10) (lr _)) ?_
     refine dr_ev rfl (ev_mv (v := .raw _) (lr _)) ?_
     refine dr_no rfl rfl (lr _) rfl rfl ?_
     refine dr_no rfl rfl (lr _) rfl rfl ?_
     refine dr_no rfl rfl (lr _) rfl rfl ?_
     refine dr_no rfl rfl (lr _) rfl rfl ?_
     refine dr_no rfl rfl (lr _) rfl rfl ?_
     refine dr_no rfl rfl (lr _) rfl rfl ?_
     refine dr_no rfl rfl (lr _) rfl rfl ?_
     refine dr_no rfl rfl (lr _) rfl rfl ?_
     refine dr_ev rfl (ev_pickT (v := .raw _) (lr _) (lr _)) ?_
     refine dr_ev rfl (ev_mv (v := .raw _) (lr _)) ?_
     refine dr_no rfl rfl (lr _) rfl rfl ?_
     refine dr_no rfl rfl (lr _) rfl rfl ?_
     refine dr_no rfl rfl (lr _) rfl rfl ?_
     refine dr_no rfl rfl (lr _) rfl rfl ?_
     refine dr_ev rfl (ev_pickT (v := .raw _) (lr _) (lr _)) ?_
     refine dr_end (sq_nil ?_)
     refine aw_true (lr _) ?_
     refine aw_seq (aw_region ?_)
     refine asr (lr _) rfl ?_
     refine sq_nil (aw_ret ?_)
     exact retQ_pure (v := .raw _) rfl rfl (Less.eq (by rw [scOK_bad (i := k) (by omega) (by simp [scBad, *])]))
    ·
     have g10' := g10
     try simp only [qq] at g10'
     refine dr_yes rfl rfl (less_b g10) rfl (ev_fieldAddr fo84_2 (lr _)) ?_
     refine dr_yes rfl rfl (less_b g10) rfl (ev_load (lr _) rfl ty3 rfl) ?_
     refine dr_yes rfl rfl (less_b g10) rfl (ev_fieldAddr fo84_1 (lr _)) ?_
     refine dr_yes rfl rfl (less_b g10) rfl (ev_load (lr _) rfl ty3 rfl) ?_
     refine dr_yes rfl rfl (less_b g10) rfl (ev_call en89 (lr _) (in_pure _ _ _) ⟨lr _, lr _, lr _, trivial⟩) ?_
     refine dr_yes rfl rfl (less_b g10) rfl (ev_not (lr _)) ?_
     refine dr_ev rfl (ev_pickF (v := .raw _) (less_b g10) (lr _)) ?_
     refine dr_ev rfl (ev_mv (v := .raw _) (lr _)) ?_
     refine dr_split 52 (lr _) (fun g11 => ?_) (fun g11 => ?_)
     ·
      have g11' := g11
      try simp only [qq] at g11'
      refine dr_no rfl rfl (less_b g11) rfl rfl ?_
      refine dr_no rfl rfl (less_b g11) rfl rfl ?_
      refine dr_no rfl rfl (less_b g11) rfl rfl ?_
      refine dr_no rfl rfl (less_b g11) rfl rfl ?_
      refine dr_no rfl rfl (less_b g11) rfl rfl ?_
      refine dr_no rfl rfl (less_b g11) rfl rfl ?_
      refine dr_no rfl rfl (less_b g11) rfl rfl ?_
      refine dr_no rfl rfl (less_b g11) rfl rfl ?_
      refine dr_ev rfl (ev_pickT (v := .raw _) (less_b g11) (lr _)) ?_
      refine dr_ev rfl (ev_mv (v := .raw _) (lr _)) ?_
      refine dr_no rfl rfl (lr _) rfl rfl ?_
      refine dr_no rfl rfl (lr _) rfl rfl ?_
      refine dr_no rfl rfl (lr _) rfl rfl ?_
      refine dr_no rfl rfl (lr _) rfl rfl ?_
      refine dr_ev rfl (ev_pickT (v := .raw _) (lr _) (lr _)) ?_
      refine dr_end (sq_nil ?_)
      refine aw_true (lr _) ?_
      refine aw_seq (aw_region ?_)
      refine asr (lr _) rfl ?_
      refine sq_nil (aw_ret ?_)
      exact retQ_pure (v := .raw _) rfl rfl (Less.eq (by rw [scOK_bad (i := k) (by omega) (by simp [scBad, *])]))
     ·
      have g11' := g11
      try simp only [qq] at g11'
      refine dr_yes rfl rfl (less_b g11) rfl (ev_fieldAddr fo84_4 (lr _)) ?_
      refine dr_yes rfl rfl (less_b g11) rfl (ev_load (lr _) rfl ty3 rfl) ?_
      refine dr_yes rfl rfl (less_b g11) rfl (ev_fieldAddr fo27_3 (lr _)) ?_
      refine dr_yes rfl rfl (less_b g11) rfl (ev_load (lr _) rfl ty25 rfl) ?_
      refine dr_yes rfl rfl (less_b g11) rfl (ev_len_map sl25 (lr _)) ?_
      refine dr_yes rfl rfl (less_b g11) rfl (ev_sub (lr _) (lr _) (wr (by omega) (by omega))) ?_
      refine dr_yes rfl rfl (less_b g11) rfl (ev_call en89 (lr _) (in_pure _ _ _) ⟨lr _, lr _, lr _, trivial⟩) ?_
      refine dr_yes rfl rfl (less_b g11) rfl (ev_not (lr _)) ?_
      refine dr_ev rfl (ev_pickF (v := .raw _) (less_b g11) (lr _)) ?_
      refine dr_ev rfl (ev_mv (v := .raw _) (lr _)) ?_
      refine dr_split 62 (lr _) (fun g12 => ?_) (fun g12 => ?_)
      ·
       have g12' := g12
       try simp only [qq] at g12'
       refine dr_no rfl rfl (less_b g12) rfl rfl ?_
       refine dr_no rfl rfl (less_b g12) rfl rfl ?_
       refine dr_no rfl rfl (less_b g12) rfl rfl ?_
       refine dr_no rfl rfl (less_b g12) rfl rfl ?_
       refine dr_ev rfl (ev_pickT (v := .raw _) (less_b g12) (lr _)) ?_
       refine dr_end (sq_nil ?_)
       refine aw_true (lr _) ?_
       refine aw_seq (aw_region ?_)
       refine asr (lr _) rfl ?_
       refine sq_nil (aw_ret ?_)
       exact retQ_pure (v := .raw _) rfl rfl (Less.eq (by rw [scOK_bad (i := k) (by omega) (by simp [scBad, *])]))
      ·
       have g12' := g12
       try simp only [qq] at g12'
       refine dr_yes rfl rfl (less_b g12) rfl (ev_fieldAddr fo84_4 (lr _)) ?_
       refine dr_yes rfl rfl (less_b g12) rfl (ev_load (lr _) rfl ty3 rfl) ?_
       refine dr_yes rfl rfl (less_b g12) rfl (ev_mv (v := .raw _) (lr _)) ?_
       refine dr_yes rfl rfl (less_b g12) rfl (ev_eql (lr _) (lr _)) ?_
       refine dr_ev rfl (ev_pickF (v := .raw _) (less_b g12) (lr _)) ?_
       refine dr_end (sq_nil ?_)
       refine aw_cond (lr _) (fun c13 => ?_) (fun c13 => ?_)
       ·
        have c13' := c13
        try simp only [qq] at c13'
        refine aw_seq (aw_region ?_)
        refine asr (lr _) rfl ?_
        refine sq_nil (aw_ret ?_)
        exact retQ_pure (v := .raw _) rfl rfl (Less.eq (by rw [scOK_bad (i := k) (by omega) (by simp [scBad, *])]))
       ·
        have c13' := c13
        try simp only [qq] at c13'
        refine aw_skip (aw_seq (aw_region ?_))
        refine sq_ev rfl (ev_fieldAddr fo84_3 (lr _)) ?_
        refine sq_ev rfl (ev_load (lr _) rfl ty4 rfl) ?_
        refine sq_nil ?_
        refine aw_cond (lr _) (fun c14 => ?_) (fun c14 => ?_)
        ·
         have c14' := c14
         try simp only [qq] at c14'
         refine aw_region ?_
         refine mvr (lr _) rfl ?_
         refine sq_ev rfl (ev_add (lr _) (lr _) (wr (by omega) (by omega))) ?_
         refine asr (lr _) rfl ?_
         refine sq_nil (aw_region ?_)
         refine mvr (lr _) rfl ?_
         refine sq_ev rfl (ev_add (lr _) (lr _) (wr (by omega) (by omega))) ?_
         refine asr (lr _) rfl ?_
         refine sq_nil ?_
         have hstep := loosies_take (l := p.scenes) (k := k) (by omega)
         have hgood : scBad p.scenes k (by omega) = false := by simp [scBad, *]
         exact ⟨⟨k + 1, by omega, fun i h hi => (by by_cases e : i = k; (subst e; exact hgood); exact hok i h (by omega))⟩, by simp only; omega, Sub.fin 1 ⟨less_int (by rw [hstep]; simp [*]), lr _, lr _, trivial⟩ rfl (by simp [slotsIn, objsIn, sget, keepS, AObj.inB, AV.inB, AV.inL, AV.inE, inE_map]) (by simp [slotsIn, objsIn, sget, keepS, AObj.inB, AV.inB, AV.inL, AV.inE, inE_map]) (by simp [he0])⟩
        ·
         have c14' := c14
         try simp only [qq] at c14'
         refine aw_skip (aw_region ?_)
         refine mvr (lr _) rfl ?_
         refine sq_ev rfl (ev_add (lr _) (lr _) (wr (by omega) (by omega))) ?_
         refine asr (lr _) rfl ?_
         refine sq_nil ?_
         have hstep := loosies_take (l := p.scenes) (k := k) (by omega)
         have hgood : scBad p.scenes k (by omega) = false := by simp [scBad, *]
         exact ⟨⟨k + 1, by omega, fun i h hi => (by by_cases e : i = k; (subst e; exact hgood); exact hok i h (by omega))⟩, by simp only; omega, Sub.fin 1 ⟨less_int (by rw [hstep]; simp [*]), lr _, lr _, trivial⟩ rfl (by simp [slotsIn, objsIn, sget, keepS, AObj.inB, AV.inB, AV.inL, AV.inE, inE_map]) (by simp [slotsIn, objsIn, sget, keepS, AObj.inB, AV.inB, AV.inL, AV.inE, inE_map]) (by simp [he0])⟩
 ·
  have c1' := c1
  try simp only [qq] at c1'
  refine aw_exit (aw_seq (aw_region ?_))
  refine mvr (lr _) rfl ?_
  refine sq_ev rfl (ev_leq (lr _) (lr _)) ?_
  refine asr (lr _) rfl ?_
  refine sq_nil (aw_ret ?_)
  exact retQ_pure (v := .raw _) rfl rfl (Less.eq (by rw [scOK_end hk c1' hok]))

set_option maxHeartbeats 1000000 in
/-- kelir/kelirref03.Plan -/
theorem plan_pure (p : Pl) (hl : p.scenes.length ≤ 1000000) : APure Tryz.prog 24 [plan p] (B (PlOK p)) := by
 refine apure_of (rs := [.tmp 2]) Tryz.func24 rfl rfl (Nat.le_of_ble_eq_true rfl) (by simp [AV.pureL, AV.pureB, AV.pureE, pureE_map]) (rfl) fun e0 he0 => ?_
 refine aw_seq (aw_region ?_)
 refine sq_box rfl (lr _) rfl ?_
 refine asr (lr _) rfl ?_
 refine sq_nil (aw_seq (aw_region ?_))
 refine sq_ev rfl (ev_fieldAddr fo27_0 (lr _)) ?_
 refine sq_ev rfl (ev_load (lr _) rfl ty3 rfl) ?_
 refine sq_ev rfl (ev_call en89 (lr _) (in_pure _ _ _) ⟨lr _, lr _, lr _, trivial⟩) ?_
 refine mvr (lr _) rfl ?_
 refine sq_split 6 (lr _) (fun g1 => ?_) (fun g1 => ?_)
 ·
  have g1' := g1
  try simp only [qq] at g1'
  refine sq_yes rfl rfl (less_b g1) rfl (ev_fieldAddr fo27_1 (lr _)) ?_
  refine sq_yes rfl rfl (less_b g1) rfl (ev_index_box ar24 (lr _) (lr _) rfl (by decide)) ?_
  refine sq_yes rfl rfl (less_b g1) rfl (ev_load_agg (lr _) rfl ty23 rfl) ?_
  refine sq_yes rfl rfl (less_b g1) rfl (ev_call en90 (lr _) (window_pure _ _) ⟨lr _, trivial⟩) ?_
  refine sq_ev rfl (ev_pickT (v := .raw _) (less_b g1) (lr _)) ?_
  refine mvr (lr _) rfl ?_
  refine sq_split 12 (lr _) (fun g2 => ?_) (fun g2 => ?_)
  ·
   have g2' := g2
   try simp only [qq] at g2'
   refine sq_yes rfl rfl (less_b g2) rfl (ev_fieldAddr fo27_1 (lr _)) ?_
   refine sq_yes rfl rfl (less_b g2) rfl (ev_index_box ar24 (lr _) (lr _) rfl (by decide)) ?_
   refine sq_yes rfl rfl (less_b g2) rfl (ev_load_agg (lr _) rfl ty23 rfl) ?_
   refine sq_yes rfl rfl (less_b g2) rfl (ev_call en90 (lr _) (window_pure _ _) ⟨lr _, trivial⟩) ?_
   refine sq_ev rfl (ev_pickT (v := .raw _) (less_b g2) (lr _)) ?_
   refine mvr (lr _) rfl ?_
   refine sq_split 18 (lr _) (fun g3 => ?_) (fun g3 => ?_)
   ·
    have g3' := g3
    try simp only [qq] at g3'
    refine sq_yes rfl rfl (less_b g3) rfl (ev_fieldAddr fo27_2 (lr _)) ?_
    refine sq_yes rfl rfl (less_b g3) rfl (ev_load_agg (lr _) rfl ty23 rfl) ?_
    refine sq_yes rfl rfl (less_b g3) rfl (ev_call en90 (lr _) (window_pure _ _) ⟨lr _, trivial⟩) ?_
    refine sq_ev rfl (ev_pickT (v := .raw _) (less_b g3) (lr _)) ?_
    refine mvr (lr _) rfl ?_
    refine sq_split 23 (lr _) (fun g4 => ?_) (fun g4 => ?_)
    ·
     have g4' := g4
     try simp only [qq] at g4'
     refine sq_yes rfl rfl (less_b g4) rfl (ev_fieldAddr fo27_3 (lr _)) ?_
     refine sq_yes rfl rfl (less_b g4) rfl (ev_load (lr _) rfl ty25 rfl) ?_
     refine sq_yes rfl rfl (less_b g4) rfl (ev_len_map sl25 (lr _)) ?_
     refine sq_yes rfl rfl (less_b g4) rfl (ev_call en89 (lr _) (in_pure _ _ _) ⟨lr _, lr _, lr _, trivial⟩) ?_
     refine sq_ev rfl (ev_pickT (v := .raw _) (less_b g4) (lr _)) ?_
     refine mvr (lr _) rfl ?_
     refine sq_split 29 (lr _) (fun g5 => ?_) (fun g5 => ?_)
     ·
      have g5' := g5
      try simp only [qq] at g5'
      refine sq_yes rfl rfl (less_b g5) rfl (ev_load_agg (lr _) rfl ty27 rfl) ?_
      refine sq_yes rfl rfl (less_b g5) rfl (ev_call en91 (lr _) (scenes_pure _ hl) ⟨lr _, trivial⟩) ?_
      refine sq_ev rfl (ev_pickT (v := .raw _) (less_b g5) (lr _)) ?_
      refine asr (lr _) rfl ?_
      refine sq_nil (aw_ret ?_)
      exact retQ_pure (v := .raw _) rfl rfl (Less.eq (by simp [PlOK, *]))
     ·
      have g5' := g5
      try simp only [qq] at g5'
      refine sq_no rfl rfl (less_b g5) rfl rfl ?_
      refine sq_no rfl rfl (less_b g5) rfl rfl ?_
      refine sq_ev rfl (ev_pickF (v := .raw _) (less_b g5) (lr _)) ?_
      refine asr (lr _) rfl ?_
      refine sq_nil (aw_ret ?_)
      exact retQ_pure (v := .raw _) rfl rfl (Less.eq (by simp [PlOK, *]))
    ·
     have g4' := g4
     try simp only [qq] at g4'
     refine sq_no rfl rfl (less_b g4) rfl rfl ?_
     refine sq_no rfl rfl (less_b g4) rfl rfl ?_
     refine sq_no rfl rfl (less_b g4) rfl rfl ?_
     refine sq_no rfl rfl (less_b g4) rfl rfl ?_
     refine sq_ev rfl (ev_pickF (v := .raw _) (less_b g4) (lr _)) ?_
     refine mvr (lr _) rfl ?_
     refine sq_no rfl rfl (lr _) rfl rfl ?_
     refine sq_no rfl rfl (lr _) rfl rfl ?_
     refine sq_ev rfl (ev_pickF (v := .raw _) (lr _) (lr _)) ?_
     refine asr (lr _) rfl ?_
     refine sq_nil (aw_ret ?_)
     exact retQ_pure (v := .raw _) rfl rfl (Less.eq (by simp [PlOK, *]))
   ·
    have g3' := g3
    try simp only [qq] at g3'
    refine sq_no rfl rfl (less_b g3) rfl rfl ?_
    refine sq_no rfl rfl (less_b g3) rfl rfl ?_
    refine sq_no rfl rfl (less_b g3) rfl rfl ?_
    refine sq_ev rfl (ev_pickF (v := .raw _) (less_b g3) (lr _)) ?_
    refine mvr (lr _) rfl ?_
    refine sq_no rfl rfl (lr _) rfl rfl ?_
    refine sq_no rfl rfl (lr _) rfl rfl ?_
    refine sq_no rfl rfl (lr _) rfl rfl ?_
    refine sq_no rfl rfl (lr _) rfl rfl ?_
    refine sq_ev rfl (ev_pickF (v := .raw _) (lr _) (lr _)) ?_
    refine mvr (lr _) rfl ?_
    refine sq_no rfl rfl (lr _) rfl rfl ?_
    refine sq_no rfl rfl (lr _) rfl rfl ?_
    refine sq_ev rfl (ev_pickF (v := .raw _) (lr _) (lr _)) ?_
    refine asr (lr _) rfl ?_
    refine sq_nil (aw_ret ?_)
    exact retQ_pure (v := .raw _) rfl rfl (Less.eq (by simp [PlOK, *]))
  ·
   have g2' := g2
   try simp only [qq] at g2'
   refine sq_no rfl rfl (less_b g2) rfl rfl ?_
   refine sq_no rfl rfl (less_b g2) rfl rfl ?_
   refine sq_no rfl rfl (less_b g2) rfl rfl ?_
   refine sq_no rfl rfl (less_b g2) rfl rfl ?_
   refine sq_ev rfl (ev_pickF (v := .raw _) (less_b g2) (lr _)) ?_
   refine mvr (lr _) rfl ?_
   refine sq_no rfl rfl (lr _) rfl rfl ?_
   refine sq_no rfl rfl (lr _) rfl rfl ?_
   refine sq_no rfl rfl (lr _) rfl rfl ?_
   refine sq_ev rfl (ev_pickF (v := .raw _) (lr _) (lr _)) ?_
   refine mvr (lr _) rfl ?_
   refine sq_no rfl rfl (lr _) rfl rfl ?_
   refine sq_no rfl rfl (lr _) rfl rfl ?_
   refine sq_no rfl rfl (lr _) rfl rfl ?_
   refine sq_no rfl rfl (lr _) rfl rfl ?_
   refine sq_ev rfl (ev_pickF (v := .raw _) (lr _) (lr _)) ?_
   refine mvr (lr _) rfl ?_
   refine sq_no rfl rfl (lr _) rfl rfl ?_
   refine sq_no rfl rfl (lr _) rfl rfl ?_
   refine sq_ev rfl (ev_pickF (v := .raw _) (lr _) (lr _)) ?_
   refine asr (lr _) rfl ?_
   refine sq_nil (aw_ret ?_)
   exact retQ_pure (v := .raw _) rfl rfl (Less.eq (by simp [PlOK, *]))
 ·
  have g1' := g1
  try simp only [qq] at g1'
  refine sq_no rfl rfl (less_b g1) rfl rfl ?_
  refine sq_no rfl rfl (less_b g1) rfl rfl ?_
  refine sq_no rfl rfl (less_b g1) rfl rfl ?_
  refine sq_no rfl rfl (less_b g1) rfl rfl ?_
  refine sq_ev rfl (ev_pickF (v := .raw _) (less_b g1) (lr _)) ?_
  refine mvr (lr _) rfl ?_
  refine sq_no rfl rfl (lr _) rfl rfl ?_
  refine sq_no rfl rfl (lr _) rfl rfl ?_
  refine sq_no rfl rfl (lr _) rfl rfl ?_
  refine sq_no rfl rfl (lr _) rfl rfl ?_
  refine sq_ev rfl (ev_pickF (v := .raw _) (lr _) (lr _)) ?_
  refine mvr (lr _) rfl ?_
  refine sq_no rfl rfl (lr _) rfl rfl ?_
  refine sq_no rfl rfl (lr _) rfl rfl ?_
  refine sq_no rfl rfl (lr _) rfl rfl ?_
  refine sq_ev rfl (ev_pickF (v := .raw _) (lr _) (lr _)) ?_
  refine mvr (lr _) rfl ?_
  refine sq_no rfl rfl (lr _) rfl rfl ?_
  refine sq_no rfl rfl (lr _) rfl rfl ?_
  refine sq_no rfl rfl (lr _) rfl rfl ?_
  refine sq_no rfl rfl (lr _) rfl rfl ?_
  refine sq_ev rfl (ev_pickF (v := .raw _) (lr _) (lr _)) ?_
  refine mvr (lr _) rfl ?_
  refine sq_no rfl rfl (lr _) rfl rfl ?_
  refine sq_no rfl rfl (lr _) rfl rfl ?_
  refine sq_ev rfl (ev_pickF (v := .raw _) (lr _) (lr _)) ?_
  refine asr (lr _) rfl ?_
  refine sq_nil (aw_ret ?_)
  exact retQ_pure (v := .raw _) rfl rfl (Less.eq (by simp [PlOK, *]))

set_option maxHeartbeats 400000 in
/-- kelir/kelirref03.Scene -/
theorem scene_pure (p : Pl) (n : Int) (hl : p.scenes.length ≤ 1000000) : APure Tryz.prog 35 [plan p, I n] (B (isSc p n)) := by
 refine apure_of (rs := [.tmp 4]) Tryz.func35 rfl rfl (Nat.le_of_ble_eq_true rfl) (by simp [AV.pureL, AV.pureB, AV.pureE, pureE_map]) (rfl) fun e0 he0 => ?_
 refine aw_seq (aw_region ?_)
 refine sq_box rfl (lr _) rfl ?_
 refine asr (lr _) rfl ?_
 refine sq_nil (aw_seq (aw_region ?_))
 refine mvr (lr _) rfl ?_
 refine sq_ev rfl (ev_fieldAddr fo27_3 (lr _)) ?_
 refine sq_ev rfl (ev_load (lr _) rfl ty25 rfl) ?_
 refine sq_ev rfl (ev_len_map sl25 (lr _)) ?_
 refine sq_ev rfl (ev_sub (lr _) (lr _) (wr (by omega) (by omega))) ?_
 refine sq_ev rfl (ev_call en89 (lr _) (in_pure _ _ _) ⟨lr _, lr _, lr _, trivial⟩) ?_
 refine asr (lr _) rfl ?_
 refine sq_nil (aw_ret ?_)
 exact retQ_pure (v := .raw _) rfl rfl (Less.eq (by simp [isSc]))

set_option maxHeartbeats 400000 in
/-- kelir/kelirref03.Has -/
theorem has_pure (l : List Int) (n : Int) (hl : l.length ≤ 1000000) : APure Tryz.prog 62 [ints l, I n] (B (has l n)) := by
 refine apure_of (rs := [.tmp 4]) Tryz.func62 rfl rfl (Nat.le_of_ble_eq_true rfl) (by simp [AV.pureL, AV.pureB, AV.pureE, pureE_map]) (rfl) fun e0 he0 => ?_
 refine aw_seq (aw_region ?_)
 refine asr (lr _) rfl ?_
 refine sq_nil (aw_seq (aw_seq (aw_region ?_)))
 refine asr (lr _) rfl ?_
 refine sq_nil (aw_block ?_)
 refine aw_loopk (ι := { k : Nat // k ≤ l.length ∧ ∀ j, (h : j < l.length) → j < k → l[j] ≠ n }) [0, 1] (fun i => [(5, I i.1)]) (fun H i => H) (fun i => l.length - i.1) (⟨0, Nat.zero_le _, by omega⟩) ⟨lr _, lr _, lr _, trivial⟩ rfl ?_
 rintro ⟨k, hk, hok⟩
 dsimp only [keepS, St.put, sget, slotsOf, List.map_cons, List.map_nil, List.cons_append, List.nil_append, List.length_cons, List.length_nil, Nat.reduceBEq, Nat.reduceAdd, cond_true, cond_false]
 refine aw_seq (aw_seq (aw_region ?_))
 refine mvr (lr _) rfl ?_
 refine sq_ev rfl (ev_mv (v := .sl _ _) (lr _)) ?_
 refine sq_ev rfl (ev_len_map sl34 (lr _)) ?_
 refine sq_ev rfl (ev_lss (lr _) (lr _)) ?_
 refine sq_nil ?_
 refine aw_cond (lr _) (fun c1 => ?_) (fun c1 => ?_)
 ·
  have c1' := c1
  try simp only [qq] at c1'
  refine aw_skip (aw_seq (aw_block (aw_seq (aw_region ?_))))
  refine sq_ev rfl (ev_mv (v := .sl _ _) (lr _)) ?_
  refine mvr (lr _) rfl ?_
  refine sq_ev rfl (ev_index_map sl34 (lr _) (lr _) rfl (by omega)) ?_
  refine sq_ev rfl (ev_load_i (lr _) ty3 rfl) ?_
  refine mvr (lr _) rfl ?_
  refine sq_ev rfl (ev_eql (lr _) (lr _)) ?_
  refine sq_nil ?_
  refine aw_cond (lr _) (fun c2 => ?_) (fun c2 => ?_)
  ·
   have c2' := c2
   try simp only [qq] at c2'
   refine aw_seq (aw_region ?_)
   refine asr (lr _) rfl ?_
   refine sq_nil (aw_ret ?_)
   exact retQ_pure (v := .raw _) rfl rfl (Less.eq (by rw [has_yes (k := k) (by omega) c2']))
  ·
   have c2' := c2
   try simp only [qq] at c2'
   refine aw_skip (aw_region ?_)
   refine mvr (lr _) rfl ?_
   refine sq_ev rfl (ev_add (lr _) (lr _) (wr (by omega) (by omega))) ?_
   refine asr (lr _) rfl ?_
   refine sq_nil ?_
   exact ⟨⟨k + 1, by omega, fun j h hj => (by by_cases e : j = k; (subst e; exact c2'); exact hok j h (by omega))⟩, by simp only; omega, Sub.slots ⟨lr _, lr _, lr _, trivial⟩⟩
 ·
  have c1' := c1
  try simp only [qq] at c1'
  refine aw_exit (aw_seq (aw_region ?_))
  refine asr (lr _) rfl ?_
  refine sq_nil (aw_ret ?_)
  exact retQ_pure (v := .raw _) rfl rfl (Less.eq (by rw [has_no c1' hok]))

set_option maxHeartbeats 1000000 in
/-- kelir/kelirref03.Rising -/
theorem rising_pure (p : Pl) (l : List Int) (hp : p.scenes.length ≤ 1000000) (hl : l.length ≤ 1000000) : APure Tryz.prog 77 [plan p, ints l] (B (Ris p l)) := by
 refine apure_of (rs := [.tmp 4]) Tryz.func77 rfl rfl (Nat.le_of_ble_eq_true rfl) (by simp [AV.pureL, AV.pureB, AV.pureE, pureE_map]) (rfl) fun e0 he0 => ?_
 refine aw_seq (aw_region ?_)
 refine sq_box rfl (lr _) rfl ?_
 refine asr (lr _) rfl ?_
 refine sq_nil (aw_seq (aw_seq (aw_region ?_)))
 refine asr (lr _) rfl ?_
 refine sq_nil (aw_block ?_)
 refine aw_loopk (ι := { k : Nat // k ≤ l.length ∧ ∀ i, (h : i < l.length) → i < k → risBad p l i h = false }) [1, 2] (fun i => [(5, I i.1)]) (fun H i => H) (fun i => l.length - i.1) (⟨0, Nat.zero_le _, by omega⟩) ⟨lr _, lr _, lr _, trivial⟩ rfl ?_
 rintro ⟨k, hk, hok⟩
 dsimp only [keepS, St.put, sget, slotsOf, List.map_cons, List.map_nil, List.cons_append, List.nil_append, List.length_cons, List.length_nil, Nat.reduceBEq, Nat.reduceAdd, cond_true, cond_false]
 refine aw_seq (aw_seq (aw_region ?_))
 refine mvr (lr _) rfl ?_
 refine sq_ev rfl (ev_mv (v := .sl _ _) (lr _)) ?_
 refine sq_ev rfl (ev_len_map sl34 (lr _)) ?_
 refine sq_ev rfl (ev_lss (lr _) (lr _)) ?_
 refine sq_nil ?_
 refine aw_cond (lr _) (fun c1 => ?_) (fun c1 => ?_)
 ·
  have c1' := c1
  try simp only [qq] at c1'
  refine aw_skip (aw_seq (aw_block (aw_seq ?_)))
  refine aw_draw 23 mo (by kernel_rfl) ?_
  refine dr_ev rfl (ev_load_agg (lr _) rfl ty27 rfl) ?_
  refine dr_ev rfl (ev_mv (v := .sl _ _) (lr _)) ?_
  refine dr_ev rfl (ev_mv (v := .raw _) (lr _)) ?_
  refine dr_ev rfl (ev_index_map sl34 (lr _) (lr _) rfl (by omega)) ?_
  refine dr_ev rfl (ev_load_i (lr _) ty3 rfl) ?_
  refine dr_ev rfl (ev_call en35 (lr _) (scene_pure _ _ hp) ⟨lr _, lr _, trivial⟩) ?_
  refine dr_ev rfl (ev_not (lr _)) ?_
  refine dr_ev rfl (ev_mv (v := .raw _) (lr _)) ?_
  refine dr_split 19 (lr _) (fun g2 => ?_) (fun g2 => ?_)
  ·
   have g2' := g2
   try simp only [qq] at g2'
   refine dr_no rfl rfl (less_b g2) rfl rfl ?_
   refine dr_no rfl rfl (less_b g2) rfl rfl ?_
   refine dr_no rfl rfl (less_b g2) rfl rfl ?_
   refine dr_no rfl rfl (lr _) rfl rfl ?_
   refine dr_no rfl rfl (lr _) rfl rfl ?_
   refine dr_no rfl rfl (lr _) rfl rfl ?_
   refine dr_no rfl rfl (lr _) rfl rfl ?_
   refine dr_no rfl rfl (lr _) rfl rfl ?_
   refine dr_no rfl rfl (lr _) rfl rfl ?_
   refine dr_no rfl rfl (lr _) rfl rfl ?_
   refine dr_no rfl rfl (lr _) rfl rfl ?_
   refine dr_no rfl rfl (lr _) rfl rfl ?_
   refine dr_no rfl rfl (lr _) rfl rfl ?_
   refine dr_no rfl rfl (less_b g2) rfl rfl ?_
   refine dr_ev rfl (ev_pickT (v := .raw _) (less_b g2) (lr _)) ?_
   refine dr_end (sq_nil ?_)
   refine aw_true (lr _) ?_
   refine aw_seq (aw_region ?_)
   refine asr (lr _) rfl ?_
   refine sq_nil (aw_ret ?_)
   exact retQ_pure (v := .raw _) rfl rfl (Less.eq (by rw [Ris, okAll_bad (i := k) (by omega) (by first | (simp [risBad, *]; done) | (simp_all [risBad]; done))]))
  ·
   have g2' := g2
   try simp only [qq] at g2'
   refine dr_yes rfl rfl (less_b g2) rfl (ev_mv (v := .raw _) (lr _)) ?_
   refine dr_yes rfl rfl (less_b g2) rfl (ev_gtr (lr _) (lr _)) ?_
   refine dr_yes rfl rfl (less_b g2) rfl (ev_mv (v := .raw _) (lr _)) ?_
   refine dr_split 22 (lr _) (fun g3 => ?_) (fun g3 => ?_)
   ·
    have g3' := g3
    try simp only [qq] at g3'
    have g3n : 0 < k := by omega
    refine dr_yes rfl rfl (less_b g3) rfl (ev_mv (v := .sl _ _) (lr _)) ?_
    refine dr_yes rfl rfl (less_b g3) rfl (ev_mv (v := .raw _) (lr _)) ?_
    refine dr_yes rfl rfl (less_b g3) rfl (ev_index_map sl34 (lr _) (lr _) rfl (by omega)) ?_
    refine dr_yes rfl rfl (less_b g3) rfl (ev_load_i (lr _) ty3 rfl) ?_
    refine dr_yes rfl rfl (less_b g3) rfl (ev_mv (v := .sl _ _) (lr _)) ?_
    refine dr_yes rfl rfl (less_b g3) rfl (ev_mv (v := .raw _) (lr _)) ?_
    refine dr_yes rfl rfl (less_b g3) rfl (ev_sub (lr _) (lr _) (wr (by omega) (by omega))) ?_
    refine dr_yes rfl rfl (less_b g3) rfl (ev_index_map sl34 (lr _) (lr _) (show ((k : Int) - 1) = ((k - 1 : Nat) : Int) by omega) (by omega)) ?_
    refine dr_yes rfl rfl (less_b g3) rfl (ev_load_i (lr _) ty3 rfl) ?_
    refine dr_yes rfl rfl (less_b g3) rfl (ev_leq (lr _) (lr _)) ?_
    refine dr_yes rfl rfl (less_b g2) rfl (ev_pickT (v := .raw _) (less_b g3) (lr _)) ?_
    refine dr_ev rfl (ev_pickF (v := .raw _) (less_b g2) (lr _)) ?_
    refine dr_end (sq_nil ?_)
    refine aw_cond (lr _) (fun c4 => ?_) (fun c4 => ?_)
    ·
     have c4' := c4
     try simp only [qq] at c4'
     refine aw_seq (aw_region ?_)
     refine asr (lr _) rfl ?_
     refine sq_nil (aw_ret ?_)
     exact retQ_pure (v := .raw _) rfl rfl (Less.eq (by rw [Ris, okAll_bad (i := k) (by omega) (by first | (simp [risBad, *]; done) | (simp_all [risBad]; done))]))
    ·
     have c4' := c4
     try simp only [qq] at c4'
     refine aw_skip (aw_region ?_)
     refine mvr (lr _) rfl ?_
     refine sq_ev rfl (ev_add (lr _) (lr _) (wr (by omega) (by omega))) ?_
     refine asr (lr _) rfl ?_
     refine sq_nil ?_
     have hgood : risBad p l k (by omega) = false := by first | (simp [risBad, *]; done) | (simp_all [risBad]; done)
     exact ⟨⟨k + 1, by omega, fun i h hi => (by by_cases e : i = k; (subst e; exact hgood); exact hok i h (by omega))⟩, by simp only; omega, Sub.fin 1 ⟨lr _, lr _, lr _, trivial⟩ rfl (by simp [slotsIn, objsIn, sget, keepS, AObj.inB, AV.inB, AV.inL, AV.inE, inE_map]) (by simp [slotsIn, objsIn, sget, keepS, AObj.inB, AV.inB, AV.inL, AV.inE, inE_map]) (by simp [he0])⟩
   ·
    have g3' := g3
    try simp only [qq] at g3'
    have g3n : ¬ (0 < k) := by omega
    refine dr_no rfl rfl (less_b g3) rfl rfl ?_
    refine dr_no rfl rfl (less_b g3) rfl rfl ?_
    refine dr_no rfl rfl (less_b g3) rfl rfl ?_
    refine dr_no rfl rfl (less_b g3) rfl rfl ?_
    refine dr_no rfl rfl (less_b g3) rfl rfl ?_
    refine dr_no rfl rfl (less_b g3) rfl rfl ?_
    refine dr_no rfl rfl (less_b g3) rfl rfl ?_
    refine dr_no rfl rfl (less_b g3) rfl rfl ?_
    refine dr_no rfl rfl (less_b g3) rfl rfl ?_
    refine dr_no rfl rfl (less_b g3) rfl rfl ?_
    refine dr_yes rfl rfl (less_b g2) rfl (ev_pickF (v := .raw _) (less_b g3) (lr _)) ?_
    refine dr_ev rfl (ev_pickF (v := .raw _) (less_b g2) (lr _)) ?_
    refine dr_end (sq_nil ?_)
    refine aw_false (lr _) ?_
    refine aw_skip (aw_region ?_)
    refine mvr (lr _) rfl ?_
    refine sq_ev rfl (ev_add (lr _) (lr _) (wr (by omega) (by omega))) ?_
    refine asr (lr _) rfl ?_
    refine sq_nil ?_
    have hgood : risBad p l k (by omega) = false := by first | (simp [risBad, *]; done) | (simp_all [risBad]; done)
    exact ⟨⟨k + 1, by omega, fun i h hi => (by by_cases e : i = k; (subst e; exact hgood); exact hok i h (by omega))⟩, by simp only; omega, Sub.fin 1 ⟨lr _, lr _, lr _, trivial⟩ rfl (by simp [slotsIn, objsIn, sget, keepS, AObj.inB, AV.inB, AV.inL, AV.inE, inE_map]) (by simp [slotsIn, objsIn, sget, keepS, AObj.inB, AV.inB, AV.inL, AV.inE, inE_map]) (by simp [he0])⟩
 ·
  have c1' := c1
  try simp only [qq] at c1'
  refine aw_exit (aw_seq (aw_region ?_))
  refine asr (lr _) rfl ?_
  refine sq_nil (aw_ret ?_)
  exact retQ_pure (v := .raw _) rfl rfl (Less.eq (by rw [Ris, okAll_end hk c1' hok]))

set_option maxHeartbeats 2000000 in
/-- kelir/kelirref03.Choice -/
theorem choice_pure (p : Pl) (l : List Int) (hp : p.scenes.length ≤ 1000000) (hl : l.length ≤ 1000000) : APure Tryz.prog 78 [plan p, ints l] (B (isCh p l)) := by
 refine apure_of (rs := [.tmp 4]) Tryz.func78 rfl rfl (Nat.le_of_ble_eq_true rfl) (by simp [AV.pureL, AV.pureB, AV.pureE, pureE_map]) (rfl) fun e0 he0 => ?_
 refine aw_seq (aw_region ?_)
 refine sq_box rfl (lr _) rfl ?_
 refine asr (lr _) rfl ?_
 refine sq_nil (aw_seq (aw_seq (aw_region ?_)))
 refine asr (lr _) rfl ?_
 refine sq_nil (aw_block ?_)
 refine aw_loopk (ι := { k : Nat // k ≤ p.scenes.length ∧ ∀ i, (h : i < p.scenes.length) → i < k → chBad p l i h = false }) [1, 2] (fun i => [(5, I i.1)]) (fun H i => H) (fun i => p.scenes.length - i.1) (⟨0, Nat.zero_le _, by omega⟩) ⟨lr _, lr _, lr _, trivial⟩ rfl ?_
 rintro ⟨k, hk, hok⟩
 dsimp only [keepS, St.put, sget, slotsOf, List.map_cons, List.map_nil, List.cons_append, List.nil_append, List.length_cons, List.length_nil, Nat.reduceBEq, Nat.reduceAdd, cond_true, cond_false]
 refine aw_seq (aw_seq (aw_region ?_))
 refine mvr (lr _) rfl ?_
 refine sq_ev rfl (ev_fieldAddr fo27_3 (lr _)) ?_
 refine sq_ev rfl (ev_load (lr _) rfl ty25 rfl) ?_
 refine sq_ev rfl (ev_len_map sl25 (lr _)) ?_
 refine sq_ev rfl (ev_lss (lr _) (lr _)) ?_
 refine sq_nil ?_
 refine aw_cond (lr _) (fun c1 => ?_) (fun c1 => ?_)
 ·
  have c1' := c1
  try simp only [qq] at c1'
  refine aw_skip (aw_seq (aw_block (aw_seq (aw_region ?_))))
  refine sq_ev rfl (ev_fieldAddr fo27_3 (lr _)) ?_
  refine sq_ev rfl (ev_load (lr _) rfl ty25 rfl) ?_
  refine mvr (lr _) rfl ?_
  refine sq_ev rfl (ev_index_map sl25 (lr _) (lr _) rfl (by omega)) ?_
  refine sq_ev rfl (ev_load_agg_i (lr _) ty84 (Nat.le_of_ble_eq_true rfl)) ?_
  refine sq_alloc rfl z84 ?_
  refine sq_store rfl (lr _) (lr _) rfl rfl ty84 rfl rfl ?_
  refine sq_nil (aw_seq (aw_region ?_))
  refine sq_ev rfl (ev_mv (v := .sl _ _) (lr _)) ?_
  refine mvr (lr _) rfl ?_
  refine sq_ev rfl (ev_call en62 (lr _) (has_pure _ _ hl) ⟨lr _, lr _, trivial⟩) ?_
  refine sq_ev rfl (ev_not (lr _)) ?_
  refine mvr (lr _) rfl ?_
  refine sq_split 23 (lr _) (fun g2 => ?_) (fun g2 => ?_)
  ·
   have g2' := g2
   try simp only [qq] at g2'
   refine sq_yes rfl rfl (less_b g2) rfl (ev_fieldAddr fo84_3 (lr _)) ?_
   refine sq_yes rfl rfl (less_b g2) rfl (ev_load (lr _) rfl ty4 rfl) ?_
   refine sq_yes rfl rfl (less_b g2) rfl (ev_not (lr _)) ?_
   refine sq_ev rfl (ev_pickT (v := .raw _) (less_b g2) (lr _)) ?_
   refine mvr (lr _) rfl ?_
   refine sq_split 28 (lr _) (fun g3 => ?_) (fun g3 => ?_)
   ·
    have g3' := g3
    try simp only [qq] at g3'
    refine sq_no rfl rfl (less_b g3) rfl rfl ?_
    refine sq_no rfl rfl (less_b g3) rfl rfl ?_
    refine sq_no rfl rfl (less_b g3) rfl rfl ?_
    refine sq_no rfl rfl (less_b g3) rfl rfl ?_
    refine sq_no rfl rfl (lr _) rfl rfl ?_
    refine sq_no rfl rfl (lr _) rfl rfl ?_
    refine sq_no rfl rfl (lr _) rfl rfl ?_
    refine sq_no rfl rfl (less_b g3) rfl rfl ?_
    refine sq_no rfl rfl (less_b g3) rfl rfl ?_
    refine sq_no rfl rfl (lr _) rfl rfl ?_
    refine sq_no rfl rfl (lr _) rfl rfl ?_
    refine sq_no rfl rfl (lr _) rfl rfl ?_
    refine sq_no rfl rfl (lr _) rfl rfl ?_
    refine sq_no rfl rfl (lr _) rfl rfl ?_
    refine sq_no rfl rfl (less_b g3) rfl rfl ?_
    refine sq_ev rfl (ev_pickT (v := .raw _) (less_b g3) (lr _)) ?_
    refine sq_nil ?_
    refine aw_true (lr _) ?_
    refine aw_seq (aw_region ?_)
    refine asr (lr _) rfl ?_
    refine sq_nil (aw_ret ?_)
    exact retQ_pure (v := .raw _) rfl rfl (Less.eq (by rw [isCh, okAll_bad (i := k) (by omega) (by first | (simp [chBad, *]; done) | (simp_all [chBad]; done))]))
   ·
    have g3' := g3
    try simp only [qq] at g3'
    refine sq_yes rfl rfl (less_b g3) rfl (ev_mv (v := .sl _ _) (lr _)) ?_
    refine sq_yes rfl rfl (less_b g3) rfl (ev_mv (v := .raw _) (lr _)) ?_
    refine sq_yes rfl rfl (less_b g3) rfl (ev_call en62 (lr _) (has_pure _ _ hl) ⟨lr _, lr _, trivial⟩) ?_
    refine sq_yes rfl rfl (less_b g3) rfl (ev_mv (v := .raw _) (lr _)) ?_
    refine sq_split 32 (lr _) (fun g4 => ?_) (fun g4 => ?_)
    ·
     have g4' := g4
     try simp only [qq] at g4'
     refine sq_yes rfl rfl (less_b g4) rfl (ev_fieldAddr fo84_4 (lr _)) ?_
     refine sq_yes rfl rfl (less_b g4) rfl (ev_load (lr _) rfl ty3 rfl) ?_
     refine sq_yes rfl rfl (less_b g4) rfl (ev_geq (lr _) (lr _)) ?_
     refine sq_yes rfl rfl (less_b g3) rfl (ev_pickT (v := .raw _) (less_b g4) (lr _)) ?_
     refine sq_yes rfl rfl (less_b g3) rfl (ev_mv (v := .raw _) (lr _)) ?_
     refine sq_split 37 (lr _) (fun g5 => ?_) (fun g5 => ?_)
     ·
      have g5' := g5
      try simp only [qq] at g5'
      refine sq_yes rfl rfl (less_b g5) rfl (ev_mv (v := .sl _ _) (lr _)) ?_
      refine sq_yes rfl rfl (less_b g5) rfl (ev_fieldAddr fo84_4 (lr _)) ?_
      refine sq_yes rfl rfl (less_b g5) rfl (ev_load (lr _) rfl ty3 rfl) ?_
      refine sq_yes rfl rfl (less_b g5) rfl (ev_call en62 (lr _) (has_pure _ _ hl) ⟨lr _, lr _, trivial⟩) ?_
      refine sq_yes rfl rfl (less_b g5) rfl (ev_not (lr _)) ?_
      refine sq_yes rfl rfl (less_b g3) rfl (ev_pickT (v := .raw _) (less_b g5) (lr _)) ?_
      refine sq_ev rfl (ev_pickF (v := .raw _) (less_b g3) (lr _)) ?_
      refine sq_nil ?_
      refine aw_cond (lr _) (fun c6 => ?_) (fun c6 => ?_)
      ·
       have c6' := c6
       try simp only [qq] at c6'
       refine aw_seq (aw_region ?_)
       refine asr (lr _) rfl ?_
       refine sq_nil (aw_ret ?_)
       exact retQ_pure (v := .raw _) rfl rfl (Less.eq (by rw [isCh, okAll_bad (i := k) (by omega) (by first | (simp [chBad, *]; done) | (simp_all [chBad]; done))]))
      ·
       have c6' := c6
       try simp only [qq] at c6'
       refine aw_skip (aw_region ?_)
       refine mvr (lr _) rfl ?_
       refine sq_ev rfl (ev_add (lr _) (lr _) (wr (by omega) (by omega))) ?_
       refine asr (lr _) rfl ?_
       refine sq_nil ?_
       have hgood : chBad p l k (by omega) = false := by first | (simp [chBad, *]; done) | (simp_all [chBad]; done)
       exact ⟨⟨k + 1, by omega, fun i h hi => (by by_cases e : i = k; (subst e; exact hgood); exact hok i h (by omega))⟩, by simp only; omega, Sub.fin 1 ⟨lr _, lr _, lr _, trivial⟩ rfl (by simp [slotsIn, objsIn, sget, keepS, AObj.inB, AV.inB, AV.inL, AV.inE, inE_map]) (by simp [slotsIn, objsIn, sget, keepS, AObj.inB, AV.inB, AV.inL, AV.inE, inE_map]) (by simp [he0])⟩
     ·
      have g5' := g5
      try simp only [qq] at g5'
      refine sq_no rfl rfl (less_b g5) rfl rfl ?_
      refine sq_no rfl rfl (less_b g5) rfl rfl ?_
      refine sq_no rfl rfl (less_b g5) rfl rfl ?_
      refine sq_no rfl rfl (less_b g5) rfl rfl ?_
      refine sq_no rfl rfl (less_b g5) rfl rfl ?_
      refine sq_yes rfl rfl (less_b g3) rfl (ev_pickF (v := .raw _) (less_b g5) (lr _)) ?_
      refine sq_ev rfl (ev_pickF (v := .raw _) (less_b g3) (lr _)) ?_
      refine sq_nil ?_
      refine aw_false (lr _) ?_
      refine aw_skip (aw_region ?_)
      refine mvr (lr _) rfl ?_
      refine sq_ev rfl (ev_add (lr _) (lr _) (wr (by omega) (by omega))) ?_
      refine asr (lr _) rfl ?_
      refine sq_nil ?_
      have hgood : chBad p l k (by omega) = false := by first | (simp [chBad, *]; done) | (simp_all [chBad]; done)
      exact ⟨⟨k + 1, by omega, fun i h hi => (by by_cases e : i = k; (subst e; exact hgood); exact hok i h (by omega))⟩, by simp only; omega, Sub.fin 1 ⟨lr _, lr _, lr _, trivial⟩ rfl (by simp [slotsIn, objsIn, sget, keepS, AObj.inB, AV.inB, AV.inL, AV.inE, inE_map]) (by simp [slotsIn, objsIn, sget, keepS, AObj.inB, AV.inB, AV.inL, AV.inE, inE_map]) (by simp [he0])⟩
    ·
     have g4' := g4
     try simp only [qq] at g4'
     refine sq_no rfl rfl (less_b g4) rfl rfl ?_
     refine sq_no rfl rfl (less_b g4) rfl rfl ?_
     refine sq_no rfl rfl (less_b g4) rfl rfl ?_
     refine sq_yes rfl rfl (less_b g3) rfl (ev_pickF (v := .raw _) (less_b g4) (lr _)) ?_
     refine sq_yes rfl rfl (less_b g3) rfl (ev_mv (v := .raw _) (lr _)) ?_
     refine sq_no rfl rfl (lr _) rfl rfl ?_
     refine sq_no rfl rfl (lr _) rfl rfl ?_
     refine sq_no rfl rfl (lr _) rfl rfl ?_
     refine sq_no rfl rfl (lr _) rfl rfl ?_
     refine sq_no rfl rfl (lr _) rfl rfl ?_
     refine sq_yes rfl rfl (less_b g3) rfl (ev_pickF (v := .raw _) (lr _) (lr _)) ?_
     refine sq_ev rfl (ev_pickF (v := .raw _) (less_b g3) (lr _)) ?_
     refine sq_nil ?_
     refine aw_false (lr _) ?_
     refine aw_skip (aw_region ?_)
     refine mvr (lr _) rfl ?_
     refine sq_ev rfl (ev_add (lr _) (lr _) (wr (by omega) (by omega))) ?_
     refine asr (lr _) rfl ?_
     refine sq_nil ?_
     have hgood : chBad p l k (by omega) = false := by first | (simp [chBad, *]; done) | (simp_all [chBad]; done)
     exact ⟨⟨k + 1, by omega, fun i h hi => (by by_cases e : i = k; (subst e; exact hgood); exact hok i h (by omega))⟩, by simp only; omega, Sub.fin 1 ⟨lr _, lr _, lr _, trivial⟩ rfl (by simp [slotsIn, objsIn, sget, keepS, AObj.inB, AV.inB, AV.inL, AV.inE, inE_map]) (by simp [slotsIn, objsIn, sget, keepS, AObj.inB, AV.inB, AV.inL, AV.inE, inE_map]) (by simp [he0])⟩
  ·
   have g2' := g2
   try simp only [qq] at g2'
   refine sq_no rfl rfl (less_b g2) rfl rfl ?_
   refine sq_no rfl rfl (less_b g2) rfl rfl ?_
   refine sq_no rfl rfl (less_b g2) rfl rfl ?_
   refine sq_ev rfl (ev_pickF (v := .raw _) (less_b g2) (lr _)) ?_
   refine mvr (lr _) rfl ?_
   refine sq_yes rfl rfl (lr _) rfl (ev_mv (v := .sl _ _) (lr _)) ?_
   refine sq_yes rfl rfl (lr _) rfl (ev_mv (v := .raw _) (lr _)) ?_
   refine sq_yes rfl rfl (lr _) rfl (ev_call en62 (lr _) (has_pure _ _ hl) ⟨lr _, lr _, trivial⟩) ?_
   refine sq_yes rfl rfl (lr _) rfl (ev_mv (v := .raw _) (lr _)) ?_
   refine sq_split 32 (lr _) (fun g7 => ?_) (fun g7 => ?_)
   ·
    have g7' := g7
    try simp only [qq] at g7'
    refine sq_yes rfl rfl (less_b g7) rfl (ev_fieldAddr fo84_4 (lr _)) ?_
    refine sq_yes rfl rfl (less_b g7) rfl (ev_load (lr _) rfl ty3 rfl) ?_
    refine sq_yes rfl rfl (less_b g7) rfl (ev_geq (lr _) (lr _)) ?_
    refine sq_yes rfl rfl (lr _) rfl (ev_pickT (v := .raw _) (less_b g7) (lr _)) ?_
    refine sq_yes rfl rfl (lr _) rfl (ev_mv (v := .raw _) (lr _)) ?_
    refine sq_split 37 (lr _) (fun g8 => ?_) (fun g8 => ?_)
    ·
     have g8' := g8
     try simp only [qq] at g8'
     refine sq_yes rfl rfl (less_b g8) rfl (ev_mv (v := .sl _ _) (lr _)) ?_
     refine sq_yes rfl rfl (less_b g8) rfl (ev_fieldAddr fo84_4 (lr _)) ?_
     refine sq_yes rfl rfl (less_b g8) rfl (ev_load (lr _) rfl ty3 rfl) ?_
     refine sq_yes rfl rfl (less_b g8) rfl (ev_call en62 (lr _) (has_pure _ _ hl) ⟨lr _, lr _, trivial⟩) ?_
     refine sq_yes rfl rfl (less_b g8) rfl (ev_not (lr _)) ?_
     refine sq_yes rfl rfl (lr _) rfl (ev_pickT (v := .raw _) (less_b g8) (lr _)) ?_
     refine sq_ev rfl (ev_pickF (v := .raw _) (lr _) (lr _)) ?_
     refine sq_nil ?_
     refine aw_cond (lr _) (fun c9 => ?_) (fun c9 => ?_)
     ·
      have c9' := c9
      try simp only [qq] at c9'
      refine aw_seq (aw_region ?_)
      refine asr (lr _) rfl ?_
      refine sq_nil (aw_ret ?_)
      exact retQ_pure (v := .raw _) rfl rfl (Less.eq (by rw [isCh, okAll_bad (i := k) (by omega) (by first | (simp [chBad, *]; done) | (simp_all [chBad]; done))]))
     ·
      have c9' := c9
      try simp only [qq] at c9'
      refine aw_skip (aw_region ?_)
      refine mvr (lr _) rfl ?_
      refine sq_ev rfl (ev_add (lr _) (lr _) (wr (by omega) (by omega))) ?_
      refine asr (lr _) rfl ?_
      refine sq_nil ?_
      have hgood : chBad p l k (by omega) = false := by first | (simp [chBad, *]; done) | (simp_all [chBad]; done)
      exact ⟨⟨k + 1, by omega, fun i h hi => (by by_cases e : i = k; (subst e; exact hgood); exact hok i h (by omega))⟩, by simp only; omega, Sub.fin 1 ⟨lr _, lr _, lr _, trivial⟩ rfl (by simp [slotsIn, objsIn, sget, keepS, AObj.inB, AV.inB, AV.inL, AV.inE, inE_map]) (by simp [slotsIn, objsIn, sget, keepS, AObj.inB, AV.inB, AV.inL, AV.inE, inE_map]) (by simp [he0])⟩
    ·
     have g8' := g8
     try simp only [qq] at g8'
     refine sq_no rfl rfl (less_b g8) rfl rfl ?_
     refine sq_no rfl rfl (less_b g8) rfl rfl ?_
     refine sq_no rfl rfl (less_b g8) rfl rfl ?_
     refine sq_no rfl rfl (less_b g8) rfl rfl ?_
     refine sq_no rfl rfl (less_b g8) rfl rfl ?_
     refine sq_yes rfl rfl (lr _) rfl (ev_pickF (v := .raw _) (less_b g8) (lr _)) ?_
     refine sq_ev rfl (ev_pickF (v := .raw _) (lr _) (lr _)) ?_
     refine sq_nil ?_
     refine aw_false (lr _) ?_
     refine aw_skip (aw_region ?_)
     refine mvr (lr _) rfl ?_
     refine sq_ev rfl (ev_add (lr _) (lr _) (wr (by omega) (by omega))) ?_
     refine asr (lr _) rfl ?_
     refine sq_nil ?_
     have hgood : chBad p l k (by omega) = false := by first | (simp [chBad, *]; done) | (simp_all [chBad]; done)
     exact ⟨⟨k + 1, by omega, fun i h hi => (by by_cases e : i = k; (subst e; exact hgood); exact hok i h (by omega))⟩, by simp only; omega, Sub.fin 1 ⟨lr _, lr _, lr _, trivial⟩ rfl (by simp [slotsIn, objsIn, sget, keepS, AObj.inB, AV.inB, AV.inL, AV.inE, inE_map]) (by simp [slotsIn, objsIn, sget, keepS, AObj.inB, AV.inB, AV.inL, AV.inE, inE_map]) (by simp [he0])⟩
   ·
    have g7' := g7
    try simp only [qq] at g7'
    refine sq_no rfl rfl (less_b g7) rfl rfl ?_
    refine sq_no rfl rfl (less_b g7) rfl rfl ?_
    refine sq_no rfl rfl (less_b g7) rfl rfl ?_
    refine sq_yes rfl rfl (lr _) rfl (ev_pickF (v := .raw _) (less_b g7) (lr _)) ?_
    refine sq_yes rfl rfl (lr _) rfl (ev_mv (v := .raw _) (lr _)) ?_
    refine sq_no rfl rfl (lr _) rfl rfl ?_
    refine sq_no rfl rfl (lr _) rfl rfl ?_
    refine sq_no rfl rfl (lr _) rfl rfl ?_
    refine sq_no rfl rfl (lr _) rfl rfl ?_
    refine sq_no rfl rfl (lr _) rfl rfl ?_
    refine sq_yes rfl rfl (lr _) rfl (ev_pickF (v := .raw _) (lr _) (lr _)) ?_
    refine sq_ev rfl (ev_pickF (v := .raw _) (lr _) (lr _)) ?_
    refine sq_nil ?_
    refine aw_false (lr _) ?_
    refine aw_skip (aw_region ?_)
    refine mvr (lr _) rfl ?_
    refine sq_ev rfl (ev_add (lr _) (lr _) (wr (by omega) (by omega))) ?_
    refine asr (lr _) rfl ?_
    refine sq_nil ?_
    have hgood : chBad p l k (by omega) = false := by first | (simp [chBad, *]; done) | (simp_all [chBad]; done)
    exact ⟨⟨k + 1, by omega, fun i h hi => (by by_cases e : i = k; (subst e; exact hgood); exact hok i h (by omega))⟩, by simp only; omega, Sub.fin 1 ⟨lr _, lr _, lr _, trivial⟩ rfl (by simp [slotsIn, objsIn, sget, keepS, AObj.inB, AV.inB, AV.inL, AV.inE, inE_map]) (by simp [slotsIn, objsIn, sget, keepS, AObj.inB, AV.inB, AV.inL, AV.inE, inE_map]) (by simp [he0])⟩
 ·
  have c1' := c1
  try simp only [qq] at c1'
  refine aw_exit (aw_seq (aw_region ?_))
  refine asr (lr _) rfl ?_
  refine sq_nil (aw_ret ?_)
  exact retQ_pure (v := .raw _) rfl rfl (Less.eq (by rw [isCh, okAll_end hk c1' hok]))


end Go.Proofs.YtjghdbdiejaacaaGreatDoor

namespace Go.Proofs.YtjghdbdiejaacaaGreatDoor
open Go Go.Ab Ni
/-- how long the whole parts last, when k of them are told -/
abbrev wpart (p : Pl) (l : List Nat) (k : Nat) : List AV :=
  [I (if 0 < k then lo p l 0 0 10 else 0), I (if 0 < k then hi p l 0 0 10 else 0), I (if 1 < k then lo p l 1 0 10 else 0), I (if 1 < k then hi p l 1 0 10 else 0), I (if 2 < k then lo p l 2 0 10 else 0), I (if 2 < k then hi p l 2 0 10 else 0)]
abbrev wcells (p : Pl) (l : List Nat) : List AV := [I (lo p l 0 0 10), I (hi p l 0 0 10), I (lo p l 1 0 10), I (hi p l 1 0 10), I (lo p l 2 0 10), I (hi p l 2 0 10)]
theorem en104 : Ent Tryz.prog 104 := Ent.of Tryz.func104 (by kernel_rfl) rfl
set_option maxHeartbeats 1000000 in
/-- kelir/kelirref03.long -/
theorem long_pure (p : Pl) (l : List Nat) (part a b : Int) (gp : GP p) (cv : CV p l) : APure Tryz.prog 104 [plan p, nats l, I part, I a, I b] (.agg (spanC (lo p l part a b) (hi p l part a b))) := by
 refine apure_of (rs := [.cell 10 23]) Tryz.func104 rfl rfl (Nat.le_of_ble_eq_true rfl) (by simp [AV.pureL, AV.pureB, AV.pureE, pureE_map]) (rfl) fun e0 he0 => ?_
 refine aw_seq (aw_region ?_)
 refine sq_box rfl (lr _) rfl ?_
 refine sq_alloc rfl z23 ?_
 refine sq_nil (aw_seq (aw_region ?_))
 refine sq_alloc rfl z23 ?_
 refine sq_nil (aw_seq (aw_seq (aw_region ?_)))
 refine asr (lr _) rfl ?_
 refine sq_nil (aw_block ?_)
 refine aw_loopk (ι := { k : Nat // k ≤ l.length }) [1, 2, 3, 4, 5, 10, 11] (fun i => [(12, I i.1)]) (fun H i => H.set 2 (.cells (spanC (lo p (l.take i.1) part a b) (hi p (l.take i.1) part a b)))) (fun i => l.length - i.1) (⟨0, Nat.zero_le _⟩) ⟨lr _, lr _, lr _, lr _, lr _, lr _, lr _, lr _, trivial⟩ rfl ?_
 rintro ⟨k, hk⟩
 dsimp only [keepS, St.put, sget, slotsOf, List.map_cons, List.map_nil, List.cons_append, List.nil_append, List.length_cons, List.length_nil, Nat.reduceBEq, Nat.reduceAdd, cond_true, cond_false]
 have hl1 := cv.len
 have hl2 := gp.len
 have hb1 := lo_bd gp cv part a b k
 have hb2 := hi_bd gp cv part a b k
 refine aw_seq (aw_seq (aw_region ?_))
 refine mvr (lr _) rfl ?_
 refine sq_ev rfl (ev_mv (v := .sl _ _) (lr _)) ?_
 refine sq_ev rfl (ev_len_map sl34 (lr _)) ?_
 refine sq_ev rfl (ev_lss (lr _) (lr _)) ?_
 refine sq_nil ?_
 refine aw_cond (lr _) (fun c1 => ?_) (fun c1 => ?_)
 ·
  have c1' := c1
  try simp only [qq] at c1'
  have hk' : k < l.length := by omega
  have hlt := cv.rng _ (List.getElem_mem hk')
  have hv1 := gp.least hlt
  have hv2 := gp.most hlt
  rw [scn_eq hlt] at hv1 hv2
  have he := scn_eq hlt
  refine aw_skip (aw_seq (aw_block (aw_seq ?_)))
  refine aw_draw 9 mo (by kernel_rfl) ?_
  refine dr_ev rfl (ev_fieldAddr fo27_3 (lr _)) ?_
  refine dr_ev rfl (ev_load (lr _) rfl ty25 rfl) ?_
  refine dr_ev rfl (ev_mv (v := .sl _ _) (lr _)) ?_
  refine dr_ev rfl (ev_mv (v := .raw _) (lr _)) ?_
  refine dr_ev rfl (ev_index_map sl34 (lr _) (lr _) rfl (by omega)) ?_
  refine dr_ev rfl (ev_load_i (lr _) ty3 rfl) ?_
  refine dr_ev rfl (ev_index_map sl25 (lr _) (lr _) rfl (by omega)) ?_
  refine dr_ev rfl (ev_load_agg_i (lr _) ty84 (Nat.le_of_ble_eq_true rfl)) ?_
  refine dr_alloc rfl z84 ?_
  refine dr_end ?_
  refine sq_store rfl (lr _) (lr _) rfl rfl ty84 rfl rfl ?_
  refine sq_nil (aw_seq (aw_region ?_))
  refine sq_ev rfl (ev_fieldAddr fo84_0 (lr _)) ?_
  refine sq_ev rfl (ev_load (lr _) rfl ty3 rfl) ?_
  refine mvr (lr _) rfl ?_
  refine sq_ev rfl (ev_eql (lr _) (lr _)) ?_
  refine mvr (lr _) rfl ?_
  refine sq_split 32 (lr _) (fun g2 => ?_) (fun g2 => ?_)
  ·
   have g2' := g2
   try simp only [qq] at g2'
   refine sq_yes rfl rfl (less_b g2) rfl (ev_mv (v := .sl _ _) (lr _)) ?_
   refine sq_yes rfl rfl (less_b g2) rfl (ev_mv (v := .raw _) (lr _)) ?_
   refine sq_yes rfl rfl (less_b g2) rfl (ev_index_map sl34 (lr _) (lr _) rfl (by omega)) ?_
   refine sq_yes rfl rfl (less_b g2) rfl (ev_load_i (lr _) ty3 rfl) ?_
   refine sq_yes rfl rfl (less_b g2) rfl (ev_mv (v := .raw _) (lr _)) ?_
   refine sq_yes rfl rfl (less_b g2) rfl (ev_geq (lr _) (lr _)) ?_
   refine sq_ev rfl (ev_pickT (v := .raw _) (less_b g2) (lr _)) ?_
   refine mvr (lr _) rfl ?_
   refine sq_split 40 (lr _) (fun g3 => ?_) (fun g3 => ?_)
   ·
    have g3' := g3
    try simp only [qq] at g3'
    refine sq_yes rfl rfl (less_b g3) rfl (ev_mv (v := .sl _ _) (lr _)) ?_
    refine sq_yes rfl rfl (less_b g3) rfl (ev_mv (v := .raw _) (lr _)) ?_
    refine sq_yes rfl rfl (less_b g3) rfl (ev_index_map sl34 (lr _) (lr _) rfl (by omega)) ?_
    refine sq_yes rfl rfl (less_b g3) rfl (ev_load_i (lr _) ty3 rfl) ?_
    refine sq_yes rfl rfl (less_b g3) rfl (ev_mv (v := .raw _) (lr _)) ?_
    refine sq_yes rfl rfl (less_b g3) rfl (ev_leq (lr _) (lr _)) ?_
    refine sq_ev rfl (ev_pickT (v := .raw _) (less_b g3) (lr _)) ?_
    refine sq_nil ?_
    refine aw_cond (lr _) (fun c4 => ?_) (fun c4 => ?_)
    ·
     have c4' := c4
     try simp only [qq] at c4'
     refine aw_region ?_
     refine sq_ev rfl (ev_fieldAddr fo23_0 (lr _)) ?_
     refine sq_ev rfl (ev_load (lr _) rfl ty3 rfl) ?_
     refine sq_ev rfl (ev_fieldAddr fo84_1 (lr _)) ?_
     refine sq_ev rfl (ev_load (lr _) rfl ty3 rfl) ?_
     refine sq_ev rfl (ev_add (lr _) (lr _) (wr (by omega) (by omega))) ?_
     refine sq_ev rfl (ev_fieldAddr fo23_1 (lr _)) ?_
     refine sq_ev rfl (ev_load (lr _) rfl ty3 rfl) ?_
     refine sq_ev rfl (ev_fieldAddr fo84_2 (lr _)) ?_
     refine sq_ev rfl (ev_load (lr _) rfl ty3 rfl) ?_
     refine sq_ev rfl (ev_add (lr _) (lr _) (wr (by omega) (by omega))) ?_
     refine sq_ev rfl (ev_build bi23 rfl) ?_
     refine sq_store rfl (lr _) (lr _) rfl rfl ty23 rfl rfl ?_
     refine sq_nil (aw_region ?_)
     refine mvr (lr _) rfl ?_
     refine sq_ev rfl (ev_add (lr _) (lr _) (wr (by omega) (by omega))) ?_
     refine asr (lr _) rfl ?_
     refine sq_nil ?_
     exact ⟨⟨k + 1, by omega⟩, by simp only; omega, Sub.fin 3 ⟨lr _, lr _, lr _, lr _, lr _, lr _, lr _, lr _, trivial⟩ (by have e1 := lo_take (p := p) hk' part a b; have e2 := hi_take (p := p) hk' part a b; simp [inP, *] at e1 e2; rw [e1, e2]; rfl) (by simp [slotsIn, objsIn, sget, keepS, AObj.inB, AV.inB, AV.inL, AV.inE, inE_map]) (by simp [slotsIn, objsIn, sget, keepS, AObj.inB, AV.inB, AV.inL, AV.inE, inE_map]) (by simp [he0])⟩
    ·
     have c4' := c4
     try simp only [qq] at c4'
     refine aw_skip (aw_region ?_)
     refine mvr (lr _) rfl ?_
     refine sq_ev rfl (ev_add (lr _) (lr _) (wr (by omega) (by omega))) ?_
     refine asr (lr _) rfl ?_
     refine sq_nil ?_
     exact ⟨⟨k + 1, by omega⟩, by simp only; omega, Sub.fin 3 ⟨lr _, lr _, lr _, lr _, lr _, lr _, lr _, lr _, trivial⟩ (by have e1 := lo_take (p := p) hk' part a b; have e2 := hi_take (p := p) hk' part a b; simp [inP, *] at e1 e2; rw [e1, e2]; rfl) (by simp [slotsIn, objsIn, sget, keepS, AObj.inB, AV.inB, AV.inL, AV.inE, inE_map]) (by simp [slotsIn, objsIn, sget, keepS, AObj.inB, AV.inB, AV.inL, AV.inE, inE_map]) (by simp [he0])⟩
   ·
    have g3' := g3
    try simp only [qq] at g3'
    refine sq_no rfl rfl (less_b g3) rfl rfl ?_
    refine sq_no rfl rfl (less_b g3) rfl rfl ?_
    refine sq_no rfl rfl (less_b g3) rfl rfl ?_
    refine sq_no rfl rfl (less_b g3) rfl rfl ?_
    refine sq_no rfl rfl (less_b g3) rfl rfl ?_
    refine sq_no rfl rfl (less_b g3) rfl rfl ?_
    refine sq_ev rfl (ev_pickF (v := .raw _) (less_b g3) (lr _)) ?_
    refine sq_nil ?_
    refine aw_false (lr _) ?_
    refine aw_skip (aw_region ?_)
    refine mvr (lr _) rfl ?_
    refine sq_ev rfl (ev_add (lr _) (lr _) (wr (by omega) (by omega))) ?_
    refine asr (lr _) rfl ?_
    refine sq_nil ?_
    exact ⟨⟨k + 1, by omega⟩, by simp only; omega, Sub.fin 3 ⟨lr _, lr _, lr _, lr _, lr _, lr _, lr _, lr _, trivial⟩ (by have e1 := lo_take (p := p) hk' part a b; have e2 := hi_take (p := p) hk' part a b; simp [inP, *] at e1 e2; rw [e1, e2]; rfl) (by simp [slotsIn, objsIn, sget, keepS, AObj.inB, AV.inB, AV.inL, AV.inE, inE_map]) (by simp [slotsIn, objsIn, sget, keepS, AObj.inB, AV.inB, AV.inL, AV.inE, inE_map]) (by simp [he0])⟩
  ·
   have g2' := g2
   try simp only [qq] at g2'
   refine sq_no rfl rfl (less_b g2) rfl rfl ?_
   refine sq_no rfl rfl (less_b g2) rfl rfl ?_
   refine sq_no rfl rfl (less_b g2) rfl rfl ?_
   refine sq_no rfl rfl (less_b g2) rfl rfl ?_
   refine sq_no rfl rfl (less_b g2) rfl rfl ?_
   refine sq_no rfl rfl (less_b g2) rfl rfl ?_
   refine sq_ev rfl (ev_pickF (v := .raw _) (less_b g2) (lr _)) ?_
   refine mvr (lr _) rfl ?_
   refine sq_no rfl rfl (lr _) rfl rfl ?_
   refine sq_no rfl rfl (lr _) rfl rfl ?_
   refine sq_no rfl rfl (lr _) rfl rfl ?_
   refine sq_no rfl rfl (lr _) rfl rfl ?_
   refine sq_no rfl rfl (lr _) rfl rfl ?_
   refine sq_no rfl rfl (lr _) rfl rfl ?_
   refine sq_ev rfl (ev_pickF (v := .raw _) (lr _) (lr _)) ?_
   refine sq_nil ?_
   refine aw_false (lr _) ?_
   refine aw_skip (aw_region ?_)
   refine mvr (lr _) rfl ?_
   refine sq_ev rfl (ev_add (lr _) (lr _) (wr (by omega) (by omega))) ?_
   refine asr (lr _) rfl ?_
   refine sq_nil ?_
   exact ⟨⟨k + 1, by omega⟩, by simp only; omega, Sub.fin 3 ⟨lr _, lr _, lr _, lr _, lr _, lr _, lr _, lr _, trivial⟩ (by have e1 := lo_take (p := p) hk' part a b; have e2 := hi_take (p := p) hk' part a b; simp [inP, *] at e1 e2; rw [e1, e2]; rfl) (by simp [slotsIn, objsIn, sget, keepS, AObj.inB, AV.inB, AV.inL, AV.inE, inE_map]) (by simp [slotsIn, objsIn, sget, keepS, AObj.inB, AV.inB, AV.inL, AV.inE, inE_map]) (by simp [he0])⟩
 ·
  have c1' := c1
  try simp only [qq] at c1'
  obtain rfl : k = l.length := by omega
  refine aw_exit (aw_seq (aw_region ?_))
  refine sq_ev rfl (ev_load_agg (lr _) rfl ty23 rfl) ?_
  refine sq_store rfl (lr _) (lr _) rfl rfl ty23 rfl rfl ?_
  refine sq_nil (aw_ret ?_)
  exact retQ_res (vs := [.agg _]) rfl rfl ⟨resVar_cell rfl rfl ty23 rfl, trivial⟩ (Less.eq (by simp [lo, hi]))

set_option maxHeartbeats 400000 in
/-- kelir/kelirref03.within -/
theorem within_pure (n a b : Int) : APure Tryz.prog 111 [I n, .agg [I a, I b]] (B (inn n a b)) := by
 refine apure_of (rs := [.tmp 4]) Tryz.func111 rfl rfl (Nat.le_of_ble_eq_true rfl) (by simp [AV.pureL, AV.pureB, AV.pureE, pureE_map]) (rfl) fun e0 he0 => ?_
 refine aw_seq (aw_region ?_)
 refine sq_box rfl (lr _) rfl ?_
 refine asr (lr _) rfl ?_
 refine sq_nil (aw_seq (aw_region ?_))
 refine mvr (lr _) rfl ?_
 refine sq_ev rfl (ev_fieldAddr fo23_0 (lr _)) ?_
 refine sq_ev rfl (ev_load (lr _) rfl ty3 rfl) ?_
 refine sq_ev rfl (ev_fieldAddr fo23_1 (lr _)) ?_
 refine sq_ev rfl (ev_load (lr _) rfl ty3 rfl) ?_
 refine sq_ev rfl (ev_call en89 (lr _) (in_pure _ _ _) ⟨lr _, lr _, lr _, trivial⟩) ?_
 refine asr (lr _) rfl ?_
 refine sq_nil (aw_ret ?_)
 exact retQ_pure (v := .raw _) rfl rfl (Less.eq (by simp))

set_option maxHeartbeats 400000 in
/-- kelir/kelirref03.whole -/
theorem whole_pure (p : Pl) (l : List Nat) (gp : GP p) (cv : CV p l) : APure Tryz.prog 110 [plan p, nats l] (.agg (wcells p l)) := by
 refine apure_of (rs := [.cell 4 120]) Tryz.func110 rfl rfl (Nat.le_of_ble_eq_true rfl) (by simp [AV.pureL, AV.pureB, AV.pureE, pureE_map]) (rfl) fun e0 he0 => ?_
 refine aw_seq (aw_region ?_)
 refine sq_box rfl (lr _) rfl ?_
 refine sq_alloc rfl z120 ?_
 refine sq_nil (aw_seq (aw_region ?_))
 refine sq_alloc rfl z120 ?_
 refine sq_nil (aw_seq (aw_seq (aw_region ?_)))
 refine asr (lr _) rfl ?_
 refine sq_nil (aw_block ?_)
 refine aw_loopk (ι := { k : Nat // k ≤ 3 }) [1, 2, 4, 5] (fun i => [(6, I i.1)]) (fun H i => H.set 2 (.cells (wpart p l i.1))) (fun i => 3 - i.1) (⟨0, by omega⟩) ⟨lr _, lr _, lr _, lr _, lr _, trivial⟩ rfl ?_
 rintro ⟨k, hk⟩
 dsimp only [keepS, St.put, sget, slotsOf, List.map_cons, List.map_nil, List.cons_append, List.nil_append, List.length_cons, List.length_nil, Nat.reduceBEq, Nat.reduceAdd, cond_true, cond_false]
 refine aw_seq (aw_seq (aw_region ?_))
 refine mvr (lr _) rfl ?_
 refine sq_ev rfl (ev_lss (lr _) (lr _)) ?_
 refine sq_nil ?_
 refine aw_cond (lr _) (fun c1 => ?_) (fun c1 => ?_)
 ·
  have c1' := c1
  try simp only [qq] at c1'
  refine aw_skip (aw_seq (aw_block (aw_region ?_)))
  refine mvr (lr _) rfl ?_
  refine sq_ev rfl (ev_load_agg (lr _) rfl ty27 rfl) ?_
  refine sq_ev rfl (ev_mv (v := .sl _ _) (lr _)) ?_
  refine mvr (lr _) rfl ?_
  refine sq_ev rfl (ev_call en104 (lr _) (long_pure _ _ _ _ _ gp cv) ⟨lr _, lr _, lr _, lr _, lr _, trivial⟩) ?_
  refine sq_ev rfl (ev_index_box ar120 (lr _) (lr _) rfl (by omega)) ?_
  refine sq_store rfl (lr _) (lr _) rfl rfl ty23 rfl (by rcases k with _ | _ | _ | k <;> first | rfl | omega) ?_
  refine sq_nil (aw_region ?_)
  refine mvr (lr _) rfl ?_
  refine sq_ev rfl (ev_add (lr _) (lr _) (wr (by omega) (by omega))) ?_
  refine asr (lr _) rfl ?_
  refine sq_nil ?_
  exact ⟨⟨k + 1, by omega⟩, by simp only; omega, Sub.fin 3 ⟨lr _, lr _, lr _, lr _, lr _, trivial⟩ (by rcases k with _ | _ | _ | k <;> first | rfl | omega) (by simp [slotsIn, objsIn, sget, keepS, AObj.inB, AV.inB, AV.inL, AV.inE, inE_map]) (by simp [slotsIn, objsIn, sget, keepS, AObj.inB, AV.inB, AV.inL, AV.inE, inE_map]) (by simp [he0])⟩
 ·
  have c1' := c1
  try simp only [qq] at c1'
  obtain rfl : k = 3 := by omega
  refine aw_exit (aw_seq (aw_region ?_))
  refine sq_ev rfl (ev_load_agg (lr _) rfl ty120 rfl) ?_
  refine sq_store rfl (lr _) (lr _) rfl rfl ty120 rfl rfl ?_
  refine sq_nil (aw_ret ?_)
  exact retQ_res (vs := [.agg _]) rfl rfl ⟨resVar_cell rfl rfl ty120 rfl, trivial⟩ (Less.eq (by simp))


end Go.Proofs.YtjghdbdiejaacaaGreatDoor

namespace Go.Proofs.YtjghdbdiejaacaaGreatDoor
open Go Go.Ab Ni
abbrev hourC (h : Int × Int × Int) : List AV := [I h.1, I h.2.1, I h.2.2]
theorem inE_hour (n : Nat) (l : List (Int × Int × Int)) : AV.inE n (l.map hourC) = true := inE_map fun x _ => by simp [AV.inL, AV.inB]
abbrev hourS (l : List (Int × Int × Int)) : AV := .sl 3 (l.map hourC)
theorem bi125 : bldInfo Tryz.prog 125 = some ([.raw (.int .i64 0), .raw (.int .i64 0), .raw (.int .i64 0)], false, [], 1) := by kernel_rfl
theorem en102 : Ent Tryz.prog 102 := Ent.of Tryz.func102 (by kernel_rfl) rfl
theorem en110 : Ent Tryz.prog 110 := Ent.of Tryz.func110 (by kernel_rfl) rfl
theorem en111 : Ent Tryz.prog 111 := Ent.of Tryz.func111 (by kernel_rfl) rfl
theorem sf122 : SlFact Tryz.prog 122 125 3 24 := SlFact.of (by kernel_rfl)
theorem sl122 : slElem Tryz.prog 122 = some (125, 3) := by kernel_rfl

set_option maxHeartbeats 4000000 in
/-- kelir/kelirref03.hours -/
theorem hours_pure (p : Pl) (l : List Nat) (gp : GP p) (cv : CV p l) : APure Tryz.prog 102 [plan p, nats l] (hourS (hrs p l)) := by
 refine apure_of (rs := [.tmp 4]) Tryz.func102 rfl rfl (Nat.le_of_ble_eq_true rfl) (by simp [AV.pureL, AV.pureB, AV.pureE, pureE_map]) (by simp [AV.pureL, AV.pureB, AV.pureE, pureE_map]) fun e0 he0 => ?_
 refine aw_seq (aw_region ?_)
 refine sq_box rfl (lr _) rfl ?_
 refine asr (lr _) rfl ?_
 refine sq_nil (aw_seq (aw_region ?_))
 refine sq_ev rfl (ev_load_agg (lr _) rfl ty27 rfl) ?_
 refine sq_ev rfl (ev_mv (v := .sl _ _) (lr _)) ?_
 refine sq_ev rfl (ev_call en110 (lr _) (whole_pure _ _ gp cv) ⟨lr _, lr _, trivial⟩) ?_
 refine sq_alloc rfl z120 ?_
 refine sq_store rfl (lr _) (lr _) rfl rfl ty120 rfl rfl ?_
 refine sq_nil (aw_seq (aw_region ?_))
 refine asr (lr _) rfl ?_
 refine sq_nil (aw_seq (aw_seq (aw_region ?_)))
 refine sq_ev rfl (ev_fieldAddr fo27_1 (lr _)) ?_
 refine sq_ev rfl (ev_index_box ar24 (lr _) (lr _) rfl (by decide)) ?_
 refine sq_ev rfl (ev_fieldAddr fo23_0 (lr _)) ?_
 refine sq_ev rfl (ev_load (lr _) rfl ty3 rfl) ?_
 refine asr (lr _) rfl ?_
 refine sq_nil (aw_block ?_)
 refine aw_sub (sub_token 6 3 (lr _)) ?_
 refine aw_loopk (ι := { i : Nat // i ≤ wid p.s0l p.s0h }) [2, 5] (fun i => [(7, I (p.s0l + i.1)), (6, .own 2 3 ((fm i.1 (hA p l)).map hourC))]) (fun H i => H.set 2 (.tok ((fm i.1 (hA p l)).map hourC).length)) (fun i => wid p.s0l p.s0h - i.1) (⟨0, Nat.zero_le _⟩) ⟨(by exact less_int (by simp)), lr _, lr _, lr _, trivial⟩ rfl ?_
 rintro ⟨i, i1⟩
 dsimp only [keepS, St.put, sget, slotsOf, List.map_cons, List.map_nil, List.cons_append, List.nil_append, List.length_cons, List.length_nil, Nat.reduceBEq, Nat.reduceAdd, cond_true, cond_false]
 have g1 := gp.beg
 have g2 := gp.s0l
 have g3 := gp.s0h
 have g4 := gp.s1l
 have g5 := gp.s1h
 have g6 := gp.dl
 have g7 := gp.dh
 have q1 := hAs_len gp l i1
 have w1 : wid p.s0l p.s0h = (p.s0h - p.s0l + 1).toNat := rfl
 have w2 : wid p.s1l p.s1h = (p.s1h - p.s1l + 1).toNat := rfl
 have w3 : wid p.dl p.dh = (p.dh - p.dl + 1).toNat := rfl
 refine aw_seq (aw_seq (aw_region ?_))
 refine mvr (lr _) rfl ?_
 refine sq_ev rfl (ev_fieldAddr fo27_1 (lr _)) ?_
 refine sq_ev rfl (ev_index_box ar24 (lr _) (lr _) rfl (by decide)) ?_
 refine sq_ev rfl (ev_fieldAddr fo23_1 (lr _)) ?_
 refine sq_ev rfl (ev_load (lr _) rfl ty3 rfl) ?_
 refine sq_ev rfl (ev_leq (lr _) (lr _)) ?_
 refine sq_nil ?_
 refine aw_cond (lr _) (fun c1 => ?_) (fun c1 => ?_)
 ·
  have c1' := c1
  try simp only [qq] at c1'
  refine aw_skip (aw_seq (aw_block (aw_seq (aw_region ?_))))
  refine sq_ev rfl (ev_fieldAddr fo27_1 (lr _)) ?_
  refine sq_ev rfl (ev_index_box ar24 (lr _) (lr _) rfl (by decide)) ?_
  refine sq_ev rfl (ev_fieldAddr fo23_0 (lr _)) ?_
  refine sq_ev rfl (ev_load (lr _) rfl ty3 rfl) ?_
  refine asr (lr _) rfl ?_
  refine sq_nil (aw_block ?_)
  refine aw_loopk (ι := { j : Nat // j ≤ wid p.s1l p.s1h ∧ (0 < j → inn (p.s0l + i - p.beg) (lo p l 0 0 10) (hi p l 0 0 10) = true) }) [2, 5, 7] (fun j => [(8, I (p.s1l + j.1)), (6, .own 2 3 ((fm i (hA p l) ++ fm j.1 (hB p l (p.s0l + i))).map hourC))]) (fun H j => H.set 2 (.tok (((fm i (hA p l) ++ fm j.1 (hB p l (p.s0l + i)))).map hourC).length)) (fun j => wid p.s1l p.s1h - j.1) (⟨0, Nat.zero_le _, by omega⟩) ⟨(by exact less_int (by simp)), (by exact Less.eq (a := .own 2 3 ((fm i (hA p l)).map hourC)) (by simp [fm_zero])), lr _, lr _, lr _, trivial⟩ (by rw [fm_zero, List.append_nil]; rfl) ?_
  rintro ⟨j, j1, hj0⟩
  dsimp only [keepS, St.put, sget, slotsOf, List.map_cons, List.map_nil, List.cons_append, List.nil_append, List.length_cons, List.length_nil, Nat.reduceBEq, Nat.reduceAdd, cond_true, cond_false]
  have q2 := hBs_len gp l (p.s0l + i) j1
  refine aw_seq (aw_seq (aw_region ?_))
  refine mvr (lr _) rfl ?_
  refine sq_ev rfl (ev_fieldAddr fo27_1 (lr _)) ?_
  refine sq_ev rfl (ev_index_box ar24 (lr _) (lr _) rfl (by decide)) ?_
  refine sq_ev rfl (ev_fieldAddr fo23_1 (lr _)) ?_
  refine sq_ev rfl (ev_load (lr _) rfl ty3 rfl) ?_
  refine sq_ev rfl (ev_leq (lr _) (lr _)) ?_
  refine mvr (lr _) rfl ?_
  refine sq_split 35 (lr _) (fun g2 => ?_) (fun g2 => ?_)
  ·
   have g2' := g2
   try simp only [qq] at g2'
   refine sq_yes rfl rfl (less_b g2) rfl (ev_mv (v := .raw _) (lr _)) ?_
   refine sq_yes rfl rfl (less_b g2) rfl (ev_fieldAddr fo27_0 (lr _)) ?_
   refine sq_yes rfl rfl (less_b g2) rfl (ev_load (lr _) rfl ty3 rfl) ?_
   refine sq_yes rfl rfl (less_b g2) rfl (ev_sub (lr _) (lr _) (wr (by omega) (by omega))) ?_
   refine sq_yes rfl rfl (less_b g2) rfl (ev_index_box ar120 (lr _) (lr _) rfl (by decide)) ?_
   refine sq_yes rfl rfl (less_b g2) rfl (ev_load_agg (lr _) rfl ty23 rfl) ?_
   refine sq_yes rfl rfl (less_b g2) rfl (ev_call en111 (lr _) (within_pure _ _ _) ⟨lr _, lr _, trivial⟩) ?_
   refine sq_ev rfl (ev_pickT (v := .raw _) (less_b g2) (lr _)) ?_
   refine sq_nil ?_
   refine aw_cond (lr _) (fun c3 => ?_) (fun c3 => ?_)
   ·
    have c3' := c3
    try simp only [qq] at c3'
    refine aw_skip (aw_seq (aw_block (aw_seq (aw_region ?_))))
    refine sq_ev rfl (ev_fieldAddr fo27_2 (lr _)) ?_
    refine sq_ev rfl (ev_fieldAddr fo23_0 (lr _)) ?_
    refine sq_ev rfl (ev_load (lr _) rfl ty3 rfl) ?_
    refine asr (lr _) rfl ?_
    refine sq_nil (aw_block ?_)
    refine aw_loopk (ι := { k : Nat // k ≤ wid p.dl p.dh ∧ (0 < k → inn (p.s1l + j - (p.s0l + i)) (lo p l 1 0 10) (hi p l 1 0 10) = true) }) [2, 5, 7, 8] (fun k => [(9, I (p.dl + k.1)), (6, .own 2 3 ((fm i (hA p l) ++ fm j (hB p l (p.s0l + i)) ++ fm k.1 (hC p l (p.s0l + i) (p.s1l + j))).map hourC))]) (fun H k => H.set 2 (.tok (((fm i (hA p l) ++ fm j (hB p l (p.s0l + i)) ++ fm k.1 (hC p l (p.s0l + i) (p.s1l + j)))).map hourC).length)) (fun k => wid p.dl p.dh - k.1) (⟨0, Nat.zero_le _, by omega⟩) ⟨(by exact less_int (by simp)), (by exact Less.eq (a := .own 2 3 ((fm i (hA p l) ++ fm j (hB p l (p.s0l + i))).map hourC)) (by simp [fm_zero])), lr _, lr _, lr _, lr _, trivial⟩ (by rw [fm_zero, List.append_nil]; rfl) ?_
    rintro ⟨k, k1, hk0⟩
    dsimp only [keepS, St.put, sget, slotsOf, List.map_cons, List.map_nil, List.cons_append, List.nil_append, List.length_cons, List.length_nil, Nat.reduceBEq, Nat.reduceAdd, cond_true, cond_false]
    have q3 := hCs_len gp l (p.s0l + i) (p.s1l + j) k1
    refine aw_seq (aw_seq (aw_region ?_))
    refine mvr (lr _) rfl ?_
    refine sq_ev rfl (ev_fieldAddr fo27_2 (lr _)) ?_
    refine sq_ev rfl (ev_fieldAddr fo23_1 (lr _)) ?_
    refine sq_ev rfl (ev_load (lr _) rfl ty3 rfl) ?_
    refine sq_ev rfl (ev_leq (lr _) (lr _)) ?_
    refine mvr (lr _) rfl ?_
    refine sq_split 54 (lr _) (fun g4 => ?_) (fun g4 => ?_)
    ·
     have g4' := g4
     try simp only [qq] at g4'
     refine sq_yes rfl rfl (less_b g4) rfl (ev_mv (v := .raw _) (lr _)) ?_
     refine sq_yes rfl rfl (less_b g4) rfl (ev_mv (v := .raw _) (lr _)) ?_
     refine sq_yes rfl rfl (less_b g4) rfl (ev_sub (lr _) (lr _) (wr (by omega) (by omega))) ?_
     refine sq_yes rfl rfl (less_b g4) rfl (ev_index_box ar120 (lr _) (lr _) rfl (by decide)) ?_
     refine sq_yes rfl rfl (less_b g4) rfl (ev_load_agg (lr _) rfl ty23 rfl) ?_
     refine sq_yes rfl rfl (less_b g4) rfl (ev_call en111 (lr _) (within_pure _ _ _) ⟨lr _, lr _, trivial⟩) ?_
     refine sq_ev rfl (ev_pickT (v := .raw _) (less_b g4) (lr _)) ?_
     refine sq_nil ?_
     refine aw_cond (lr _) (fun c5 => ?_) (fun c5 => ?_)
     ·
      have c5' := c5
      try simp only [qq] at c5'
      refine aw_skip (aw_seq (aw_block (aw_seq (aw_region ?_))))
      refine mvr (lr _) rfl ?_
      refine mvr (lr _) rfl ?_
      refine sq_ev rfl (ev_sub (lr _) (lr _) (wr (by omega) (by omega))) ?_
      refine sq_ev rfl (ev_index_box ar120 (lr _) (lr _) rfl (by decide)) ?_
      refine sq_ev rfl (ev_load_agg (lr _) rfl ty23 rfl) ?_
      refine sq_ev rfl (ev_call en111 (lr _) (within_pure _ _ _) ⟨lr _, lr _, trivial⟩) ?_
      refine sq_nil ?_
      refine aw_cond (lr _) (fun c6 => ?_) (fun c6 => ?_)
      ·
       have c6' := c6
       try simp only [qq] at c6'
       have e3 : (fm i (hA p l) ++ fm j (hB p l (p.s0l + i)) ++ fm (k + 1) (hC p l (p.s0l + i) (p.s1l + j))).map hourC = (fm i (hA p l) ++ fm j (hB p l (p.s0l + i)) ++ fm k (hC p l (p.s0l + i) (p.s1l + j))).map hourC ++ [hourC (p.s0l + i, p.s1l + j, p.dl + k)] := by rw [fm_succ, hC, if_pos c6']; simp
       have e4 : ((fm i (hA p l) ++ fm j (hB p l (p.s0l + i)) ++ fm (k + 1) (hC p l (p.s0l + i) (p.s1l + j))).map hourC).length = ((fm i (hA p l) ++ fm j (hB p l (p.s0l + i)) ++ fm k (hC p l (p.s0l + i) (p.s1l + j))).map hourC ++ [hourC (p.s0l + i, p.s1l + j, p.dl + k)]).length := by rw [e3]
       refine aw_region ?_
       refine sq_ev rfl (ev_mv (v := .own _ _ _) (lr _)) ?_
       refine mvr (lr _) rfl ?_
       refine mvr (lr _) rfl ?_
       refine mvr (lr _) rfl ?_
       refine sq_ev rfl (ev_build bi125 rfl) ?_
       refine sq_ev rfl (ev_buildSlice (es := [[_, _, _]]) sf122 rfl rfl rfl rfl) ?_
       refine sq_append rfl sf122 Tryz.underlying122 rfl rfl (less_slx _ _) (Nat.succ_pos _) (by simp; omega) (by simp; omega) ?_
       refine sq_ev rfl (ev_as (v := .own _ _ _) (lr _)) ?_
       refine sq_nil (aw_region ?_)
       refine mvr (lr _) rfl ?_
       refine sq_ev rfl (ev_add (lr _) (lr _) (wr (by omega) (by omega))) ?_
       refine asr (lr _) rfl ?_
       refine sq_nil ?_
       exact ⟨⟨k + 1, by omega, fun _ => by assumption⟩, by simp only; omega, Sub.fin 3 ⟨less_int (by first | omega | (simp only; omega)), Less.eq (b := .own 2 3 ((fm i (hA p l) ++ fm j (hB p l (p.s0l + i)) ++ fm (k + 1) (hC p l (p.s0l + i) (p.s1l + j))).map hourC)) (by rw [e3]; rfl), lr _, lr _, lr _, lr _, trivial⟩ (congrArg (fun n => [_, _, AObj.tok n]) e4.symm) (by simp [slotsIn, objsIn, sget, keepS, AObj.inB, AV.inB, AV.inL, inE_hour, inE_map, -List.map_append]) (by simp [slotsIn, objsIn, sget, keepS, AObj.inB, AV.inB, AV.inL, inE_hour, inE_map, -List.map_append]) (by simp [he0])⟩
      ·
       have c6' := c6
       try simp only [qq] at c6'
       have e3 : (fm i (hA p l) ++ fm j (hB p l (p.s0l + i)) ++ fm (k + 1) (hC p l (p.s0l + i) (p.s1l + j))).map hourC = (fm i (hA p l) ++ fm j (hB p l (p.s0l + i)) ++ fm k (hC p l (p.s0l + i) (p.s1l + j))).map hourC := by rw [fm_succ, hC, if_neg (by simp [c6'])]; simp
       have e4 : ((fm i (hA p l) ++ fm j (hB p l (p.s0l + i)) ++ fm (k + 1) (hC p l (p.s0l + i) (p.s1l + j))).map hourC).length = ((fm i (hA p l) ++ fm j (hB p l (p.s0l + i)) ++ fm k (hC p l (p.s0l + i) (p.s1l + j))).map hourC).length := by rw [e3]
       refine aw_skip (aw_region ?_)
       refine mvr (lr _) rfl ?_
       refine sq_ev rfl (ev_add (lr _) (lr _) (wr (by omega) (by omega))) ?_
       refine asr (lr _) rfl ?_
       refine sq_nil ?_
       exact ⟨⟨k + 1, by omega, fun _ => by assumption⟩, by simp only; omega, Sub.fin 3 ⟨less_int (by first | omega | (simp only; omega)), Less.eq (b := .own 2 3 ((fm i (hA p l) ++ fm j (hB p l (p.s0l + i)) ++ fm (k + 1) (hC p l (p.s0l + i) (p.s1l + j))).map hourC)) (by rw [e3]; rfl), lr _, lr _, lr _, lr _, trivial⟩ (congrArg (fun n => [_, _, AObj.tok n]) e4.symm) (by simp [slotsIn, objsIn, sget, keepS, AObj.inB, AV.inB, AV.inL, inE_hour, inE_map, -List.map_append]) (by simp [slotsIn, objsIn, sget, keepS, AObj.inB, AV.inB, AV.inL, inE_hour, inE_map, -List.map_append]) (by simp [he0])⟩
     ·
      have c5' := c5
      try simp only [qq] at c5'
      refine aw_exit (aw_region ?_)
      refine mvr (lr _) rfl ?_
      refine sq_ev rfl (ev_add (lr _) (lr _) (wr (by omega) (by omega))) ?_
      refine asr (lr _) rfl ?_
      refine sq_nil ?_
      have e5 : fm i (hA p l) ++ fm (j + 1) (hB p l (p.s0l + i)) = fm i (hA p l) ++ fm j (hB p l (p.s0l + i)) ++ fm k (hC p l (p.s0l + i) (p.s1l + j)) := by rw [fm_succ, hB_eq hk0 (by first | (left; omega) | (right; assumption)), List.append_assoc]
      exact ⟨⟨j + 1, by omega, fun _ => by assumption⟩, by simp only; omega, Sub.fin 3 ⟨less_int (by first | omega | (simp only; omega)), Less.eq (b := .own 2 3 ((fm i (hA p l) ++ fm (j + 1) (hB p l (p.s0l + i))).map hourC)) (by rw [e5] <;> rfl), lr _, lr _, lr _, trivial⟩ (congrArg (fun n => [_, _, AObj.tok n]) (congrArg (fun L => (List.map hourC L).length) e5.symm)) (by simp [slotsIn, objsIn, sget, keepS, AObj.inB, AV.inB, AV.inL, inE_hour, inE_map, -List.map_append]) (by simp [slotsIn, objsIn, sget, keepS, AObj.inB, AV.inB, AV.inL, inE_hour, inE_map, -List.map_append]) (by simp [he0])⟩
    ·
     have g4' := g4
     try simp only [qq] at g4'
     refine sq_no rfl rfl (less_b g4) rfl rfl ?_
     refine sq_no rfl rfl (less_b g4) rfl rfl ?_
     refine sq_no rfl rfl (less_b g4) rfl rfl ?_
     refine sq_no rfl rfl (less_b g4) rfl rfl ?_
     refine sq_no rfl rfl (less_b g4) rfl rfl ?_
     refine sq_no rfl rfl (less_b g4) rfl rfl ?_
     refine sq_ev rfl (ev_pickF (v := .raw _) (less_b g4) (lr _)) ?_
     refine sq_nil ?_
     refine aw_false (lr _) ?_
     refine aw_exit (aw_region ?_)
     refine mvr (lr _) rfl ?_
     refine sq_ev rfl (ev_add (lr _) (lr _) (wr (by omega) (by omega))) ?_
     refine asr (lr _) rfl ?_
     refine sq_nil ?_
     have e5 : fm i (hA p l) ++ fm (j + 1) (hB p l (p.s0l + i)) = fm i (hA p l) ++ fm j (hB p l (p.s0l + i)) ++ fm k (hC p l (p.s0l + i) (p.s1l + j)) := by rw [fm_succ, hB_eq hk0 (by first | (left; omega) | (right; assumption)), List.append_assoc]
     exact ⟨⟨j + 1, by omega, fun _ => by assumption⟩, by simp only; omega, Sub.fin 3 ⟨less_int (by first | omega | (simp only; omega)), Less.eq (b := .own 2 3 ((fm i (hA p l) ++ fm (j + 1) (hB p l (p.s0l + i))).map hourC)) (by rw [e5] <;> rfl), lr _, lr _, lr _, trivial⟩ (congrArg (fun n => [_, _, AObj.tok n]) (congrArg (fun L => (List.map hourC L).length) e5.symm)) (by simp [slotsIn, objsIn, sget, keepS, AObj.inB, AV.inB, AV.inL, inE_hour, inE_map, -List.map_append]) (by simp [slotsIn, objsIn, sget, keepS, AObj.inB, AV.inB, AV.inL, inE_hour, inE_map, -List.map_append]) (by simp [he0])⟩
   ·
    have c3' := c3
    try simp only [qq] at c3'
    refine aw_exit (aw_region ?_)
    refine mvr (lr _) rfl ?_
    refine sq_ev rfl (ev_add (lr _) (lr _) (wr (by omega) (by omega))) ?_
    refine asr (lr _) rfl ?_
    refine sq_nil ?_
    have e6 : fm (i + 1) (hA p l) = fm i (hA p l) ++ fm j (hB p l (p.s0l + i)) := by rw [fm_succ, hA_eq hj0 (by first | (left; omega) | (right; assumption))]
    exact ⟨⟨i + 1, by omega⟩, by simp only; omega, Sub.fin 3 ⟨less_int (by first | omega | (simp only; omega)), Less.eq (b := .own 2 3 ((fm (i + 1) (hA p l)).map hourC)) (by rw [e6] <;> rfl), lr _, lr _, trivial⟩ (congrArg (fun n => [_, _, AObj.tok n]) (congrArg (fun L => (List.map hourC L).length) e6.symm)) (by simp [slotsIn, objsIn, sget, keepS, AObj.inB, AV.inB, AV.inL, inE_hour, inE_map, -List.map_append]) (by simp [slotsIn, objsIn, sget, keepS, AObj.inB, AV.inB, AV.inL, inE_hour, inE_map, -List.map_append]) (by simp [he0])⟩
  ·
   have g2' := g2
   try simp only [qq] at g2'
   refine sq_no rfl rfl (less_b g2) rfl rfl ?_
   refine sq_no rfl rfl (less_b g2) rfl rfl ?_
   refine sq_no rfl rfl (less_b g2) rfl rfl ?_
   refine sq_no rfl rfl (less_b g2) rfl rfl ?_
   refine sq_no rfl rfl (less_b g2) rfl rfl ?_
   refine sq_no rfl rfl (less_b g2) rfl rfl ?_
   refine sq_no rfl rfl (less_b g2) rfl rfl ?_
   refine sq_ev rfl (ev_pickF (v := .raw _) (less_b g2) (lr _)) ?_
   refine sq_nil ?_
   refine aw_false (lr _) ?_
   refine aw_exit (aw_region ?_)
   refine mvr (lr _) rfl ?_
   refine sq_ev rfl (ev_add (lr _) (lr _) (wr (by omega) (by omega))) ?_
   refine asr (lr _) rfl ?_
   refine sq_nil ?_
   have e6 : fm (i + 1) (hA p l) = fm i (hA p l) ++ fm j (hB p l (p.s0l + i)) := by rw [fm_succ, hA_eq hj0 (by first | (left; omega) | (right; assumption))]
   exact ⟨⟨i + 1, by omega⟩, by simp only; omega, Sub.fin 3 ⟨less_int (by first | omega | (simp only; omega)), Less.eq (b := .own 2 3 ((fm (i + 1) (hA p l)).map hourC)) (by rw [e6] <;> rfl), lr _, lr _, trivial⟩ (congrArg (fun n => [_, _, AObj.tok n]) (congrArg (fun L => (List.map hourC L).length) e6.symm)) (by simp [slotsIn, objsIn, sget, keepS, AObj.inB, AV.inB, AV.inL, inE_hour, inE_map, -List.map_append]) (by simp [slotsIn, objsIn, sget, keepS, AObj.inB, AV.inB, AV.inL, inE_hour, inE_map, -List.map_append]) (by simp [he0])⟩
 ·
  have c1' := c1
  try simp only [qq] at c1'
  obtain rfl : i = wid p.s0l p.s0h := by omega
  refine aw_exit (aw_seq (aw_region ?_))
  refine sq_ev rfl (ev_mv (v := .own _ _ _) (lr _)) ?_
  refine sq_ev rfl (ev_as (v := .own _ _ _) (lr _)) ?_
  refine sq_nil (aw_ret ?_)
  exact retQ_pure (v := .own _ _ _) rfl rfl (Less.trans (less_own _ _ _) (Less.eq (by rfl)))

set_option maxHeartbeats 400000 in
/-- kelir/kelirref03.Can -/
theorem can_pure (p : Pl) (l : List Nat) (gp : GP p) (cv : CV p l) : APure Tryz.prog 48 [plan p, nats l] (B (can p l)) := by
 refine apure_of (rs := [.tmp 4]) Tryz.func48 rfl rfl (Nat.le_of_ble_eq_true rfl) (by simp [AV.pureL, AV.pureB, AV.pureE, pureE_map]) (rfl) fun e0 he0 => ?_
 refine aw_seq (aw_region ?_)
 refine sq_box rfl (lr _) rfl ?_
 refine asr (lr _) rfl ?_
 refine sq_nil (aw_seq (aw_region ?_))
 refine sq_ev rfl (ev_load_agg (lr _) rfl ty27 rfl) ?_
 refine sq_ev rfl (ev_mv (v := .sl _ _) (lr _)) ?_
 refine sq_ev rfl (ev_call en102 (lr _) (hours_pure _ _ gp cv) ⟨lr _, lr _, trivial⟩) ?_
 refine sq_ev rfl (ev_len_map sl122 (lr _)) ?_
 refine sq_ev rfl (ev_gtr (lr _) (lr _)) ?_
 refine asr (lr _) rfl ?_
 refine sq_nil (aw_ret ?_)
 exact retQ_pure (v := .raw _) rfl rfl (Less.eq (by simp [can]))


end Go.Proofs.YtjghdbdiejaacaaGreatDoor

namespace Go.Proofs.YtjghdbdiejaacaaGreatDoor
open Go Go.Ab Ni
theorem en78 : Ent Tryz.prog 78 := Ent.of Tryz.func78 (by kernel_rfl) rfl
end Go.Proofs.YtjghdbdiejaacaaGreatDoor

namespace Go.Proofs.YtjghdbdiejaacaaGreatDoor
open Go Go.Ab Ni
theorem en48 : Ent Tryz.prog 48 := Ent.of Tryz.func48 (by kernel_rfl) rfl
end Go.Proofs.YtjghdbdiejaacaaGreatDoor

namespace Go.Proofs.YtjghdbdiejaacaaGreatDoor
open Go Go.Ab Ni
section
variable {r : Option Nat} {H : List AObj} {ρ : Operand → AV} {d : Option Tmp} {t : TypeId} {p : String} {af : Array Edge} {g : Option (Nat × Bool)} {x y : Operand} {yt : TypeId} {a b c e : Int}
end
set_option maxHeartbeats 400000 in
/-- kelir/kelirlaw03.short -/
theorem rshort_pure (p : Pl) : APure Tryz.prog 20 [plan p] (B (decide (p.scenes.length ≤ 12))) := by
 refine apure_of (rs := [.tmp 2]) Tryz.func20 rfl rfl (Nat.le_of_ble_eq_true rfl) (by simp [AV.pureL, AV.pureB, AV.pureE, pureE_map]) (rfl) fun e0 he0 => ?_
 refine aw_seq (aw_region ?_)
 refine sq_box rfl (lr _) rfl ?_
 refine asr (lr _) rfl ?_
 refine sq_nil (aw_seq (aw_region ?_))
 refine sq_ev rfl (ev_fieldAddr fo27_3 (lr _)) ?_
 refine sq_ev rfl (ev_load (lr _) rfl ty25 rfl) ?_
 refine sq_ev rfl (ev_len_map sl25 (lr _)) ?_
 refine sq_ev rfl (ev_leq (lr _) (lr _)) ?_
 refine asr (lr _) rfl ?_
 refine sq_nil (aw_ret ?_)
 exact retQ_pure (v := .raw _) rfl rfl (Less.eq (by simp; omega))


end Go.Proofs.YtjghdbdiejaacaaGreatDoor

namespace Go.Proofs.YtjghdbdiejaacaaGreatDoor
open Go Go.Ab Ni
theorem en20 : Ent Tryz.prog 20 := Ent.of Tryz.func20 (by kernel_rfl) rfl
theorem en21 : Ent Tryz.prog 21 := Ent.of Tryz.func21 (by kernel_rfl) rfl
theorem en24 : Ent Tryz.prog 24 := Ent.of Tryz.func24 (by kernel_rfl) rfl
theorem short_no {p : Pl} (h : ¬ p.scenes.length ≤ 12) : APure Tryz.prog 20 [plan p] (B false) := by have := rshort_pure p; simpa [h] using this
theorem short_yes {p : Pl} (h : p.scenes.length ≤ 12) : APure Tryz.prog 20 [plan p] (B true) := by have := rshort_pure p; simpa [h] using this
theorem plan_no {p : Pl} (hs : p.scenes.length ≤ 12) (h : PlOK p = false) : APure Tryz.prog 24 [plan p] (B false) := by have := plan_pure p (by omega); rwa [h] at this
theorem plan_yes {p : Pl} (hs : p.scenes.length ≤ 12) (h : PlOK p = true) : APure Tryz.prog 24 [plan p] (B true) := by have := plan_pure p (by omega); rwa [h] at this
end Go.Proofs.YtjghdbdiejaacaaGreatDoor

namespace Go.Proofs.YtjghdbdiejaacaaGreatDoor
open Go Go.Ab Ni
theorem en39 : Ent Tryz.prog 39 := Ent.of Tryz.func39 (by kernel_rfl) rfl
theorem en45 : Ent Tryz.prog 45 := Ent.of Tryz.func45 (by kernel_rfl) rfl
theorem en47 : Ent Tryz.prog 47 := Ent.of Tryz.func47 (by kernel_rfl) rfl
theorem en49 : Ent Tryz.prog 49 := Ent.of Tryz.func49 (by kernel_rfl) rfl
theorem en77 : Ent Tryz.prog 77 := Ent.of Tryz.func77 (by kernel_rfl) rfl

theorem nxJ_zero (p : Pl) (l : List Nat) (k : Nat) (a : Int) : nxJ p l k a 0 = [] := rfl
theorem nxT_succ (p : Pl) (l : List Nat) (k : Nat) (now : List Int) (i : Nat) : nxT p l k now (i + 1) = nxT p l k now i ++ nxA p l k (now.getD i 0) := by simp [nxT, fm_succ]
theorem nxJ_succ (p : Pl) (l : List Nat) (k : Nat) (a : Int) (j : Nat) : nxJ p l k a (j + 1) = nxJ p l k a j ++ nxI p l k a j := by simp [nxJ, fm_succ]
theorem now_bd {p : Pl} {l : List Nat} (gp : GP p) (k : Nat) : ∀ x ∈ nowS p l k, -10000 ≤ x ∧ x ≤ 10000 := fun x hx => by
  cases k with
  | zero => have := gp.beg; simp only [nowS, List.mem_singleton] at hx; omega
  | succ k =>
    have hx : x ∈ nxT p l k (nowS p l k) (nowS p l k).length := hx
    obtain ⟨a, _, h⟩ := mem_nxT.1 hx
    have h1 := mem_nxA.1 h
    have h2 := win_bd gp k
    omega
set_option maxHeartbeats 400000 in
/-- kelir/kelirref03.Window -/
theorem rwindow0_pure (p : Pl) : APure Tryz.prog 39 [plan p, I 0] (.agg (spanC (wl p 0) (wh p 0))) := by
  refine apure_of (rs := [.cell 4 23]) Tryz.func39 rfl rfl (Nat.le_of_ble_eq_true rfl) (by simp [AV.pureL, AV.pureB, AV.pureE, pureE_map]) (rfl) fun e0 he0 => ?_
  refine aw_seq (aw_region ?_)
  refine sq_box rfl (lr _) rfl ?_
  refine sq_alloc rfl z23 ?_
  refine sq_nil (aw_seq (aw_seq (aw_region ?_)))
  refine mvr (lr _) rfl ?_
  refine sq_ev rfl (ev_eql (lr _) (lr _)) ?_
  refine sq_nil ?_
  refine aw_cond (lr _) (fun c1 => ?_) (fun c1 => ?_)
  · skip
    have c1' := c1
    try simp only [qq] at c1'
    try exact absurd c1' (by decide)
  · skip
    have c1' := c1
    try simp only [qq] at c1'
    try exact absurd (by decide) c1'
    refine aw_skip (aw_seq (aw_region ?_))
    refine mvr (lr _) rfl ?_
    refine sq_ev rfl (ev_fieldAddr fo27_1 (lr _)) ?_
    refine sq_ev rfl (ev_index_box (k := 0) ar24 (lr _) (lr _) rfl (by decide)) ?_
    refine sq_ev rfl (ev_load_agg (lr _) rfl ty23 rfl) ?_
    refine sq_store rfl (lr _) (lr _) rfl rfl ty23 rfl rfl ?_
    refine sq_nil (aw_ret ?_)
    exact retQ_res (vs := [.agg _]) rfl rfl ⟨resVar_cell rfl rfl ty23 rfl, trivial⟩ (Less.eq (by simp [wl, wh]))

set_option maxHeartbeats 400000 in
/-- kelir/kelirref03.Window -/
theorem rwindow1_pure (p : Pl) : APure Tryz.prog 39 [plan p, I 1] (.agg (spanC (wl p 1) (wh p 1))) := by
 refine apure_of (rs := [.cell 4 23]) Tryz.func39 rfl rfl (Nat.le_of_ble_eq_true rfl) (by simp [AV.pureL, AV.pureB, AV.pureE, pureE_map]) (rfl) fun e0 he0 => ?_
 refine aw_seq (aw_region ?_)
 refine sq_box rfl (lr _) rfl ?_
 refine sq_alloc rfl z23 ?_
 refine sq_nil (aw_seq (aw_seq (aw_region ?_)))
 refine mvr (lr _) rfl ?_
 refine sq_ev rfl (ev_eql (lr _) (lr _)) ?_
 refine sq_nil ?_
 refine aw_cond (lr _) (fun c1 => ?_) (fun c1 => ?_)
 ·
  have c1' := c1
  try simp only [qq] at c1'
  try exact absurd c1' (by decide)
 ·
  have c1' := c1
  try simp only [qq] at c1'
  try exact absurd (by decide) c1'
  refine aw_skip (aw_seq (aw_region ?_))
  refine mvr (lr _) rfl ?_
  refine sq_ev rfl (ev_fieldAddr fo27_1 (lr _)) ?_
  refine sq_ev rfl (ev_index_box (k := 1) ar24 (lr _) (lr _) rfl (by decide)) ?_
  refine sq_ev rfl (ev_load_agg (lr _) rfl ty23 rfl) ?_
  refine sq_store rfl (lr _) (lr _) rfl rfl ty23 rfl rfl ?_
  refine sq_nil (aw_ret ?_)
  exact retQ_res (vs := [.agg _]) rfl rfl ⟨resVar_cell rfl rfl ty23 rfl, trivial⟩ (Less.eq (by simp [wl, wh]))

set_option maxHeartbeats 400000 in
/-- kelir/kelirref03.Window -/
theorem rwindow2_pure (p : Pl) : APure Tryz.prog 39 [plan p, I 2] (.agg (spanC (wl p 2) (wh p 2))) := by
 refine apure_of (rs := [.cell 4 23]) Tryz.func39 rfl rfl (Nat.le_of_ble_eq_true rfl) (by simp [AV.pureL, AV.pureB, AV.pureE, pureE_map]) (rfl) fun e0 he0 => ?_
 refine aw_seq (aw_region ?_)
 refine sq_box rfl (lr _) rfl ?_
 refine sq_alloc rfl z23 ?_
 refine sq_nil (aw_seq (aw_seq (aw_region ?_)))
 refine mvr (lr _) rfl ?_
 refine sq_ev rfl (ev_eql (lr _) (lr _)) ?_
 refine sq_nil ?_
 refine aw_cond (lr _) (fun c1 => ?_) (fun c1 => ?_)
 ·
  have c1' := c1
  try simp only [qq] at c1'
  try exact absurd c1' (by decide)
  refine aw_seq (aw_region ?_)
  refine sq_ev rfl (ev_fieldAddr fo27_2 (lr _)) ?_
  refine sq_ev rfl (ev_load_agg (lr _) rfl ty23 rfl) ?_
  refine sq_store rfl (lr _) (lr _) rfl rfl ty23 rfl rfl ?_
  refine sq_nil (aw_ret ?_)
  exact retQ_res (vs := [.agg _]) rfl rfl ⟨resVar_cell rfl rfl ty23 rfl, trivial⟩ (Less.eq (by simp [wl, wh]))
 ·
  have c1' := c1
  try simp only [qq] at c1'
  try exact absurd (by decide) c1'

theorem rwindow_pure (p : Pl) (k : Nat) (h : k < 3) : APure Tryz.prog 39 [plan p, I k] (.agg (spanC (wl p k) (wh p k))) := by
  rcases k with _ | _ | _ | k
  · exact rwindow0_pure p
  · exact rwindow1_pure p
  · exact rwindow2_pure p
  · omega

set_option maxHeartbeats 400000 in
/-- kelir/kelirlaw03.slim -/
theorem rslim_pure (l : List Int) : APure Tryz.prog 45 [ints l] (B (decide (l.length ≤ 12))) := by
 refine apure_of (rs := [.tmp 2]) Tryz.func45 rfl rfl (Nat.le_of_ble_eq_true rfl) (by simp [AV.pureL, AV.pureB, AV.pureE, pureE_map]) (rfl) fun e0 he0 => ?_
 refine aw_seq (aw_region ?_)
 refine asr (lr _) rfl ?_
 refine sq_nil (aw_seq (aw_region ?_))
 refine sq_ev rfl (ev_mv (v := .sl _ _) (lr _)) ?_
 refine sq_ev rfl (ev_len_map sl34 (lr _)) ?_
 refine sq_ev rfl (ev_leq (lr _) (lr _)) ?_
 refine asr (lr _) rfl ?_
 refine sq_nil (aw_ret ?_)
 exact retQ_pure (v := .raw _) rfl rfl (Less.eq (by simp; omega))

set_option maxHeartbeats 400000 in
/-- kelir/kelirlaw03.choice -/
theorem rchoice_pure (p : Pl) (l : List Int) (hp : p.scenes.length ≤ 1000000) (hl : l.length ≤ 1000000) : APure Tryz.prog 47 [plan p, ints l] (B (Ris p l && isCh p l)) := by
 refine apure_of (rs := [.tmp 4]) Tryz.func47 rfl rfl (Nat.le_of_ble_eq_true rfl) (by simp [AV.pureL, AV.pureB, AV.pureE, pureE_map]) (rfl) fun e0 he0 => ?_
 refine aw_seq (aw_region ?_)
 refine sq_box rfl (lr _) rfl ?_
 refine asr (lr _) rfl ?_
 refine sq_nil (aw_seq (aw_region ?_))
 refine sq_ev rfl (ev_load_agg (lr _) rfl ty27 rfl) ?_
 refine sq_ev rfl (ev_mv (v := .sl _ _) (lr _)) ?_
 refine sq_ev rfl (ev_call en77 (lr _) (rising_pure p l hp hl) ⟨lr _, lr _, trivial⟩) ?_
 refine mvr (lr _) rfl ?_
 refine sq_split 8 (lr _) (fun g1 => ?_) (fun g1 => ?_)
 ·
  have g1' := g1
  try simp only [qq] at g1'
  refine sq_yes rfl rfl (less_b g1) rfl (ev_load_agg (lr _) rfl ty27 rfl) ?_
  refine sq_yes rfl rfl (less_b g1) rfl (ev_mv (v := .sl _ _) (lr _)) ?_
  refine sq_yes rfl rfl (less_b g1) rfl (ev_call en78 (lr _) (choice_pure p l hp hl) ⟨lr _, lr _, trivial⟩) ?_
  refine sq_ev rfl (ev_pickT (v := .raw _) (less_b g1) (lr _)) ?_
  refine asr (lr _) rfl ?_
  refine sq_nil (aw_ret ?_)
  exact retQ_pure (v := .raw _) rfl rfl (Less.eq (by simp [*]))
 ·
  have g1' := g1
  try simp only [qq] at g1'
  refine sq_no rfl rfl (less_b g1) rfl rfl ?_
  refine sq_no rfl rfl (less_b g1) rfl rfl ?_
  refine sq_no rfl rfl (less_b g1) rfl rfl ?_
  refine sq_ev rfl (ev_pickF (v := .raw _) (less_b g1) (lr _)) ?_
  refine asr (lr _) rfl ?_
  refine sq_nil (aw_ret ?_)
  exact retQ_pure (v := .raw _) rfl rfl (Less.eq (by simp [*]))

set_option maxHeartbeats 4000000 in
/-- kelir/kelirref03.Fails -/
theorem rfails_pure (p : Pl) (l : List Nat) (gp : GP p) (wp : WP p) (cv : CV p l) : APure Tryz.prog 49 [plan p, nats l] (.tup [I (rfails p l).1, I (rfails p l).2]) := by
 refine apure_of (rs := [.tmp 4, .tmp 5]) Tryz.func49 rfl rfl (Nat.le_of_ble_eq_true rfl) (by simp [AV.pureL, AV.pureB, AV.pureE, pureE_map]) (by simp [AV.pureL, AV.pureB, AV.pureE, pureE_map]) fun e0 he0 => ?_
 refine aw_seq (aw_region ?_)
 refine sq_box rfl (lr _) rfl ?_
 refine asr (lr _) rfl ?_
 refine asr (lr _) rfl ?_
 refine sq_nil (aw_seq (aw_region ?_))
 refine sq_ev rfl (ev_load_agg (lr _) rfl ty27 rfl) ?_
 refine sq_ev rfl (ev_mv (v := .sl _ _) (lr _)) ?_
 refine sq_ev rfl (ev_call en110 (lr _) (whole_pure _ _ gp cv) ⟨lr _, lr _, trivial⟩) ?_
 refine sq_alloc rfl z120 ?_
 refine sq_store rfl (lr _) (lr _) rfl rfl ty120 rfl rfl ?_
 refine sq_nil (aw_seq (aw_region ?_))
 refine sq_ev rfl (ev_fieldAddr fo27_0 (lr _)) ?_
 refine sq_ev rfl (ev_load (lr _) rfl ty3 rfl) ?_
 refine sq_ev rfl (ev_buildSlice (es := [[_]]) sf34 rfl rfl rfl rfl) ?_
 refine sq_ev rfl (ev_as (v := .slx _ _) (lr _)) ?_
 refine sq_nil (aw_seq (aw_seq (aw_region ?_)))
 refine asr (lr _) rfl ?_
 refine sq_nil (aw_block ?_)
 refine aw_loopk (ι := { k : Nat // k ≤ 3 ∧ ∀ j, j < k → nowS p l (j + 1) ≠ [] }) [2, 6] (fun k => [(8, I k.1), (7, ints (nowS p l k.1))]) (fun H k => H) (fun k => 3 - k.1) (⟨0, by omega, by omega⟩) ⟨lr _, (by exact less_slx _ _), lr _, lr _, trivial⟩ rfl ?_
 rintro ⟨k, hk, hnz⟩
 dsimp only [keepS, St.put, sget, slotsOf, List.map_cons, List.map_nil, List.cons_append, List.nil_append, List.length_cons, List.length_nil, Nat.reduceBEq, Nat.reduceAdd, cond_true, cond_false]
 refine aw_seq (aw_seq (aw_region ?_))
 refine mvr (lr _) rfl ?_
 refine sq_ev rfl (ev_lss (lr _) (lr _)) ?_
 refine sq_nil ?_
 refine aw_cond (lr _) (fun c1 => ?_) (fun c1 => ?_)
 ·
  have c1' := c1
  try simp only [qq] at c1'
  have hk3 : k < 3 := by omega
  have hwb := win_bd gp k
  have hww : (wid (wl p k) (wh p k) : Int) = wh p k - wl p k + 1 := by have := win_le wp k; unfold wid; omega
  have hlo : (wcells p l)[0 + k * 2 + 0]? = some (I (lo p l k 0 10)) := (by rcases k with _ | _ | _ | k <;> first | rfl | omega)
  have hble : Nat.ble (0 + k * 2 + 2) (wcells p l).length = true := (by rcases k with _ | _ | _ | k <;> first | rfl | omega)
  have hag : AV.agg (((wcells p l).drop (0 + k * 2)).take 2) = .agg [I (lo p l k 0 10), I (hi p l k 0 10)] := (by rcases k with _ | _ | _ | k <;> first | rfl | omega)
  have hlb := lo_bd' gp cv k 0 10
  refine aw_skip (aw_seq (aw_block (aw_seq (aw_region ?_))))
  refine sq_ev rfl (ev_load_agg (lr _) rfl ty27 rfl) ?_
  refine mvr (lr _) rfl ?_
  refine sq_ev rfl (ev_call en39 (lr _) (rwindow_pure p k hk3) ⟨lr _, lr _, trivial⟩) ?_
  refine sq_alloc rfl z23 ?_
  refine sq_store rfl (lr _) (lr _) rfl rfl ty23 rfl rfl ?_
  refine sq_nil (aw_seq (aw_region ?_))
  refine asr (lr _) rfl ?_
  refine sq_nil (aw_seq (aw_region ?_))
  refine asr (lr _) rfl ?_
  refine sq_nil (aw_seq (aw_seq (aw_region ?_)))
  refine asr (lr _) rfl ?_
  refine sq_nil (aw_block ?_)
  refine aw_sub (sub_token 10 1 (lr _)) ?_
  refine aw_loopk (ι := { q : Nat // q ≤ (nowS p l k).length }) [2, 6, 7, 8, 9] (fun i => [(12, I i.1), (10, .own 3 1 ((nxT p l k (nowS p l k) i.1).map (fun x => [I x]))), (11, I (oversT p l k (nowS p l k) i.1))]) (fun H i => H.set 3 (.tok ((nxT p l k (nowS p l k) i.1).map fun x => [I x]).length)) (fun i => (nowS p l k).length - i.1) (⟨0, Nat.zero_le _⟩) ⟨lr _, lr _, lr _, lr _, lr _, lr _, lr _, lr _, trivial⟩ rfl ?_
  rintro ⟨i, hii⟩
  dsimp only [keepS, St.put, sget, slotsOf, List.map_cons, List.map_nil, List.cons_append, List.nil_append, List.length_cons, List.length_nil, Nat.reduceBEq, Nat.reduceAdd, cond_true, cond_false]
  have hnl := now_len gp l (k := k) (by omega)
  have hxl := nxT_len gp l k (nowS p l k) i
  have hwi := wid_le hwb.1.1 hwb.2.2
  refine aw_seq (aw_seq (aw_region ?_))
  refine mvr (lr _) rfl ?_
  refine sq_ev rfl (ev_mv (v := .sl _ _) (lr _)) ?_
  refine sq_ev rfl (ev_len_map sl34 (lr _)) ?_
  refine sq_ev rfl (ev_lss (lr _) (lr _)) ?_
  refine sq_nil ?_
  refine aw_cond (lr _) (fun c2 => ?_) (fun c2 => ?_)
  ·
   have c2' := c2
   try simp only [qq] at c2'
   have hi' : i < (nowS p l k).length := by omega
   have hgd : (nowS p l k).getD i 0 = (nowS p l k)[i] := by rw [List.getD_eq_getElem?_getD, List.getElem?_eq_getElem hi']; rfl
   have hnb := now_bd gp k _ (List.getElem_mem hi')
   refine aw_skip (aw_seq (aw_block (aw_seq (aw_seq ?_))))
   refine aw_draw 12 mo (by kernel_rfl) ?_
   refine dr_ev rfl (ev_mv (v := .sl _ _) (lr _)) ?_
   refine dr_ev rfl (ev_mv (v := .raw _) (lr _)) ?_
   refine dr_ev rfl (ev_index_map sl34 (lr _) (lr _) rfl (by omega)) ?_
   refine dr_ev rfl (ev_load_i (lr _) ty3 rfl) ?_
   refine dr_ev rfl (ev_mv (v := .raw _) (lr _)) ?_
   refine dr_ev rfl (ev_index_box (k := k) ar120 (lr _) (lr _) rfl (by omega)) ?_
   refine dr_ev rfl (ev_fieldAddr fo23_0 (lr _)) ?_
   refine dr_ev rfl (ev_load (v := I (lo p l k 0 10)) (lr _) rfl ty3 hlo) ?_
   refine dr_ev rfl (ev_add (lr _) (lr _) (wr (by omega) (by omega))) ?_
   refine dr_ev rfl (ev_fieldAddr fo23_1 (lr _)) ?_
   refine dr_ev rfl (ev_load (lr _) rfl ty3 rfl) ?_
   refine dr_ev rfl (ev_gtr (lr _) (lr _)) ?_
   refine dr_end (sq_nil ?_)
   refine aw_cond (lr _) (fun c3 => ?_) (fun c3 => ?_)
   ·
    have c3' := c3
    try simp only [qq] at c3'
    have eO : (2 : Int) = oversT p l k (nowS p l k) (i + 1) := by rw [oversT, hgd, if_pos (by omega)]
    refine aw_region ?_
    refine asr (lr _) rfl ?_
    refine sq_nil (aw_seq (aw_region ?_))
    refine sq_ev rfl (ev_fieldAddr fo23_0 (lr _)) ?_
    refine sq_ev rfl (ev_load (lr _) rfl ty3 rfl) ?_
    refine asr (lr _) rfl ?_
    refine sq_nil (aw_block ?_)
    refine aw_loopk (ι := { j : Nat // j ≤ wid (wl p k) (wh p k) }) [2, 6, 7, 8, 9, 11, 12] (fun j => [(13, I (wl p k + j.1)), (10, .own 3 1 (((nxT p l k (nowS p l k) i ++ nxJ p l k (nowS p l k)[i] j.1)).map (fun x => [I x])))]) (fun H j => H.set 3 (.tok (((nxT p l k (nowS p l k) i ++ nxJ p l k (nowS p l k)[i] j.1)).map (fun x => [I x])).length)) (fun j => wid (wl p k) (wh p k) - j.1) (⟨0, Nat.zero_le _⟩) ⟨(by exact less_int (by simp)), (by exact Less.eq (a := .own 3 1 ((nxT p l k (nowS p l k) i).map (fun x => [I x]))) (by rw [nxJ_zero, List.append_nil])), lr _, lr _, lr _, lr _, lr _, lr _, lr _, trivial⟩ (by rw [nxJ_zero, List.append_nil]; rfl) ?_
    rintro ⟨j, hj⟩
    dsimp only [keepS, St.put, sget, slotsOf, List.map_cons, List.map_nil, List.cons_append, List.nil_append, List.length_cons, List.length_nil, Nat.reduceBEq, Nat.reduceAdd, cond_true, cond_false]
    have hjl := nxJ_len gp l k (nowS p l k)[i] hj
    refine aw_seq (aw_seq (aw_region ?_))
    refine mvr (lr _) rfl ?_
    refine sq_ev rfl (ev_fieldAddr fo23_1 (lr _)) ?_
    refine sq_ev rfl (ev_load (lr _) rfl ty3 rfl) ?_
    refine sq_ev rfl (ev_leq (lr _) (lr _)) ?_
    refine sq_nil ?_
    refine aw_cond (lr _) (fun c4 => ?_) (fun c4 => ?_)
    ·
     have c4' := c4
     try simp only [qq] at c4'
     have hj' : j < wid (wl p k) (wh p k) := by omega
     refine aw_skip (aw_seq (aw_block (aw_seq ?_)))
     refine aw_draw 10 mo (by kernel_rfl) ?_
     refine dr_ev rfl (ev_mv (v := .raw _) (lr _)) ?_
     refine dr_ev rfl (ev_mv (v := .sl _ _) (lr _)) ?_
     refine dr_ev rfl (ev_mv (v := .raw _) (lr _)) ?_
     refine dr_ev rfl (ev_index_map sl34 (lr _) (lr _) rfl (by omega)) ?_
     refine dr_ev rfl (ev_load_i (lr _) ty3 rfl) ?_
     refine dr_ev rfl (ev_sub (lr _) (lr _) (wr (by omega) (by omega))) ?_
     refine dr_ev rfl (ev_mv (v := .raw _) (lr _)) ?_
     refine dr_ev rfl (ev_index_box (k := k) ar120 (lr _) (lr _) rfl (by omega)) ?_
     refine dr_ev rfl (ev_less (ev_load_agg (lr _) rfl ty23 hble) (Less.eq (b := .agg [I (lo p l k 0 10), I (hi p l k 0 10)]) hag)) ?_
     refine dr_ev rfl (ev_call en111 (lr _) (within_pure _ _ _) ⟨lr _, lr _, trivial⟩) ?_
     refine dr_end (sq_nil ?_)
     refine aw_cond (lr _) (fun c5 => ?_) (fun c5 => ?_)
     ·
      have c5' := c5
      try simp only [qq] at c5'
      have e3 : ((nxT p l k (nowS p l k) i ++ nxJ p l k (nowS p l k)[i] (j + 1))).map (fun x => [I x]) = ((nxT p l k (nowS p l k) i ++ nxJ p l k (nowS p l k)[i] j)).map (fun x => [I x]) ++ [[I (wl p k + j)]] := by rw [nxJ_succ, nxI, if_pos (by simpa using c5')]; simp
      have e4 : (((nxT p l k (nowS p l k) i ++ nxJ p l k (nowS p l k)[i] (j + 1))).map (fun x => [I x])).length = (((nxT p l k (nowS p l k) i ++ nxJ p l k (nowS p l k)[i] j)).map (fun x => [I x]) ++ [[I (wl p k + j)]]).length := by rw [e3]
      refine aw_region ?_
      refine sq_ev rfl (ev_mv (v := .own _ _ _) (lr _)) ?_
      refine mvr (lr _) rfl ?_
      refine sq_ev rfl (ev_buildSlice (es := [[_]]) sf34 rfl rfl rfl rfl) ?_
      refine sq_append rfl sf34 Tryz.underlying34 rfl rfl (less_slx _ _) (Nat.succ_pos _) (by simp; omega) (by simp; omega) ?_
      refine sq_ev rfl (ev_as (v := .own _ _ _) (lr _)) ?_
      refine sq_nil (aw_region ?_)
      refine mvr (lr _) rfl ?_
      refine sq_ev rfl (ev_add (lr _) (lr _) (wr (by omega) (by omega))) ?_
      refine asr (lr _) rfl ?_
      refine sq_nil ?_
      exact ⟨⟨j + 1, by omega⟩, by simp only; omega, Sub.fin 4 ⟨less_int (by first | omega | (simp only; omega)), Less.eq (b := .own 3 1 (((nxT p l k (nowS p l k) i ++ nxJ p l k (nowS p l k)[i] (j + 1))).map (fun x => [I x]))) (by rw [e3]; rfl), lr _, lr _, lr _, lr _, lr _, lr _, lr _, trivial⟩ (congrArg (fun n => [_, _, _, AObj.tok n]) e4.symm) (by simp [slotsIn, objsIn, sget, keepS, AObj.inB, AV.inB, AV.inL, AV.inE, inE_map, inE_ints, inE_sc, -List.map_append, -List.map_take, -List.map_map]) (by simp [slotsIn, objsIn, sget, keepS, AObj.inB, AV.inB, AV.inL, AV.inE, inE_map, inE_ints, inE_sc, -List.map_append, -List.map_take, -List.map_map]) (by simp [he0])⟩
     ·
      have c5' := c5
      try simp only [qq] at c5'
      have e3 : ((nxT p l k (nowS p l k) i ++ nxJ p l k (nowS p l k)[i] (j + 1))).map (fun x => [I x]) = ((nxT p l k (nowS p l k) i ++ nxJ p l k (nowS p l k)[i] j)).map (fun x => [I x]) := by rw [nxJ_succ, nxI, if_neg (by simpa using c5')]; simp
      have e4 : (((nxT p l k (nowS p l k) i ++ nxJ p l k (nowS p l k)[i] (j + 1))).map (fun x => [I x])).length = (((nxT p l k (nowS p l k) i ++ nxJ p l k (nowS p l k)[i] j)).map (fun x => [I x])).length := by rw [e3]
      refine aw_skip (aw_region ?_)
      refine mvr (lr _) rfl ?_
      refine sq_ev rfl (ev_add (lr _) (lr _) (wr (by omega) (by omega))) ?_
      refine asr (lr _) rfl ?_
      refine sq_nil ?_
      exact ⟨⟨j + 1, by omega⟩, by simp only; omega, Sub.fin 4 ⟨less_int (by first | omega | (simp only; omega)), Less.eq (b := .own 3 1 (((nxT p l k (nowS p l k) i ++ nxJ p l k (nowS p l k)[i] (j + 1))).map (fun x => [I x]))) (by rw [e3]; rfl), lr _, lr _, lr _, lr _, lr _, lr _, lr _, trivial⟩ (congrArg (fun n => [_, _, _, AObj.tok n]) e4.symm) (by simp [slotsIn, objsIn, sget, keepS, AObj.inB, AV.inB, AV.inL, AV.inE, inE_map, inE_ints, inE_sc, -List.map_append, -List.map_take, -List.map_map]) (by simp [slotsIn, objsIn, sget, keepS, AObj.inB, AV.inB, AV.inL, AV.inE, inE_map, inE_ints, inE_sc, -List.map_append, -List.map_take, -List.map_map]) (by simp [he0])⟩
    ·
     have c4' := c4
     try simp only [qq] at c4'
     obtain rfl : j = wid (wl p k) (wh p k) := by omega
     have eS : (nxT p l k (nowS p l k) (i + 1)).map (fun x => [I x]) = ((nxT p l k (nowS p l k) i ++ nxJ p l k (nowS p l k)[i] (wid (wl p k) (wh p k)))).map (fun x => [I x]) := by rw [nxT_succ, hgd]; rfl
     refine aw_exit (aw_region ?_)
     refine mvr (lr _) rfl ?_
     refine sq_ev rfl (ev_add (lr _) (lr _) (wr (by omega) (by omega))) ?_
     refine asr (lr _) rfl ?_
     refine sq_nil ?_
     exact ⟨⟨i + 1, by omega⟩, by simp only; omega, Sub.fin 4 ⟨lr _, Less.eq (b := .own 3 1 ((nxT p l k (nowS p l k) (i + 1)).map (fun x => [I x]))) (by rw [eS] <;> rfl), (by exact less_int eO), lr _, lr _, lr _, lr _, lr _, trivial⟩ (congrArg (fun n => [_, _, _, AObj.tok n]) (congrArg List.length eS.symm)) (by simp [slotsIn, objsIn, sget, keepS, AObj.inB, AV.inB, AV.inL, AV.inE, inE_map, inE_ints, inE_sc, -List.map_append, -List.map_take, -List.map_map]) (by simp [slotsIn, objsIn, sget, keepS, AObj.inB, AV.inB, AV.inL, AV.inE, inE_map, inE_ints, inE_sc, -List.map_append, -List.map_take, -List.map_map]) (by simp [he0])⟩
   ·
    have c3' := c3
    try simp only [qq] at c3'
    have eO : oversT p l k (nowS p l k) i = oversT p l k (nowS p l k) (i + 1) := by rw [oversT, hgd, if_neg (by omega)]
    refine aw_skip (aw_seq (aw_region ?_))
    refine sq_ev rfl (ev_fieldAddr fo23_0 (lr _)) ?_
    refine sq_ev rfl (ev_load (lr _) rfl ty3 rfl) ?_
    refine asr (lr _) rfl ?_
    refine sq_nil (aw_block ?_)
    refine aw_loopk (ι := { j : Nat // j ≤ wid (wl p k) (wh p k) }) [2, 6, 7, 8, 9, 11, 12] (fun j => [(13, I (wl p k + j.1)), (10, .own 3 1 (((nxT p l k (nowS p l k) i ++ nxJ p l k (nowS p l k)[i] j.1)).map (fun x => [I x])))]) (fun H j => H.set 3 (.tok (((nxT p l k (nowS p l k) i ++ nxJ p l k (nowS p l k)[i] j.1)).map (fun x => [I x])).length)) (fun j => wid (wl p k) (wh p k) - j.1) (⟨0, Nat.zero_le _⟩) ⟨(by exact less_int (by simp)), (by exact Less.eq (a := .own 3 1 ((nxT p l k (nowS p l k) i).map (fun x => [I x]))) (by rw [nxJ_zero, List.append_nil])), lr _, lr _, lr _, lr _, lr _, lr _, lr _, trivial⟩ (by rw [nxJ_zero, List.append_nil]; rfl) ?_
    rintro ⟨j, hj⟩
    dsimp only [keepS, St.put, sget, slotsOf, List.map_cons, List.map_nil, List.cons_append, List.nil_append, List.length_cons, List.length_nil, Nat.reduceBEq, Nat.reduceAdd, cond_true, cond_false]
    have hjl := nxJ_len gp l k (nowS p l k)[i] hj
    refine aw_seq (aw_seq (aw_region ?_))
    refine mvr (lr _) rfl ?_
    refine sq_ev rfl (ev_fieldAddr fo23_1 (lr _)) ?_
    refine sq_ev rfl (ev_load (lr _) rfl ty3 rfl) ?_
    refine sq_ev rfl (ev_leq (lr _) (lr _)) ?_
    refine sq_nil ?_
    refine aw_cond (lr _) (fun c6 => ?_) (fun c6 => ?_)
    ·
     have c6' := c6
     try simp only [qq] at c6'
     have hj' : j < wid (wl p k) (wh p k) := by omega
     refine aw_skip (aw_seq (aw_block (aw_seq ?_)))
     refine aw_draw 10 mo (by kernel_rfl) ?_
     refine dr_ev rfl (ev_mv (v := .raw _) (lr _)) ?_
     refine dr_ev rfl (ev_mv (v := .sl _ _) (lr _)) ?_
     refine dr_ev rfl (ev_mv (v := .raw _) (lr _)) ?_
     refine dr_ev rfl (ev_index_map sl34 (lr _) (lr _) rfl (by omega)) ?_
     refine dr_ev rfl (ev_load_i (lr _) ty3 rfl) ?_
     refine dr_ev rfl (ev_sub (lr _) (lr _) (wr (by omega) (by omega))) ?_
     refine dr_ev rfl (ev_mv (v := .raw _) (lr _)) ?_
     refine dr_ev rfl (ev_index_box (k := k) ar120 (lr _) (lr _) rfl (by omega)) ?_
     refine dr_ev rfl (ev_less (ev_load_agg (lr _) rfl ty23 hble) (Less.eq (b := .agg [I (lo p l k 0 10), I (hi p l k 0 10)]) hag)) ?_
     refine dr_ev rfl (ev_call en111 (lr _) (within_pure _ _ _) ⟨lr _, lr _, trivial⟩) ?_
     refine dr_end (sq_nil ?_)
     refine aw_cond (lr _) (fun c7 => ?_) (fun c7 => ?_)
     ·
      have c7' := c7
      try simp only [qq] at c7'
      have e3 : ((nxT p l k (nowS p l k) i ++ nxJ p l k (nowS p l k)[i] (j + 1))).map (fun x => [I x]) = ((nxT p l k (nowS p l k) i ++ nxJ p l k (nowS p l k)[i] j)).map (fun x => [I x]) ++ [[I (wl p k + j)]] := by rw [nxJ_succ, nxI, if_pos (by simpa using c7')]; simp
      have e4 : (((nxT p l k (nowS p l k) i ++ nxJ p l k (nowS p l k)[i] (j + 1))).map (fun x => [I x])).length = (((nxT p l k (nowS p l k) i ++ nxJ p l k (nowS p l k)[i] j)).map (fun x => [I x]) ++ [[I (wl p k + j)]]).length := by rw [e3]
      refine aw_region ?_
      refine sq_ev rfl (ev_mv (v := .own _ _ _) (lr _)) ?_
      refine mvr (lr _) rfl ?_
      refine sq_ev rfl (ev_buildSlice (es := [[_]]) sf34 rfl rfl rfl rfl) ?_
      refine sq_append rfl sf34 Tryz.underlying34 rfl rfl (less_slx _ _) (Nat.succ_pos _) (by simp; omega) (by simp; omega) ?_
      refine sq_ev rfl (ev_as (v := .own _ _ _) (lr _)) ?_
      refine sq_nil (aw_region ?_)
      refine mvr (lr _) rfl ?_
      refine sq_ev rfl (ev_add (lr _) (lr _) (wr (by omega) (by omega))) ?_
      refine asr (lr _) rfl ?_
      refine sq_nil ?_
      exact ⟨⟨j + 1, by omega⟩, by simp only; omega, Sub.fin 4 ⟨less_int (by first | omega | (simp only; omega)), Less.eq (b := .own 3 1 (((nxT p l k (nowS p l k) i ++ nxJ p l k (nowS p l k)[i] (j + 1))).map (fun x => [I x]))) (by rw [e3]; rfl), lr _, lr _, lr _, lr _, lr _, lr _, lr _, trivial⟩ (congrArg (fun n => [_, _, _, AObj.tok n]) e4.symm) (by simp [slotsIn, objsIn, sget, keepS, AObj.inB, AV.inB, AV.inL, AV.inE, inE_map, inE_ints, inE_sc, -List.map_append, -List.map_take, -List.map_map]) (by simp [slotsIn, objsIn, sget, keepS, AObj.inB, AV.inB, AV.inL, AV.inE, inE_map, inE_ints, inE_sc, -List.map_append, -List.map_take, -List.map_map]) (by simp [he0])⟩
     ·
      have c7' := c7
      try simp only [qq] at c7'
      have e3 : ((nxT p l k (nowS p l k) i ++ nxJ p l k (nowS p l k)[i] (j + 1))).map (fun x => [I x]) = ((nxT p l k (nowS p l k) i ++ nxJ p l k (nowS p l k)[i] j)).map (fun x => [I x]) := by rw [nxJ_succ, nxI, if_neg (by simpa using c7')]; simp
      have e4 : (((nxT p l k (nowS p l k) i ++ nxJ p l k (nowS p l k)[i] (j + 1))).map (fun x => [I x])).length = (((nxT p l k (nowS p l k) i ++ nxJ p l k (nowS p l k)[i] j)).map (fun x => [I x])).length := by rw [e3]
      refine aw_skip (aw_region ?_)
      refine mvr (lr _) rfl ?_
      refine sq_ev rfl (ev_add (lr _) (lr _) (wr (by omega) (by omega))) ?_
      refine asr (lr _) rfl ?_
      refine sq_nil ?_
      exact ⟨⟨j + 1, by omega⟩, by simp only; omega, Sub.fin 4 ⟨less_int (by first | omega | (simp only; omega)), Less.eq (b := .own 3 1 (((nxT p l k (nowS p l k) i ++ nxJ p l k (nowS p l k)[i] (j + 1))).map (fun x => [I x]))) (by rw [e3]; rfl), lr _, lr _, lr _, lr _, lr _, lr _, lr _, trivial⟩ (congrArg (fun n => [_, _, _, AObj.tok n]) e4.symm) (by simp [slotsIn, objsIn, sget, keepS, AObj.inB, AV.inB, AV.inL, AV.inE, inE_map, inE_ints, inE_sc, -List.map_append, -List.map_take, -List.map_map]) (by simp [slotsIn, objsIn, sget, keepS, AObj.inB, AV.inB, AV.inL, AV.inE, inE_map, inE_ints, inE_sc, -List.map_append, -List.map_take, -List.map_map]) (by simp [he0])⟩
    ·
     have c6' := c6
     try simp only [qq] at c6'
     obtain rfl : j = wid (wl p k) (wh p k) := by omega
     have eS : (nxT p l k (nowS p l k) (i + 1)).map (fun x => [I x]) = ((nxT p l k (nowS p l k) i ++ nxJ p l k (nowS p l k)[i] (wid (wl p k) (wh p k)))).map (fun x => [I x]) := by rw [nxT_succ, hgd]; rfl
     refine aw_exit (aw_region ?_)
     refine mvr (lr _) rfl ?_
     refine sq_ev rfl (ev_add (lr _) (lr _) (wr (by omega) (by omega))) ?_
     refine asr (lr _) rfl ?_
     refine sq_nil ?_
     exact ⟨⟨i + 1, by omega⟩, by simp only; omega, Sub.fin 4 ⟨lr _, Less.eq (b := .own 3 1 ((nxT p l k (nowS p l k) (i + 1)).map (fun x => [I x]))) (by rw [eS] <;> rfl), (by exact less_int eO), lr _, lr _, lr _, lr _, lr _, trivial⟩ (congrArg (fun n => [_, _, _, AObj.tok n]) (congrArg List.length eS.symm)) (by simp [slotsIn, objsIn, sget, keepS, AObj.inB, AV.inB, AV.inL, AV.inE, inE_map, inE_ints, inE_sc, -List.map_append, -List.map_take, -List.map_map]) (by simp [slotsIn, objsIn, sget, keepS, AObj.inB, AV.inB, AV.inL, AV.inE, inE_map, inE_ints, inE_sc, -List.map_append, -List.map_take, -List.map_map]) (by simp [he0])⟩
  ·
   have c2' := c2
   try simp only [qq] at c2'
   obtain rfl : i = (nowS p l k).length := by omega
   refine aw_exit (aw_seq (aw_seq (aw_region ?_)))
   refine sq_ev rfl (ev_mv (v := .own _ _ _) (lr _)) ?_
   refine sq_ev rfl (ev_len_map sl34 (less_own _ _ _)) ?_
   refine sq_ev rfl (ev_eql (lr _) (lr _)) ?_
   refine sq_nil ?_
   refine aw_cond (lr _) (fun c8 => ?_) (fun c8 => ?_)
   ·
    have c8' := c8
    try simp only [qq] at c8'
    have hnil : nowS p l (k + 1) = [] := List.length_eq_zero_iff.1 (by show (nxT p l k (nowS p l k) (nowS p l k).length).length = 0; omega)
    refine aw_seq (aw_region ?_)
    refine mvr (lr _) rfl ?_
    refine mvr (lr _) rfl ?_
    refine asr (lr _) rfl ?_
    refine asr (lr _) rfl ?_
    refine sq_nil (aw_ret ?_)
    exact retQ_pure (v := .tup [.raw _, .raw _]) rfl rfl (Less.eq (by rw [rfails_at hk3 hnz hnil]; rfl))
   ·
    have c8' := c8
    try simp only [qq] at c8'
    have hne : ¬ (nowS p l (k + 1)).length = 0 := by show ¬ (nxT p l k (nowS p l k) (nowS p l k).length).length = 0; omega
    refine aw_skip (aw_region ?_)
    refine sq_ev rfl (ev_mv (v := .own _ _ _) (lr _)) ?_
    refine sq_ev rfl (ev_as (v := .own _ _ _) (lr _)) ?_
    refine sq_nil (aw_region ?_)
    refine mvr (lr _) rfl ?_
    refine sq_ev rfl (ev_add (lr _) (lr _) (wr (by omega) (by omega))) ?_
    refine asr (lr _) rfl ?_
    refine sq_nil ?_
    exact ⟨⟨k + 1, by omega, fun j hj => (by by_cases e : j = k; (subst e; intro e0; have e1 := congrArg List.length e0; exact hne e1); exact hnz j (by omega))⟩, by simp only; omega, Sub.fin 2 ⟨lr _, Less.trans (less_own _ _ _) (Less.eq (by rfl)), lr _, lr _, trivial⟩ rfl (by simp [slotsIn, objsIn, sget, keepS, AObj.inB, AV.inB, AV.inL, AV.inE, inE_map, inE_ints, inE_sc, -List.map_append, -List.map_take, -List.map_map]) (by simp [slotsIn, objsIn, sget, keepS, AObj.inB, AV.inB, AV.inL, AV.inE, inE_map, inE_ints, inE_sc, -List.map_append, -List.map_take, -List.map_map]) (by simp [he0])⟩
 ·
  have c1' := c1
  try simp only [qq] at c1'
  obtain rfl : k = 3 := by omega
  refine aw_exit (aw_seq (aw_region ?_))
  refine asr (lr _) rfl ?_
  refine asr (lr _) rfl ?_
  refine sq_nil (aw_ret ?_)
  exact retQ_pure (v := .tup [.raw _, .raw _]) rfl rfl (Less.eq (by rw [rfails_end hnz]; rfl))


end Go.Proofs.YtjghdbdiejaacaaGreatDoor

namespace Go.Proofs.YtjghdbdiejaacaaGreatDoor
open Go Go.Ab Ni


theorem slim_no {l : List Int} (h : ¬ l.length ≤ 12) : APure Tryz.prog 45 [ints l] (B false) := by have := rslim_pure l; simpa [h] using this
theorem slim_yes {l : List Int} (h : l.length ≤ 12) : APure Tryz.prog 45 [ints l] (B true) := by have := rslim_pure l; simpa [h] using this
theorem ints_up (l : List Nat) : ints (up l) = nats l := by simp only [ints, eup]
theorem slim_yesN {l : List Nat} (h : l.length ≤ 12) : APure Tryz.prog 45 [nats l] (B true) := by have := slim_yes (l := up l) (by simpa [up] using h); rwa [ints_up] at this
theorem cho_no {p : Pl} {l : List Int} (hs : p.scenes.length ≤ 12) (hl : l.length ≤ 12) (h : (Ris p l && isCh p l) = false) : APure Tryz.prog 47 [plan p, ints l] (B false) := by have := rchoice_pure p l (by omega) (by omega); rwa [h] at this
theorem cho_yesN {p : Pl} {l : List Nat} (hs : p.scenes.length ≤ 12) (hl : l.length ≤ 12) (h : (Ris p (up l) && isCh p (up l)) = true) : APure Tryz.prog 47 [plan p, nats l] (B true) := by have := rchoice_pure p (up l) (by omega) (by simp [up]; omega); rwa [h, ints_up] at this
theorem fl_no {p : Pl} {l : List Int} (hs : p.scenes.length ≤ 12) (hl : l.length ≤ 12) (h : chosenB p l = false) : APure Tryz.prog 46 [plan p, ints l] (.tup [I 0, I 0, I 2]) := by have := nFails_pure p l (by omega) (by omega); unfold failsAV at this; rwa [if_neg (by simp [h])] at this
theorem fl_yesN {p : Pl} {l : List Nat} (hs : p.scenes.length ≤ 12) (hl : l.length ≤ 12) (h : chosenB p (up l) = true) (hc : canP p l = true) : APure Tryz.prog 46 [plan p, nats l] (.tup [I 0, I 0, I 5]) := by
  have := nFails_pure p (up l) (by omega) (by simp [up]; omega); unfold failsAV at this; rwa [if_pos h, dn_up, if_pos hc, ints_up] at this
theorem fl_notN {p : Pl} {l : List Nat} {r : Nat × Int} (hs : p.scenes.length ≤ 12) (hl : l.length ≤ 12) (h : chosenB p (up l) = true) (hc : ffail p l = some r) : APure Tryz.prog 46 [plan p, nats l] (.tup [I r.1, I r.2, I 0]) := by
  have := nFails_pure p (up l) (by omega) (by simp [up]; omega); unfold failsAV at this
  rw [if_pos h, dn_up, if_neg (by simp [canP, hc]), ints_up] at this
  simpa [fk, ff, hc] using this
theorem rf_notN {p : Pl} {l : List Nat} {r : Nat × Int} (gp : GP p) (wp : WP p) (cv : CV p l) (hc : ffail p l = some r) : APure Tryz.prog 49 [plan p, nats l] (.tup [I r.1, I r.2]) := by
  have := rfails_pure p l gp wp cv; rwa [rfails_ffail wp cv hc] at this
theorem can_yesN {p : Pl} {l : List Nat} (gp : GP p) (wp : WP p) (cv : CV p l) (h : canP p l = true) : APure Tryz.prog 48 [plan p, nats l] (B true) := by have := can_pure p l gp cv; rwa [← canP_can wp cv, h] at this
theorem can_notN {p : Pl} {l : List Nat} (gp : GP p) (wp : WP p) (cv : CV p l) (h : canP p l = false) : APure Tryz.prog 48 [plan p, nats l] (B false) := by have := can_pure p l gp cv; rwa [← canP_can wp cv, h] at this
set_option maxHeartbeats 4000000 in
/-- kelir/kelirlaw03.NightFails -/
theorem law7_long (p : Pl) (l : List Int) (hs : ¬ p.scenes.length ≤ 12) : APure Tryz.prog 7 [plan p, ints l] (B true) := by
  refine apure_of (rs := [.tmp 4]) Tryz.func7 rfl rfl (Nat.le_of_ble_eq_true rfl) (by simp [AV.pureL, AV.pureB, AV.pureE, pureE_map]) (rfl) fun e0 he0 => ?_
  refine aw_seq (aw_region ?_)
  refine sq_box rfl (lr _) rfl ?_
  refine asr (lr _) rfl ?_
  refine sq_nil (aw_seq (aw_seq (aw_region ?_)))
  refine sq_ev rfl (ev_load_agg (lr _) rfl ty27 rfl) ?_
  refine sq_ev rfl (ev_call en20 (lr _) (short_no hs) ⟨lr _, trivial⟩) ?_
  refine sq_ev rfl (ev_not (lr _)) ?_
  refine mvr (lr _) rfl ?_
  refine sq_split 13 (lr _) (fun g1 => ?_) (fun g1 => ?_)
  · skip
    have g1' := g1
    try simp only [qq] at g1'
    refine sq_no rfl rfl (less_b g1) rfl rfl ?_
    refine sq_no rfl rfl (less_b g1) rfl rfl ?_
    refine sq_no rfl rfl (less_b g1) rfl rfl ?_
    refine sq_ev rfl (ev_pickT (v := .raw _) (less_b g1) (lr _)) ?_
    refine sq_nil ?_
    refine aw_true (lr _) ?_
    refine aw_seq (aw_region ?_)
    refine sq_ev rfl (ev_call en21 (lr _) (known_pure) trivial) ?_
    refine asr (lr _) rfl ?_
    refine sq_nil (aw_ret ?_)
    exact retQ_pure (v := .raw _) rfl rfl (lr _)
  · skip
    have g1' := g1
    try simp only [qq] at g1'
    first | exact absurd g1 (by decide) | (exfalso; simp at g1; done) | (exfalso; simp at g1; omega)

set_option maxHeartbeats 4000000 in
/-- kelir/kelirlaw03.NightFails -/
theorem law7_slim (p : Pl) (l : List Int) (hs : p.scenes.length ≤ 12) (hl : ¬ l.length ≤ 12) : APure Tryz.prog 7 [plan p, ints l] (B true) := by
 refine apure_of (rs := [.tmp 4]) Tryz.func7 rfl rfl (Nat.le_of_ble_eq_true rfl) (by simp [AV.pureL, AV.pureB, AV.pureE, pureE_map]) (rfl) fun e0 he0 => ?_
 refine aw_seq (aw_region ?_)
 refine sq_box rfl (lr _) rfl ?_
 refine asr (lr _) rfl ?_
 refine sq_nil (aw_seq (aw_seq (aw_region ?_)))
 refine sq_ev rfl (ev_load_agg (lr _) rfl ty27 rfl) ?_
 refine sq_ev rfl (ev_call en20 (lr _) (short_yes hs) ⟨lr _, trivial⟩) ?_
 refine sq_ev rfl (ev_not (lr _)) ?_
 refine mvr (lr _) rfl ?_
 refine sq_split 13 (lr _) (fun g1 => ?_) (fun g1 => ?_)
 ·
  have g1' := g1
  try simp only [qq] at g1'
  first | exact absurd g1 (by decide) | (exfalso; simp at g1; done) | (exfalso; simp at g1; omega)
 ·
  have g1' := g1
  try simp only [qq] at g1'
  refine sq_yes rfl rfl (less_b g1) rfl (ev_mv (v := .sl _ _) (lr _)) ?_
  refine sq_yes rfl rfl (less_b g1) rfl (ev_call en45 (lr _) (slim_no hl) ⟨lr _, trivial⟩) ?_
  refine sq_yes rfl rfl (less_b g1) rfl (ev_not (lr _)) ?_
  refine sq_ev rfl (ev_pickF (v := .raw _) (less_b g1) (lr _)) ?_
  refine sq_nil ?_
  refine aw_cond (lr _) (fun c2 => ?_) (fun c2 => ?_)
  ·
   have c2' := c2
   try simp only [qq] at c2'
   refine aw_seq (aw_region ?_)
   refine sq_ev rfl (ev_call en21 (lr _) (known_pure) trivial) ?_
   refine asr (lr _) rfl ?_
   refine sq_nil (aw_ret ?_)
   exact retQ_pure (v := .raw _) rfl rfl (lr _)
  ·
   have c2' := c2
   try simp only [qq] at c2'
   first | exact absurd c2 (by decide) | (exfalso; simp at c2; done) | (exfalso; simp at c2; omega)

set_option maxHeartbeats 4000000 in
/-- kelir/kelirlaw03.NightFails -/
theorem law7_bad (p : Pl) (l : List Int) (hs : p.scenes.length ≤ 12) (hl : l.length ≤ 12) (hk : PlOK p = false) : APure Tryz.prog 7 [plan p, ints l] (B true) := by
 refine apure_of (rs := [.tmp 4]) Tryz.func7 rfl rfl (Nat.le_of_ble_eq_true rfl) (by simp [AV.pureL, AV.pureB, AV.pureE, pureE_map]) (rfl) fun e0 he0 => ?_
 refine aw_seq (aw_region ?_)
 refine sq_box rfl (lr _) rfl ?_
 refine asr (lr _) rfl ?_
 refine sq_nil (aw_seq (aw_seq (aw_region ?_)))
 refine sq_ev rfl (ev_load_agg (lr _) rfl ty27 rfl) ?_
 refine sq_ev rfl (ev_call en20 (lr _) (short_yes hs) ⟨lr _, trivial⟩) ?_
 refine sq_ev rfl (ev_not (lr _)) ?_
 refine mvr (lr _) rfl ?_
 refine sq_split 13 (lr _) (fun g1 => ?_) (fun g1 => ?_)
 ·
  have g1' := g1
  try simp only [qq] at g1'
  first | exact absurd g1 (by decide) | (exfalso; simp at g1; done) | (exfalso; simp at g1; omega)
 ·
  have g1' := g1
  try simp only [qq] at g1'
  refine sq_yes rfl rfl (less_b g1) rfl (ev_mv (v := .sl _ _) (lr _)) ?_
  refine sq_yes rfl rfl (less_b g1) rfl (ev_call en45 (lr _) (slim_yes hl) ⟨lr _, trivial⟩) ?_
  refine sq_yes rfl rfl (less_b g1) rfl (ev_not (lr _)) ?_
  refine sq_ev rfl (ev_pickF (v := .raw _) (less_b g1) (lr _)) ?_
  refine sq_nil ?_
  refine aw_cond (lr _) (fun c2 => ?_) (fun c2 => ?_)
  ·
   have c2' := c2
   try simp only [qq] at c2'
   first | exact absurd c2 (by decide) | (exfalso; simp at c2; done) | (exfalso; simp at c2; omega)
  ·
   have c2' := c2
   try simp only [qq] at c2'
   refine aw_skip (aw_seq (aw_region ?_))
   refine sq_ev rfl (ev_load_agg (lr _) rfl ty27 rfl) ?_
   refine sq_ev rfl (ev_mv (v := .sl _ _) (lr _)) ?_
   refine sq_ev rfl (ev_call en46 (lr _) (fl_no hs hl (by simp [chosenB, hk])) ⟨lr _, lr _, trivial⟩) ?_
   refine sq_ev rfl (ev_mv (v := .tup _) (lr _)) ?_
   refine sq_ev rfl (ev_extract (lr _) rfl) ?_
   refine sq_ev rfl (ev_extract (lr _) rfl) ?_
   refine sq_ev rfl (ev_extract (lr _) rfl) ?_
   refine asr (lr _) rfl ?_
   refine asr (lr _) rfl ?_
   refine asr (lr _) rfl ?_
   refine sq_nil (aw_seq (aw_seq (aw_region ?_)))
   refine sq_ev rfl (ev_load_agg (lr _) rfl ty27 rfl) ?_
   refine sq_ev rfl (ev_call en24 (lr _) (plan_no hs hk) ⟨lr _, trivial⟩) ?_
   refine sq_ev rfl (ev_not (lr _)) ?_
   refine mvr (lr _) rfl ?_
   refine sq_split 29 (lr _) (fun g3 => ?_) (fun g3 => ?_)
   ·
    have g3' := g3
    try simp only [qq] at g3'
    refine sq_no rfl rfl (less_b g3) rfl rfl ?_
    refine sq_no rfl rfl (less_b g3) rfl rfl ?_
    refine sq_no rfl rfl (less_b g3) rfl rfl ?_
    refine sq_no rfl rfl (less_b g3) rfl rfl ?_
    refine sq_ev rfl (ev_pickT (v := .raw _) (less_b g3) (lr _)) ?_
    refine sq_nil ?_
    refine aw_true (lr _) ?_
    refine aw_seq (aw_region ?_)
    refine mvr (lr _) rfl ?_
    refine sq_ev rfl (ev_eql (lr _) (lr _)) ?_
    refine mvr (lr _) rfl ?_
    refine sq_split 37 (lr _) (fun g4 => ?_) (fun g4 => ?_)
    ·
     have g4' := g4
     try simp only [qq] at g4'
     refine sq_yes rfl rfl (less_b g4) rfl (ev_mv (v := .raw _) (lr _)) ?_
     refine sq_yes rfl rfl (less_b g4) rfl (ev_eql (lr _) (lr _)) ?_
     refine sq_ev rfl (ev_pickT (v := .raw _) (less_b g4) (lr _)) ?_
     refine mvr (lr _) rfl ?_
     refine sq_split 41 (lr _) (fun g5 => ?_) (fun g5 => ?_)
     ·
      have g5' := g5
      try simp only [qq] at g5'
      refine sq_yes rfl rfl (less_b g5) rfl (ev_mv (v := .raw _) (lr _)) ?_
      refine sq_yes rfl rfl (less_b g5) rfl (ev_eql (lr _) (lr _)) ?_
      refine sq_ev rfl (ev_pickT (v := .raw _) (less_b g5) (lr _)) ?_
      refine mvr (lr _) rfl ?_
      refine sq_split 45 (lr _) (fun g6 => ?_) (fun g6 => ?_)
      ·
       have g6' := g6
       try simp only [qq] at g6'
       refine sq_yes rfl rfl (less_b g6) rfl (ev_call en21 (lr _) (known_pure) trivial) ?_
       refine sq_ev rfl (ev_pickT (v := .raw _) (less_b g6) (lr _)) ?_
       refine asr (lr _) rfl ?_
       refine sq_nil (aw_ret ?_)
       exact retQ_pure (v := .raw _) rfl rfl (lr _)
      ·
       have g6' := g6
       try simp only [qq] at g6'
       first | exact absurd g6 (by decide) | (exfalso; simp at g6; done) | (exfalso; simp at g6; omega)
     ·
      have g5' := g5
      try simp only [qq] at g5'
      first | exact absurd g5 (by decide) | (exfalso; simp at g5; done) | (exfalso; simp at g5; omega)
    ·
     have g4' := g4
     try simp only [qq] at g4'
     first | exact absurd g4 (by decide) | (exfalso; simp at g4; done) | (exfalso; simp at g4; omega)
   ·
    have g3' := g3
    try simp only [qq] at g3'
    first | exact absurd g3 (by decide) | (exfalso; simp at g3; done) | (exfalso; simp at g3; omega)

set_option maxHeartbeats 4000000 in
/-- kelir/kelirlaw03.NightFails -/
theorem law7_no (p : Pl) (l : List Int) (hs : p.scenes.length ≤ 12) (hl : l.length ≤ 12) (hk : PlOK p = true) (hc : (Ris p l && isCh p l) = false) : APure Tryz.prog 7 [plan p, ints l] (B true) := by
 refine apure_of (rs := [.tmp 4]) Tryz.func7 rfl rfl (Nat.le_of_ble_eq_true rfl) (by simp [AV.pureL, AV.pureB, AV.pureE, pureE_map]) (rfl) fun e0 he0 => ?_
 refine aw_seq (aw_region ?_)
 refine sq_box rfl (lr _) rfl ?_
 refine asr (lr _) rfl ?_
 refine sq_nil (aw_seq (aw_seq (aw_region ?_)))
 refine sq_ev rfl (ev_load_agg (lr _) rfl ty27 rfl) ?_
 refine sq_ev rfl (ev_call en20 (lr _) (short_yes hs) ⟨lr _, trivial⟩) ?_
 refine sq_ev rfl (ev_not (lr _)) ?_
 refine mvr (lr _) rfl ?_
 refine sq_split 13 (lr _) (fun g1 => ?_) (fun g1 => ?_)
 ·
  have g1' := g1
  try simp only [qq] at g1'
  first | exact absurd g1 (by decide) | (exfalso; simp at g1; done) | (exfalso; simp at g1; omega)
 ·
  have g1' := g1
  try simp only [qq] at g1'
  refine sq_yes rfl rfl (less_b g1) rfl (ev_mv (v := .sl _ _) (lr _)) ?_
  refine sq_yes rfl rfl (less_b g1) rfl (ev_call en45 (lr _) (slim_yes hl) ⟨lr _, trivial⟩) ?_
  refine sq_yes rfl rfl (less_b g1) rfl (ev_not (lr _)) ?_
  refine sq_ev rfl (ev_pickF (v := .raw _) (less_b g1) (lr _)) ?_
  refine sq_nil ?_
  refine aw_cond (lr _) (fun c2 => ?_) (fun c2 => ?_)
  ·
   have c2' := c2
   try simp only [qq] at c2'
   first | exact absurd c2 (by decide) | (exfalso; simp at c2; done) | (exfalso; simp at c2; omega)
  ·
   have c2' := c2
   try simp only [qq] at c2'
   refine aw_skip (aw_seq (aw_region ?_))
   refine sq_ev rfl (ev_load_agg (lr _) rfl ty27 rfl) ?_
   refine sq_ev rfl (ev_mv (v := .sl _ _) (lr _)) ?_
   refine sq_ev rfl (ev_call en46 (lr _) (fl_no hs hl (by rw [chosenB, Bool.and_assoc, hc, Bool.and_false])) ⟨lr _, lr _, trivial⟩) ?_
   refine sq_ev rfl (ev_mv (v := .tup _) (lr _)) ?_
   refine sq_ev rfl (ev_extract (lr _) rfl) ?_
   refine sq_ev rfl (ev_extract (lr _) rfl) ?_
   refine sq_ev rfl (ev_extract (lr _) rfl) ?_
   refine asr (lr _) rfl ?_
   refine asr (lr _) rfl ?_
   refine asr (lr _) rfl ?_
   refine sq_nil (aw_seq (aw_seq (aw_region ?_)))
   refine sq_ev rfl (ev_load_agg (lr _) rfl ty27 rfl) ?_
   refine sq_ev rfl (ev_call en24 (lr _) (plan_yes hs hk) ⟨lr _, trivial⟩) ?_
   refine sq_ev rfl (ev_not (lr _)) ?_
   refine mvr (lr _) rfl ?_
   refine sq_split 29 (lr _) (fun g3 => ?_) (fun g3 => ?_)
   ·
    have g3' := g3
    try simp only [qq] at g3'
    first | exact absurd g3 (by decide) | (exfalso; simp at g3; done) | (exfalso; simp at g3; omega)
   ·
    have g3' := g3
    try simp only [qq] at g3'
    refine sq_yes rfl rfl (less_b g3) rfl (ev_load_agg (lr _) rfl ty27 rfl) ?_
    refine sq_yes rfl rfl (less_b g3) rfl (ev_mv (v := .sl _ _) (lr _)) ?_
    refine sq_yes rfl rfl (less_b g3) rfl (ev_call en47 (lr _) (cho_no hs hl hc) ⟨lr _, lr _, trivial⟩) ?_
    refine sq_yes rfl rfl (less_b g3) rfl (ev_not (lr _)) ?_
    refine sq_ev rfl (ev_pickF (v := .raw _) (less_b g3) (lr _)) ?_
    refine sq_nil ?_
    refine aw_cond (lr _) (fun c4 => ?_) (fun c4 => ?_)
    ·
     have c4' := c4
     try simp only [qq] at c4'
     refine aw_seq (aw_region ?_)
     refine mvr (lr _) rfl ?_
     refine sq_ev rfl (ev_eql (lr _) (lr _)) ?_
     refine mvr (lr _) rfl ?_
     refine sq_split 37 (lr _) (fun g5 => ?_) (fun g5 => ?_)
     ·
      have g5' := g5
      try simp only [qq] at g5'
      refine sq_yes rfl rfl (less_b g5) rfl (ev_mv (v := .raw _) (lr _)) ?_
      refine sq_yes rfl rfl (less_b g5) rfl (ev_eql (lr _) (lr _)) ?_
      refine sq_ev rfl (ev_pickT (v := .raw _) (less_b g5) (lr _)) ?_
      refine mvr (lr _) rfl ?_
      refine sq_split 41 (lr _) (fun g6 => ?_) (fun g6 => ?_)
      ·
       have g6' := g6
       try simp only [qq] at g6'
       refine sq_yes rfl rfl (less_b g6) rfl (ev_mv (v := .raw _) (lr _)) ?_
       refine sq_yes rfl rfl (less_b g6) rfl (ev_eql (lr _) (lr _)) ?_
       refine sq_ev rfl (ev_pickT (v := .raw _) (less_b g6) (lr _)) ?_
       refine mvr (lr _) rfl ?_
       refine sq_split 45 (lr _) (fun g7 => ?_) (fun g7 => ?_)
       ·
        have g7' := g7
        try simp only [qq] at g7'
        refine sq_yes rfl rfl (less_b g7) rfl (ev_call en21 (lr _) (known_pure) trivial) ?_
        refine sq_ev rfl (ev_pickT (v := .raw _) (less_b g7) (lr _)) ?_
        refine asr (lr _) rfl ?_
        refine sq_nil (aw_ret ?_)
        exact retQ_pure (v := .raw _) rfl rfl (lr _)
       ·
        have g7' := g7
        try simp only [qq] at g7'
        first | exact absurd g7 (by decide) | (exfalso; simp at g7; done) | (exfalso; simp at g7; omega)
      ·
       have g6' := g6
       try simp only [qq] at g6'
       first | exact absurd g6 (by decide) | (exfalso; simp at g6; done) | (exfalso; simp at g6; omega)
     ·
      have g5' := g5
      try simp only [qq] at g5'
      first | exact absurd g5 (by decide) | (exfalso; simp at g5; done) | (exfalso; simp at g5; omega)
    ·
     have c4' := c4
     try simp only [qq] at c4'
     first | exact absurd c4 (by decide) | (exfalso; simp at c4; done) | (exfalso; simp at c4; omega)

set_option maxHeartbeats 4000000 in
/-- kelir/kelirlaw03.NightFails -/
theorem law7_can (p : Pl) (l : List Nat) (hs : p.scenes.length ≤ 12) (hl : l.length ≤ 12) (hk : PlOK p = true) (hc : (Ris p (up l) && isCh p (up l)) = true) (gp : GP p) (wp : WP p) (cv : CV p l) (hcan : canP p l = true) : APure Tryz.prog 7 [plan p, nats l] (B true) := by
 refine apure_of (rs := [.tmp 4]) Tryz.func7 rfl rfl (Nat.le_of_ble_eq_true rfl) (by simp [AV.pureL, AV.pureB, AV.pureE, pureE_map]) (rfl) fun e0 he0 => ?_
 have hch : chosenB p (up l) = true := by rw [chosenB, Bool.and_assoc, hc, hk]; rfl
 refine aw_seq (aw_region ?_)
 refine sq_box rfl (lr _) rfl ?_
 refine asr (lr _) rfl ?_
 refine sq_nil (aw_seq (aw_seq (aw_region ?_)))
 refine sq_ev rfl (ev_load_agg (lr _) rfl ty27 rfl) ?_
 refine sq_ev rfl (ev_call en20 (lr _) (short_yes hs) ⟨lr _, trivial⟩) ?_
 refine sq_ev rfl (ev_not (lr _)) ?_
 refine mvr (lr _) rfl ?_
 refine sq_split 13 (lr _) (fun g1 => ?_) (fun g1 => ?_)
 ·
  have g1' := g1
  try simp only [qq] at g1'
  first | exact absurd g1 (by decide) | (exfalso; simp at g1; done) | (exfalso; simp at g1; omega)
 ·
  have g1' := g1
  try simp only [qq] at g1'
  refine sq_yes rfl rfl (less_b g1) rfl (ev_mv (v := .sl _ _) (lr _)) ?_
  refine sq_yes rfl rfl (less_b g1) rfl (ev_call en45 (lr _) (slim_yesN hl) ⟨lr _, trivial⟩) ?_
  refine sq_yes rfl rfl (less_b g1) rfl (ev_not (lr _)) ?_
  refine sq_ev rfl (ev_pickF (v := .raw _) (less_b g1) (lr _)) ?_
  refine sq_nil ?_
  refine aw_cond (lr _) (fun c2 => ?_) (fun c2 => ?_)
  ·
   have c2' := c2
   try simp only [qq] at c2'
   first | exact absurd c2 (by decide) | (exfalso; simp at c2; done) | (exfalso; simp at c2; omega)
  ·
   have c2' := c2
   try simp only [qq] at c2'
   refine aw_skip (aw_seq (aw_region ?_))
   refine sq_ev rfl (ev_load_agg (lr _) rfl ty27 rfl) ?_
   refine sq_ev rfl (ev_mv (v := .sl _ _) (lr _)) ?_
   refine sq_ev rfl (ev_call en46 (lr _) (fl_yesN hs hl hch hcan) ⟨lr _, lr _, trivial⟩) ?_
   refine sq_ev rfl (ev_mv (v := .tup _) (lr _)) ?_
   refine sq_ev rfl (ev_extract (lr _) rfl) ?_
   refine sq_ev rfl (ev_extract (lr _) rfl) ?_
   refine sq_ev rfl (ev_extract (lr _) rfl) ?_
   refine asr (lr _) rfl ?_
   refine asr (lr _) rfl ?_
   refine asr (lr _) rfl ?_
   refine sq_nil (aw_seq (aw_seq (aw_region ?_)))
   refine sq_ev rfl (ev_load_agg (lr _) rfl ty27 rfl) ?_
   refine sq_ev rfl (ev_call en24 (lr _) (plan_yes hs hk) ⟨lr _, trivial⟩) ?_
   refine sq_ev rfl (ev_not (lr _)) ?_
   refine mvr (lr _) rfl ?_
   refine sq_split 29 (lr _) (fun g3 => ?_) (fun g3 => ?_)
   ·
    have g3' := g3
    try simp only [qq] at g3'
    first | exact absurd g3 (by decide) | (exfalso; simp at g3; done) | (exfalso; simp at g3; omega)
   ·
    have g3' := g3
    try simp only [qq] at g3'
    refine sq_yes rfl rfl (less_b g3) rfl (ev_load_agg (lr _) rfl ty27 rfl) ?_
    refine sq_yes rfl rfl (less_b g3) rfl (ev_mv (v := .sl _ _) (lr _)) ?_
    refine sq_yes rfl rfl (less_b g3) rfl (ev_call en47 (lr _) (cho_yesN hs hl hc) ⟨lr _, lr _, trivial⟩) ?_
    refine sq_yes rfl rfl (less_b g3) rfl (ev_not (lr _)) ?_
    refine sq_ev rfl (ev_pickF (v := .raw _) (less_b g3) (lr _)) ?_
    refine sq_nil ?_
    refine aw_cond (lr _) (fun c4 => ?_) (fun c4 => ?_)
    ·
     have c4' := c4
     try simp only [qq] at c4'
     first | exact absurd c4 (by decide) | (exfalso; simp at c4; done) | (exfalso; simp at c4; omega)
    ·
     have c4' := c4
     try simp only [qq] at c4'
     refine aw_skip (aw_seq (aw_seq (aw_region ?_)))
     refine sq_ev rfl (ev_load_agg (lr _) rfl ty27 rfl) ?_
     refine sq_ev rfl (ev_mv (v := .sl _ _) (lr _)) ?_
     refine sq_ev rfl (ev_call en48 (lr _) (can_yesN gp wp cv hcan) ⟨lr _, lr _, trivial⟩) ?_
     refine sq_nil ?_
     refine aw_cond (lr _) (fun c5 => ?_) (fun c5 => ?_)
     ·
      have c5' := c5
      try simp only [qq] at c5'
      refine aw_seq (aw_region ?_)
      refine mvr (lr _) rfl ?_
      refine sq_ev rfl (ev_eql (lr _) (lr _)) ?_
      refine mvr (lr _) rfl ?_
      refine sq_split 53 (lr _) (fun g6 => ?_) (fun g6 => ?_)
      ·
       have g6' := g6
       try simp only [qq] at g6'
       refine sq_yes rfl rfl (less_b g6) rfl (ev_mv (v := .raw _) (lr _)) ?_
       refine sq_yes rfl rfl (less_b g6) rfl (ev_eql (lr _) (lr _)) ?_
       refine sq_ev rfl (ev_pickT (v := .raw _) (less_b g6) (lr _)) ?_
       refine mvr (lr _) rfl ?_
       refine sq_split 57 (lr _) (fun g7 => ?_) (fun g7 => ?_)
       ·
        have g7' := g7
        try simp only [qq] at g7'
        refine sq_yes rfl rfl (less_b g7) rfl (ev_mv (v := .raw _) (lr _)) ?_
        refine sq_yes rfl rfl (less_b g7) rfl (ev_eql (lr _) (lr _)) ?_
        refine sq_ev rfl (ev_pickT (v := .raw _) (less_b g7) (lr _)) ?_
        refine mvr (lr _) rfl ?_
        refine sq_split 61 (lr _) (fun g8 => ?_) (fun g8 => ?_)
        ·
         have g8' := g8
         try simp only [qq] at g8'
         refine sq_yes rfl rfl (less_b g8) rfl (ev_call en21 (lr _) (known_pure) trivial) ?_
         refine sq_ev rfl (ev_pickT (v := .raw _) (less_b g8) (lr _)) ?_
         refine asr (lr _) rfl ?_
         refine sq_nil (aw_ret ?_)
         exact retQ_pure (v := .raw _) rfl rfl (lr _)
        ·
         have g8' := g8
         try simp only [qq] at g8'
         first | exact absurd g8 (by decide) | (exfalso; simp at g8; done) | (exfalso; simp at g8; omega)
       ·
        have g7' := g7
        try simp only [qq] at g7'
        first | exact absurd g7 (by decide) | (exfalso; simp at g7; done) | (exfalso; simp at g7; omega)
      ·
       have g6' := g6
       try simp only [qq] at g6'
       first | exact absurd g6 (by decide) | (exfalso; simp at g6; done) | (exfalso; simp at g6; omega)
     ·
      have c5' := c5
      try simp only [qq] at c5'
      first | exact absurd c5 (by decide) | (exfalso; simp at c5; done) | (exfalso; simp at c5; omega)

set_option maxHeartbeats 4000000 in
/-- kelir/kelirlaw03.NightFails -/
theorem law7_not (p : Pl) (l : List Nat) (hs : p.scenes.length ≤ 12) (hl : l.length ≤ 12) (hk : PlOK p = true) (hc : (Ris p (up l) && isCh p (up l)) = true) (gp : GP p) (wp : WP p) (cv : CV p l) (r : Nat × Int) (hcan : ffail p l = some r) : APure Tryz.prog 7 [plan p, nats l] (B true) := by
 refine apure_of (rs := [.tmp 4]) Tryz.func7 rfl rfl (Nat.le_of_ble_eq_true rfl) (by simp [AV.pureL, AV.pureB, AV.pureE, pureE_map]) (rfl) fun e0 he0 => ?_
 have hch : chosenB p (up l) = true := by rw [chosenB, Bool.and_assoc, hc, hk]; rfl
 have hcf : canP p l = false := by simp [canP, hcan]
 refine aw_seq (aw_region ?_)
 refine sq_box rfl (lr _) rfl ?_
 refine asr (lr _) rfl ?_
 refine sq_nil (aw_seq (aw_seq (aw_region ?_)))
 refine sq_ev rfl (ev_load_agg (lr _) rfl ty27 rfl) ?_
 refine sq_ev rfl (ev_call en20 (lr _) (short_yes hs) ⟨lr _, trivial⟩) ?_
 refine sq_ev rfl (ev_not (lr _)) ?_
 refine mvr (lr _) rfl ?_
 refine sq_split 13 (lr _) (fun g1 => ?_) (fun g1 => ?_)
 ·
  have g1' := g1
  try simp only [qq] at g1'
  first | exact absurd g1 (by decide) | (exfalso; simp at g1; done) | (exfalso; simp at g1; omega)
 ·
  have g1' := g1
  try simp only [qq] at g1'
  refine sq_yes rfl rfl (less_b g1) rfl (ev_mv (v := .sl _ _) (lr _)) ?_
  refine sq_yes rfl rfl (less_b g1) rfl (ev_call en45 (lr _) (slim_yesN hl) ⟨lr _, trivial⟩) ?_
  refine sq_yes rfl rfl (less_b g1) rfl (ev_not (lr _)) ?_
  refine sq_ev rfl (ev_pickF (v := .raw _) (less_b g1) (lr _)) ?_
  refine sq_nil ?_
  refine aw_cond (lr _) (fun c2 => ?_) (fun c2 => ?_)
  ·
   have c2' := c2
   try simp only [qq] at c2'
   first | exact absurd c2 (by decide) | (exfalso; simp at c2; done) | (exfalso; simp at c2; omega)
  ·
   have c2' := c2
   try simp only [qq] at c2'
   refine aw_skip (aw_seq (aw_region ?_))
   refine sq_ev rfl (ev_load_agg (lr _) rfl ty27 rfl) ?_
   refine sq_ev rfl (ev_mv (v := .sl _ _) (lr _)) ?_
   refine sq_ev rfl (ev_call en46 (lr _) (fl_notN hs hl hch hcan) ⟨lr _, lr _, trivial⟩) ?_
   refine sq_ev rfl (ev_mv (v := .tup _) (lr _)) ?_
   refine sq_ev rfl (ev_extract (lr _) rfl) ?_
   refine sq_ev rfl (ev_extract (lr _) rfl) ?_
   refine sq_ev rfl (ev_extract (lr _) rfl) ?_
   refine asr (lr _) rfl ?_
   refine asr (lr _) rfl ?_
   refine asr (lr _) rfl ?_
   refine sq_nil (aw_seq (aw_seq (aw_region ?_)))
   refine sq_ev rfl (ev_load_agg (lr _) rfl ty27 rfl) ?_
   refine sq_ev rfl (ev_call en24 (lr _) (plan_yes hs hk) ⟨lr _, trivial⟩) ?_
   refine sq_ev rfl (ev_not (lr _)) ?_
   refine mvr (lr _) rfl ?_
   refine sq_split 29 (lr _) (fun g3 => ?_) (fun g3 => ?_)
   ·
    have g3' := g3
    try simp only [qq] at g3'
    first | exact absurd g3 (by decide) | (exfalso; simp at g3; done) | (exfalso; simp at g3; omega)
   ·
    have g3' := g3
    try simp only [qq] at g3'
    refine sq_yes rfl rfl (less_b g3) rfl (ev_load_agg (lr _) rfl ty27 rfl) ?_
    refine sq_yes rfl rfl (less_b g3) rfl (ev_mv (v := .sl _ _) (lr _)) ?_
    refine sq_yes rfl rfl (less_b g3) rfl (ev_call en47 (lr _) (cho_yesN hs hl hc) ⟨lr _, lr _, trivial⟩) ?_
    refine sq_yes rfl rfl (less_b g3) rfl (ev_not (lr _)) ?_
    refine sq_ev rfl (ev_pickF (v := .raw _) (less_b g3) (lr _)) ?_
    refine sq_nil ?_
    refine aw_cond (lr _) (fun c4 => ?_) (fun c4 => ?_)
    ·
     have c4' := c4
     try simp only [qq] at c4'
     first | exact absurd c4 (by decide) | (exfalso; simp at c4; done) | (exfalso; simp at c4; omega)
    ·
     have c4' := c4
     try simp only [qq] at c4'
     refine aw_skip (aw_seq (aw_seq (aw_region ?_)))
     refine sq_ev rfl (ev_load_agg (lr _) rfl ty27 rfl) ?_
     refine sq_ev rfl (ev_mv (v := .sl _ _) (lr _)) ?_
     refine sq_ev rfl (ev_call en48 (lr _) (can_notN gp wp cv hcf) ⟨lr _, lr _, trivial⟩) ?_
     refine sq_nil ?_
     refine aw_cond (lr _) (fun c5 => ?_) (fun c5 => ?_)
     ·
      have c5' := c5
      try simp only [qq] at c5'
      first | exact absurd c5 (by decide) | (exfalso; simp at c5; done) | (exfalso; simp at c5; omega)
     ·
      have c5' := c5
      try simp only [qq] at c5'
      refine aw_skip (aw_seq (aw_region ?_))
      refine sq_ev rfl (ev_load_agg (lr _) rfl ty27 rfl) ?_
      refine sq_ev rfl (ev_mv (v := .sl _ _) (lr _)) ?_
      refine sq_ev rfl (ev_call en49 (lr _) (rf_notN gp wp cv hcan) ⟨lr _, lr _, trivial⟩) ?_
      refine sq_ev rfl (ev_mv (v := .tup _) (lr _)) ?_
      refine sq_ev rfl (ev_extract (lr _) rfl) ?_
      refine sq_ev rfl (ev_extract (lr _) rfl) ?_
      refine asr (lr _) rfl ?_
      refine asr (lr _) rfl ?_
      refine sq_nil (aw_seq (aw_region ?_))
      refine mvr (lr _) rfl ?_
      refine sq_ev rfl (ev_eql (lr _) (lr _)) ?_
      refine mvr (lr _) rfl ?_
      refine sq_split 72 (lr _) (fun g6 => ?_) (fun g6 => ?_)
      ·
       have g6' := g6
       try simp only [qq] at g6'
       refine sq_yes rfl rfl (less_b g6) rfl (ev_mv (v := .raw _) (lr _)) ?_
       refine sq_yes rfl rfl (less_b g6) rfl (ev_mv (v := .raw _) (lr _)) ?_
       refine sq_yes rfl rfl (less_b g6) rfl (ev_eql (lr _) (lr _)) ?_
       refine sq_ev rfl (ev_pickT (v := .raw _) (less_b g6) (lr _)) ?_
       refine mvr (lr _) rfl ?_
       refine sq_split 77 (lr _) (fun g7 => ?_) (fun g7 => ?_)
       ·
        have g7' := g7
        try simp only [qq] at g7'
        refine sq_yes rfl rfl (less_b g7) rfl (ev_mv (v := .raw _) (lr _)) ?_
        refine sq_yes rfl rfl (less_b g7) rfl (ev_mv (v := .raw _) (lr _)) ?_
        refine sq_yes rfl rfl (less_b g7) rfl (ev_eql (lr _) (lr _)) ?_
        refine sq_ev rfl (ev_pickT (v := .raw _) (less_b g7) (lr _)) ?_
        refine mvr (lr _) rfl ?_
        refine sq_split 82 (lr _) (fun g8 => ?_) (fun g8 => ?_)
        ·
         have g8' := g8
         try simp only [qq] at g8'
         refine sq_yes rfl rfl (less_b g8) rfl (ev_call en21 (lr _) (known_pure) trivial) ?_
         refine sq_ev rfl (ev_pickT (v := .raw _) (less_b g8) (lr _)) ?_
         refine asr (lr _) rfl ?_
         refine sq_nil (aw_ret ?_)
         exact retQ_pure (v := .raw _) rfl rfl (lr _)
        ·
         have g8' := g8
         try simp only [qq] at g8'
         first | exact absurd g8 (by decide) | (exfalso; simp at g8; done) | (exfalso; simp at g8; omega)
       ·
        have g7' := g7
        try simp only [qq] at g7'
        first | exact absurd g7 (by decide) | (exfalso; simp at g7; done) | (exfalso; simp at g7; omega)
      ·
       have g6' := g6
       try simp only [qq] at g6'
       first | exact absurd g6 (by decide) | (exfalso; simp at g6; done) | (exfalso; simp at g6; omega)

/-- **NightFails returns true.** -/
theorem law7 (p : Pl) (l : List Int) : APure Tryz.prog 7 [plan p, ints l] (B true) := by
  by_cases hs : p.scenes.length ≤ 12
  · by_cases hl : l.length ≤ 12
    · cases hk : PlOK p with
      | false => exact law7_bad p l hs hl hk
      | true =>
        cases hc : (Ris p l && isCh p l) with
        | false => exact law7_no p l hs hl hk hc
        | true =>
          obtain ⟨l', rfl, cv, gp, wp⟩ := chosen_up (p := p) (l := l) (by rw [chosenB, Bool.and_assoc, hc, hk]; rfl)
          rw [ints_up]
          have hl' : l'.length ≤ 12 := by simpa [up] using hl
          cases hf : ffail p l' with
          | none => exact law7_can p l' hs hl' hk hc gp wp cv (by simp [canP, hf])
          | some r => exact law7_not p l' hs hl' hk hc gp wp cv r hf
    · exact law7_slim p l hs hl
  · exact law7_long p l hs

end Go.Proofs.YtjghdbdiejaacaaGreatDoor
