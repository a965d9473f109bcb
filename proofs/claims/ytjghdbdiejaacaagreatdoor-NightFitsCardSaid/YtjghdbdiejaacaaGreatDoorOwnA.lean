/-
  A part of the proof: conditions: none beyond each theorem's own.
-/
import Derived.Test.YtjghdbdiejaacaaGreatDoorSpecA
import Derived.Test.YtjghdbdiejaacaaGreatDoorLogicC
import Derived.KernelRfl
import Derived.Lib.LaidTab
import Derived.Lib.ItoaNum
import Derived.Test.YtjghdbdiejaacaaGreatDoorProg
import Derived.Test.YtjghdbdiejaacaaGreatDoorWalkA
import Derived.Test.YtjghdbdiejaacaaGreatDoorWalkF
import Derived.Test.YtjghdbdiejaacaaGreatDoorWalkG
import Derived.Test.YtjghdbdiejaacaaGreatDoorLogicD
import Derived.Test.YtjghdbdiejaacaaGreatDoorLogicA
import Derived.Test.YtjghdbdiejaacaaGreatDoorLogicB
import Derived.Test.YtjghdbdiejaacaaGreatDoorShelf
import Derived.Test.YtjghdbdiejaacaaGreatDoorWalkB
import Derived.Test.YtjghdbdiejaacaaGreatDoorWalkC
import Derived.Test.YtjghdbdiejaacaaGreatDoorWalkD
import Derived.Test.YtjghdbdiejaacaaGreatDoorWalkE
import Derived.Test.YtjghdbdiejaacaaGreatDoorRow
set_option linter.all false
namespace Ni

theorem has_yes {l : List Int} {n : Int} {k : Nat} (h : k < l.length) (e : l[k] = n) : has l n = true := by
  simp only [has, decide_eq_true_eq]; exact e ▸ List.getElem_mem h
theorem has_no {l : List Int} {n : Int} {k : Nat} (hn : ¬ (k : Int) < l.length) (h : ∀ i, (h : i < l.length) → i < k → l[i] ≠ n) : has l n = false := by
  simp only [has, decide_eq_false_iff_not]
  intro hm
  obtain ⟨j, hj, e⟩ := List.getElem_of_mem hm
  exact h j hj (by omega) e
theorem ssum_take {f : Nat → Int} {c : Nat → Bool} {l : List Nat} {k : Nat} (h : k < l.length) : ssum f c (l.take (k + 1)) = ssum f c (l.take k) + (if c l[k] = true then f l[k] else 0) := by
  unfold ssum
  rw [List.take_succ_eq_append_getElem h, List.filter_append, List.map_append, List.sum_append]
  by_cases hc : c l[k] = true <;> simp [hc]
theorem ssum_bd {f : Nat → Int} {c : Nat → Bool} : ∀ {l : List Nat}, (∀ x ∈ l, 0 ≤ f x ∧ f x ≤ 10000) → 0 ≤ ssum f c l ∧ ssum f c l ≤ 10000 * l.length
  | [], _ => by simp [ssum]
  | x :: l, h => by
    have ih := ssum_bd (c := c) (l := l) (fun y hy => h y (List.mem_cons_of_mem _ hy))
    have hx := h x (by simp)
    have e : ssum f c (x :: l) = (if c x = true then f x else 0) + ssum f c l := by
      unfold ssum
      by_cases hc : c x = true <;> simp [hc]
    rw [e, List.length_cons]
    split <;> omega
theorem ssum_bd_take {f : Nat → Int} {c : Nat → Bool} {l : List Nat} (h : ∀ x ∈ l, 0 ≤ f x ∧ f x ≤ 10000) (hl : l.length ≤ 1000) (k : Nat) : 0 ≤ ssum f c (l.take k) ∧ ssum f c (l.take k) ≤ 10000000 := by
  have := ssum_bd (c := c) (l := l.take k) (fun x hx => h x (List.mem_of_mem_take hx))
  have := List.length_take_le' k l
  omega

theorem lo_bd {p : Pl} {l : List Nat} (gp : GP p) (cv : CV p l) (part a b : Int) (k : Nat) : 0 ≤ lo p (l.take k) part a b ∧ lo p (l.take k) part a b ≤ 10000000 := ssum_bd_take (fun x hx => gp.least (cv.rng x hx)) cv.len k
theorem hi_bd {p : Pl} {l : List Nat} (gp : GP p) (cv : CV p l) (part a b : Int) (k : Nat) : 0 ≤ hi p (l.take k) part a b ∧ hi p (l.take k) part a b ≤ 10000000 := ssum_bd_take (fun x hx => gp.most (cv.rng x hx)) cv.len k
theorem lo_take {p : Pl} {l : List Nat} {k : Nat} (h : k < l.length) (part a b : Int) : lo p (l.take (k + 1)) part a b = lo p (l.take k) part a b + (if inP p part a b l[k] = true then (scn p l[k]).least else 0) := ssum_take h
theorem hi_take {p : Pl} {l : List Nat} {k : Nat} (h : k < l.length) (part a b : Int) : hi p (l.take (k + 1)) part a b = hi p (l.take k) part a b + (if inP p part a b l[k] = true then (scn p l[k]).most else 0) := ssum_take h
theorem fm_zero {α : Type} (f : Nat → List α) : fm 0 f = [] := rfl
theorem hC_len (p : Pl) (l : List Nat) (a b : Int) (k : Nat) : (hC p l a b k).length ≤ 1 := by unfold hC; split <;> simp
theorem wid_le {a b : Int} (h : 0 ≤ a) (k : b ≤ 10000) : wid a b ≤ 10001 := by unfold wid; omega
theorem hB_len {p : Pl} (gp : GP p) (l : List Nat) (a : Int) (j : Nat) : (hB p l a j).length ≤ 10001 := by
  unfold hB; split
  · have := fm_len (hC_len p l a (p.s1l + j)) (wid p.dl p.dh)
    have := wid_le gp.dl.1 gp.dh.2
    omega
  · simp
theorem hA_len {p : Pl} (gp : GP p) (l : List Nat) (i : Nat) : (hA p l i).length ≤ 100020001 := by
  unfold hA; split
  · have := fm_len (hB_len gp l (p.s0l + i)) (wid p.s1l p.s1h)
    have := wid_le gp.s1l.1 gp.s1h.2
    omega
  · simp
theorem hAs_len {p : Pl} (gp : GP p) (l : List Nat) {i : Nat} (h : i ≤ wid p.s0l p.s0h) : (fm i (hA p l)).length ≤ 1000300030001 := by
  have := fm_len (hA_len gp l) i
  have := wid_le gp.s0l.1 gp.s0h.2
  omega
theorem hBs_len {p : Pl} (gp : GP p) (l : List Nat) (a : Int) {j : Nat} (h : j ≤ wid p.s1l p.s1h) : (fm j (hB p l a)).length ≤ 100020001 := by
  have := fm_len (hB_len gp l a) j
  have := wid_le gp.s1l.1 gp.s1h.2
  omega
theorem hCs_len {p : Pl} (gp : GP p) (l : List Nat) (a b : Int) {k : Nat} (h : k ≤ wid p.dl p.dh) : (fm k (hC p l a b)).length ≤ 10001 := by
  have := fm_len (hC_len p l a b) k
  have := wid_le gp.dl.1 gp.dh.2
  omega
theorem hB_eq {p : Pl} {l : List Nat} {a : Int} {j k : Nat} (hk0 : 0 < k → inn (p.s1l + j - a) (lo p l 1 0 10) (hi p l 1 0 10) = true) (h : k = wid p.dl p.dh ∨ inn (p.s1l + j - a) (lo p l 1 0 10) (hi p l 1 0 10) = false) :
    hB p l a j = fm k (hC p l a (p.s1l + j)) := by
  unfold hB
  cases hc : inn (p.s1l + j - a) (lo p l 1 0 10) (hi p l 1 0 10) with
  | true =>
    rw [hc] at h
    rcases h with h | h
    · rw [if_pos rfl, h]
    · cases h
  | false =>
    rw [hc] at hk0
    have : k = 0 := by
      rcases Nat.eq_zero_or_pos k with h0 | h0
      · exact h0
      · have := hk0 h0; cases this
    subst this; rfl
theorem hA_eq {p : Pl} {l : List Nat} {i k : Nat} (hk0 : 0 < k → inn (p.s0l + i - p.beg) (lo p l 0 0 10) (hi p l 0 0 10) = true) (h : k = wid p.s1l p.s1h ∨ inn (p.s0l + i - p.beg) (lo p l 0 0 10) (hi p l 0 0 10) = false) :
    hA p l i = fm k (hB p l (p.s0l + i)) := by
  unfold hA
  cases hc : inn (p.s0l + i - p.beg) (lo p l 0 0 10) (hi p l 0 0 10) with
  | true =>
    rw [hc] at h
    rcases h with h | h
    · rw [if_pos rfl, h]
    · cases h
  | false =>
    rw [hc] at hk0
    have : k = 0 := by
      rcases Nat.eq_zero_or_pos k with h0 | h0
      · exact h0
      · have := hk0 h0; cases this
    subst this; rfl
end Ni

namespace Ni

theorem ssum_cons (f : Nat → Int) (c : Nat → Bool) (x : Nat) (l : List Nat) : ssum f c (x :: l) = (if c x = true then f x else 0) + ssum f c l := by
  unfold ssum; rw [List.filter_cons]; split
  · simp
  · simp
theorem ssum_split {f : Nat → Int} {c c1 c2 : Nat → Bool} : ∀ {l : List Nat}, (∀ x ∈ l, c x = (c1 x || c2 x) ∧ (c1 x && c2 x) = false) → ssum f c l = ssum f c1 l + ssum f c2 l
  | [], _ => rfl
  | x :: l, h => by
    have ih := ssum_split (f := f) (l := l) fun y hy => h y (List.mem_cons_of_mem _ hy)
    obtain ⟨h1, h2⟩ := h x (by simp)
    rw [ssum_cons, ssum_cons, ssum_cons, ih, h1]
    generalize c1 x = u at h2 ⊢
    generalize c2 x = v at h2 ⊢
    cases u <;> cases v <;> simp at h2 ⊢ <;> omega
section
variable {p : Pl} {l : List Nat}
end

section
variable {p : Pl} {l : List Nat} (wp : WP p) (cv : CV p l) (hc : can p l = true)
include wp cv hc
end
end Ni

namespace Ni

def lsBad (p : Pl) (l : List Nat) (ls : List Int) (i : Nat) (h : i < l.length) : Bool := !inn (ls.getD i 0) (scn p l[i]).least (scn p l[i]).most
/-- whether there is a length for each scene of a choice -/
def lastsP (p : Pl) (l : List Nat) (ls : List Int) : Bool := decide (l.length = ls.length) && okAll l.length (lsBad p l ls)
/-- the plan in which the first scenes of a choice have one length alone -/
def pF (p : Pl) (l : List Nat) (ls : List Int) : Nat → Pl
  | 0 => p
  | i + 1 => fixP (pF p l ls i) (l.getD i 0) (ls.getD i 0)
def pFF (p : Pl) (l : List Nat) (ls : List Int) : Pl := pF p l ls l.length
/-- when a part ends -/
def endI (p : Pl) (l : List Nat) (ls : List Int) (k : Int) : Nat → Int
  | 0 => p.beg
  | i + 1 => endI p l ls k i + (if (scn p (l.getD i 0)).part ≤ k then ls.getD i 0 else 0)
def endR (p : Pl) (l : List Nat) (ls : List Int) (k : Int) : Int := endI p l ls k l.length
def rfBad (p : Pl) (l : List Nat) (ls : List Int) (k : Nat) (_ : k < 3) : Bool := !inn (endR p l ls k) (wl p k) (wh p k)
def rfits (p : Pl) (l : List Nat) (ls : List Int) : Bool := okAll 3 (rfBad p l ls)
theorem getD_at {α : Type} {l : List α} {i : Nat} (h : i < l.length) (d : α) : l.getD i d = l[i] := by rw [List.getD_eq_getElem?_getD, List.getElem?_eq_getElem h]; rfl
theorem lasts_at {p : Pl} {l : List Nat} {ls : List Int} (h : lastsP p l ls = true) : l.length = ls.length ∧ ∀ i (hi : i < l.length), (scn p l[i]).least ≤ ls.getD i 0 ∧ ls.getD i 0 ≤ (scn p l[i]).most := by
  simp only [lastsP, Bool.and_eq_true, decide_eq_true_eq, okAll_iff] at h
  refine ⟨h.1, fun i hi => ?_⟩
  have := h.2 i hi
  simpa [lsBad, inn] using this
theorem scn_fix {p : Pl} {k x : Nat} {n : Int} (h : k < p.scenes.length) : scn (fixP p k n) x = if x = k then fixS (scn p k) n else scn p x := by
  unfold scn fixP
  simp only [List.getD_eq_getElem?_getD, List.getElem?_set]
  by_cases e : x = k
  · subst e; simp [h, scn_eq h]
  · rw [if_neg (fun h => e h.symm), if_neg e]
theorem pF_fields (p : Pl) (l : List Nat) (ls : List Int) : ∀ i, (pF p l ls i).beg = p.beg ∧ (∀ k, wl (pF p l ls i) k = wl p k) ∧ (∀ k, wh (pF p l ls i) k = wh p k) ∧ (pF p l ls i).scenes.length = p.scenes.length
  | 0 => ⟨rfl, fun _ => rfl, fun _ => rfl, rfl⟩
  | i + 1 => by
    obtain ⟨h1, h2, h3, h4⟩ := pF_fields p l ls i
    exact ⟨h1, h2, h3, by simp only [pF]; rw [fixP_len]; exact h4⟩
theorem pF_part {p : Pl} {l : List Nat} {ls : List Int} (cv : CV p l) : ∀ i, i ≤ l.length → ∀ x, (scn (pF p l ls i) x).part = (scn p x).part
  | 0, _, _ => rfl
  | i + 1, hi, x => by
    have ih := pF_part (ls := ls) cv i (by omega)
    have hl : l.getD i 0 < (pF p l ls i).scenes.length := by rw [(pF_fields p l ls i).2.2.2, getD_at (by omega)]; exact cv.rng _ (List.getElem_mem _)
    simp only [pF, scn_fix hl]
    split
    · rename_i e; subst e; simp only [fixS]; exact ih _
    · exact ih x
theorem pF_len {p : Pl} {l : List Nat} {ls : List Int} (cv : CV p l) (inc : l.Pairwise (· < ·)) : ∀ i, i ≤ l.length → ∀ j (hj : j < l.length), j < i → (scn (pF p l ls i) l[j]).least = ls.getD j 0 ∧ (scn (pF p l ls i) l[j]).most = ls.getD j 0
  | 0, _, j, _, h => by omega
  | i + 1, hi, j, hj, h => by
    have hl : l.getD i 0 < (pF p l ls i).scenes.length := by rw [(pF_fields p l ls i).2.2.2, getD_at (by omega)]; exact cv.rng _ (List.getElem_mem _)
    simp only [pF, scn_fix hl]
    by_cases e : j = i
    · subst e
      rw [if_pos (getD_at hj 0).symm]; exact ⟨rfl, rfl⟩
    · have hne : l[j] ≠ l.getD i 0 := by
        rw [getD_at (by omega)]
        have := List.pairwise_iff_getElem.1 inc j i hj (by omega) (by omega)
        omega
      rw [if_neg hne]
      exact pF_len cv inc i (by omega) j hj (by omega)
theorem pF_ok {p : Pl} {l : List Nat} {ls : List Int} (gp : GP p) (wp : WP p) (cv : CV p l) (h : lastsP p l ls = true) : ∀ i, i ≤ l.length → GP (pF p l ls i) ∧ WP (pF p l ls i) ∧ CV (pF p l ls i) l
  | 0, _ => ⟨gp, wp, cv⟩
  | i + 1, hi => by
    obtain ⟨h1, h2, h3⟩ := pF_ok gp wp cv h i (by omega)
    have hv := (lasts_at h).2 i (by omega)
    have a1 := gp.least (cv.rng _ (List.getElem_mem (show i < l.length by omega)))
    have a2 := gp.most (cv.rng _ (List.getElem_mem (show i < l.length by omega)))
    exact ⟨fixP_gp h1 _ (by omega), fixP_wp h2 _ _, fixP_cv h3 _ _⟩
section
variable {p : Pl} {l : List Nat} {ls : List Int} (gp : GP p) (wp : WP p) (cv : CV p l) (inc : l.Pairwise (· < ·)) (h : lastsP p l ls = true) (hp : ∀ x ∈ l, 0 ≤ (scn p x).part ∧ (scn p x).part ≤ 2)
abbrev sL (p : Pl) (l : List Nat) (ls : List Int) (k : Int) : Int := ssum (fun x => (scn (pFF p l ls) x).least) (fun x => decide ((scn p x).part = k)) l
include cv inc
theorem pl_sL (k : Nat) : pl (pFF p l ls) l k = sL p l ls k ∧ ph (pFF p l ls) l k = sL p l ls k := by
  have e : (fun x => inPart (pFF p l ls) k x) = (fun x => decide ((scn p x).part = k)) := by
    funext x; unfold inPart pFF; rw [pF_part cv _ (Nat.le_refl _)]
  constructor
  · show lsum _ (ofP _ l k) = _
    unfold lsum leasts ofP sL ssum
    rw [show inPart (pFF p l ls) k = fun x => decide ((scn p x).part = k) from e]
  · show hsum _ (ofP _ l k) = _
    unfold hsum mosts ofP sL ssum
    rw [show inPart (pFF p l ls) k = fun x => decide ((scn p x).part = k) from e]
    refine congrArg List.sum (List.map_congr_left fun x hx => ?_)
    obtain ⟨j, hj, rfl⟩ := List.getElem_of_mem (List.mem_filter.1 hx).1
    obtain ⟨h1, h2⟩ := pF_len (ls := ls) cv inc l.length (Nat.le_refl _) j hj hj
    exact h2.trans h1.symm
theorem endI_ssum (k : Int) : ∀ i, i ≤ l.length → endI p l ls k i = p.beg + ssum (fun x => (scn (pFF p l ls) x).least) (fun x => decide ((scn p x).part ≤ k)) (l.take i)
  | 0, _ => by simp [endI, ssum]
  | i + 1, hi => by
    rw [endI, endI_ssum k i (by omega), ssum_take (by omega), getD_at (by omega) 0]
    obtain ⟨h1, h2⟩ := pF_len (ls := ls) cv inc l.length (Nat.le_refl _) i (by omega) (by omega)
    have h1 : (scn (pFF p l ls) l[i]).least = ls.getD i 0 := h1
    by_cases c : (scn p l[i]).part ≤ k
    · rw [if_pos c, if_pos (by simpa using c), h1]; omega
    · rw [if_neg c, if_neg (by simpa using c)]; omega
theorem endR_ssum (k : Int) : endR p l ls k = p.beg + ssum (fun x => (scn (pFF p l ls) x).least) (fun x => decide ((scn p x).part ≤ k)) l := by
  have := endI_ssum (ls := ls) cv inc k l.length (Nat.le_refl _)
  rwa [List.take_length] at this
include hp
theorem endR_eq : endR p l ls 0 = p.beg + sL p l ls 0 ∧ endR p l ls 1 = p.beg + sL p l ls 0 + sL p l ls 1 ∧ endR p l ls 2 = p.beg + sL p l ls 0 + sL p l ls 1 + sL p l ls 2 := by
  have key : ∀ k : Int, ssum (fun x => (scn (pFF p l ls) x).least) (fun x => decide ((scn p x).part ≤ k + 1)) l = ssum (fun x => (scn (pFF p l ls) x).least) (fun x => decide ((scn p x).part ≤ k)) l + sL p l ls (k + 1) := fun k => by
    refine ssum_split fun x hx => ⟨?_, ?_⟩
    · rw [Bool.eq_iff_iff]; simp only [Bool.or_eq_true, decide_eq_true_eq]; omega
    · rw [Bool.and_eq_false_iff]; simp only [decide_eq_false_iff_not]; omega
  have hm : ssum (fun x => (scn (pFF p l ls) x).least) (fun x => decide ((scn p x).part ≤ -1)) l = 0 := by
    unfold ssum
    rw [List.filter_eq_nil_iff.2 (fun x hx => by have := hp x hx; simp; omega)]; rfl
  have k0 := key (-1); have k1 := key 0; have k2 := key 1
  rw [hm] at k0
  refine ⟨?_, ?_, ?_⟩
  · rw [endR_ssum cv inc]; simp only [Int.reduceNeg, Int.reduceAdd] at k0; omega
  · rw [endR_ssum cv inc]; simp only [Int.reduceNeg, Int.reduceAdd] at k0 k1; omega
  · rw [endR_ssum cv inc]; simp only [Int.reduceNeg, Int.reduceAdd] at k0 k1 k2; omega
include gp wp h
/-- a programme fits just if its parts end in their windows -/
theorem fits_iff : can (pFF p l ls) l = rfits p l ls := by
  obtain ⟨g1, g2, g3⟩ := pF_ok gp wp cv h l.length (Nat.le_refl _)
  obtain ⟨q1, q2, q3, q4⟩ := pF_fields p l ls l.length
  have q1 : (pFF p l ls).beg = p.beg := q1
  obtain ⟨s0, t0⟩ := pl_sL (ls := ls) cv inc 0
  obtain ⟨s1, t1⟩ := pl_sL (ls := ls) cv inc 1
  obtain ⟨s2, t2⟩ := pl_sL (ls := ls) cv inc 2
  obtain ⟨e0, e1, e2⟩ := endR_eq (ls := ls) cv inc hp
  have w0 : (pFF p l ls).s0l = wl p 0 := q2 0
  have w0' : (pFF p l ls).s0h = wh p 0 := q3 0
  have w1 : (pFF p l ls).s1l = wl p 1 := q2 1
  have w1' : (pFF p l ls).s1h = wh p 1 := q3 1
  have w2 : (pFF p l ls).dl = wl p 2 := q2 2
  have w2' : (pFF p l ls).dh = wh p 2 := q3 2
  have z0 : ((0 : Nat) : Int) = 0 := rfl
  have z1 : ((1 : Nat) : Int) = 1 := rfl
  have z2 : ((2 : Nat) : Int) = 2 := rfl
  rw [z0] at s0 t0; rw [z1] at s1 t1; rw [z2] at s2 t2
  rw [Bool.eq_iff_iff]
  refine (can_fit g2 g3).trans ?_
  unfold rfits
  rw [okAll_iff]
  constructor
  · rintro ⟨a, b, c, h1, h2, h3, h4, h5, h6, h7, h8, h9, h10, h11, h12⟩ k hk
    change (pFF p l ls).s0l ≤ a at h1; change a ≤ (pFF p l ls).s0h at h2; change (pFF p l ls).s1l ≤ b at h3; change b ≤ (pFF p l ls).s1h at h4; change (pFF p l ls).dl ≤ c at h5; change c ≤ (pFF p l ls).dh at h6
    change pl (pFF p l ls) l 0 ≤ a - (pFF p l ls).beg at h7; change a - (pFF p l ls).beg ≤ ph (pFF p l ls) l 0 at h8
    change pl (pFF p l ls) l 1 ≤ b - a at h9; change b - a ≤ ph (pFF p l ls) l 1 at h10; change pl (pFF p l ls) l 2 ≤ c - b at h11; change c - b ≤ ph (pFF p l ls) l 2 at h12
    unfold rfBad inn
    rcases k with _ | _ | _ | k
    · simp only [z0, Bool.not_eq_false', Bool.and_eq_true, decide_eq_true_eq]; omega
    · simp only [Nat.zero_add, z1, Bool.not_eq_false', Bool.and_eq_true, decide_eq_true_eq]; omega
    · simp only [Nat.zero_add, Nat.reduceAdd, z2, Bool.not_eq_false', Bool.and_eq_true, decide_eq_true_eq]; omega
    · omega
  · intro hk
    have k0 := hk 0 (by omega); have k1 := hk 1 (by omega); have k2 := hk 2 (by omega)
    simp only [rfBad, inn, z0, z1, z2, Bool.not_eq_false', Bool.and_eq_true, decide_eq_true_eq] at k0 k1 k2
    refine ⟨endR p l ls 0, endR p l ls 1, endR p l ls 2, ?_⟩
    show Fit (pFF p l ls) l _ _ _
    constructor <;> omega
end
end Ni

namespace Ni

theorem ris_inc {p : Pl} {l : List Nat} (h : Ris p (up l) = true) : l.Pairwise (· < ·) := by
  unfold Ris at h
  rw [okAll_iff] at h
  have hl : (up l).length = l.length := by simp [up]
  have hs : ∀ i (h1 : i < l.length) (h2 : 0 < i), l[i - 1] < l[i] := fun i h1 h2 => by
    have := h i (by rw [hl]; exact h1)
    simp only [risBad, Bool.or_eq_false_iff, Bool.and_eq_false_iff, decide_eq_false_iff_not] at this
    have e : ∀ j (hj : j < l.length), (up l)[j]'(by rw [hl]; exact hj) = (l[j] : Int) := fun j hj => by simp [up]
    have h3 := this.2
    rw [e i h1, e (i - 1) (by omega)] at h3
    omega
  have step : ∀ d i (h1 : i + d + 1 < l.length), l[i] < l[i + d + 1] := by
    intro d
    induction d with
    | zero => intro i h1; have := hs (i + 1) h1 (by omega); simpa using this
    | succ d ih =>
      intro i h1
      have a := ih i (by omega)
      have b := hs (i + (d + 1) + 1) h1 (by omega)
      simp only [Nat.add_sub_cancel] at b
      have e : i + (d + 1) = i + d + 1 := by omega
      simp only [e] at b
      exact Nat.lt_trans a b
  refine List.pairwise_iff_getElem.2 fun i j h1 h2 h3 => ?_
  obtain ⟨d, rfl⟩ : ∃ d, j = i + d + 1 := ⟨j - i - 1, by omega⟩
  exact step d i h2
end Ni

namespace Go.Proofs.YtjghdbdiejaacaaGreatDoor
open Go Go.Ab Ni
theorem en35 : Ent Tryz.prog 35 := Ent.of Tryz.func35 (by kernel_rfl) rfl
theorem en62 : Ent Tryz.prog 62 := Ent.of Tryz.func62 (by kernel_rfl) rfl
theorem en89 : Ent Tryz.prog 89 := Ent.of Tryz.func89 (by kernel_rfl) rfl
theorem en90 : Ent Tryz.prog 90 := Ent.of Tryz.func90 (by kernel_rfl) rfl
theorem en91 : Ent Tryz.prog 91 := Ent.of Tryz.func91 (by kernel_rfl) rfl
set_option maxHeartbeats 400000 in
/-- kelir/kelirref03.in -/
theorem in_pure (n lo hi : Int) : APure Tryz.prog 89 [I n, I lo, I hi] (B (inn n lo hi)) := by
 refine apure_of (rs := [.tmp 6]) Tryz.func89 rfl rfl (Nat.le_of_ble_eq_true rfl) (by simp [AV.pureL, AV.pureB, AV.pureE, pureE_map]) (rfl) fun e0 he0 => ?_
 refine aw_seq (aw_region ?_)
 refine asr (lr _) rfl ?_
 refine sq_nil (aw_seq (aw_region ?_))
 refine mvr (lr _) rfl ?_
 refine mvr (lr _) rfl ?_
 refine sq_ev rfl (ev_geq (lr _) (lr _)) ?_
 refine mvr (lr _) rfl ?_
 refine sq_split 10 (lr _) (fun g1 => ?_) (fun g1 => ?_)
 ·
  have g1' := g1
  try simp only [qq] at g1'
  refine sq_yes rfl rfl (less_b g1) rfl (ev_mv (v := .raw _) (lr _)) ?_
  refine sq_yes rfl rfl (less_b g1) rfl (ev_mv (v := .raw _) (lr _)) ?_
  refine sq_yes rfl rfl (less_b g1) rfl (ev_leq (lr _) (lr _)) ?_
  refine sq_ev rfl (ev_pickT (v := .raw _) (less_b g1) (lr _)) ?_
  refine asr (lr _) rfl ?_
  refine sq_nil (aw_ret ?_)
  exact retQ_pure (v := .raw _) rfl rfl (Less.eq (by simp [inn, *]))
 ·
  have g1' := g1
  try simp only [qq] at g1'
  refine sq_no rfl rfl (less_b g1) rfl rfl ?_
  refine sq_no rfl rfl (less_b g1) rfl rfl ?_
  refine sq_no rfl rfl (less_b g1) rfl rfl ?_
  refine sq_ev rfl (ev_pickF (v := .raw _) (less_b g1) (lr _)) ?_
  refine asr (lr _) rfl ?_
  refine sq_nil (aw_ret ?_)
  exact retQ_pure (v := .raw _) rfl rfl (Less.eq (by simp [inn, *]))

set_option maxHeartbeats 400000 in
/-- kelir/kelirref03.window -/
theorem window_pure (lo hi : Int) : APure Tryz.prog 90 [.agg [I lo, I hi]] (B (wnd lo hi)) := by
 refine apure_of (rs := [.tmp 2]) Tryz.func90 rfl rfl (Nat.le_of_ble_eq_true rfl) (by simp [AV.pureL, AV.pureB, AV.pureE, pureE_map]) (rfl) fun e0 he0 => ?_
 refine aw_seq (aw_region ?_)
 refine sq_box rfl (lr _) rfl ?_
 refine asr (lr _) rfl ?_
 refine sq_nil (aw_seq (aw_region ?_))
 refine sq_ev rfl (ev_fieldAddr fo23_0 (lr _)) ?_
 refine sq_ev rfl (ev_load (lr _) rfl ty3 rfl) ?_
 refine sq_ev rfl (ev_call en89 (lr _) (in_pure _ _ _) ⟨lr _, lr _, lr _, trivial⟩) ?_
 refine mvr (lr _) rfl ?_
 refine sq_split 6 (lr _) (fun g1 => ?_) (fun g1 => ?_)
 ·
  have g1' := g1
  try simp only [qq] at g1'
  refine sq_yes rfl rfl (less_b g1) rfl (ev_fieldAddr fo23_1 (lr _)) ?_
  refine sq_yes rfl rfl (less_b g1) rfl (ev_load (lr _) rfl ty3 rfl) ?_
  refine sq_yes rfl rfl (less_b g1) rfl (ev_fieldAddr fo23_0 (lr _)) ?_
  refine sq_yes rfl rfl (less_b g1) rfl (ev_load (lr _) rfl ty3 rfl) ?_
  refine sq_yes rfl rfl (less_b g1) rfl (ev_call en89 (lr _) (in_pure _ _ _) ⟨lr _, lr _, lr _, trivial⟩) ?_
  refine sq_ev rfl (ev_pickT (v := .raw _) (less_b g1) (lr _)) ?_
  refine mvr (lr _) rfl ?_
  refine sq_split 13 (lr _) (fun g2 => ?_) (fun g2 => ?_)
  ·
   have g2' := g2
   try simp only [qq] at g2'
   simp only [inn, Bool.and_eq_true, decide_eq_true_eq] at g1' g2'
   refine sq_yes rfl rfl (less_b g2) rfl (ev_fieldAddr fo23_1 (lr _)) ?_
   refine sq_yes rfl rfl (less_b g2) rfl (ev_load (lr _) rfl ty3 rfl) ?_
   refine sq_yes rfl rfl (less_b g2) rfl (ev_fieldAddr fo23_0 (lr _)) ?_
   refine sq_yes rfl rfl (less_b g2) rfl (ev_load (lr _) rfl ty3 rfl) ?_
   refine sq_yes rfl rfl (less_b g2) rfl (ev_sub (lr _) (lr _) (wr (by omega) (by omega))) ?_
   refine sq_yes rfl rfl (less_b g2) rfl (ev_leq (lr _) (lr _)) ?_
   refine sq_ev rfl (ev_pickT (v := .raw _) (less_b g2) (lr _)) ?_
   refine asr (lr _) rfl ?_
   refine sq_nil (aw_ret ?_)
   exact retQ_pure (v := .raw _) rfl rfl (Less.eq (by simp [wnd, *]))
  ·
   have g2' := g2
   try simp only [qq] at g2'
   refine sq_no rfl rfl (less_b g2) rfl rfl ?_
   refine sq_no rfl rfl (less_b g2) rfl rfl ?_
   refine sq_no rfl rfl (less_b g2) rfl rfl ?_
   refine sq_no rfl rfl (less_b g2) rfl rfl ?_
   refine sq_no rfl rfl (less_b g2) rfl rfl ?_
   refine sq_no rfl rfl (less_b g2) rfl rfl ?_
   refine sq_ev rfl (ev_pickF (v := .raw _) (less_b g2) (lr _)) ?_
   refine asr (lr _) rfl ?_
   refine sq_nil (aw_ret ?_)
   exact retQ_pure (v := .raw _) rfl rfl (Less.eq (by simp [wnd, *]))
 ·
  have g1' := g1
  try simp only [qq] at g1'
  refine sq_no rfl rfl (less_b g1) rfl rfl ?_
  refine sq_no rfl rfl (less_b g1) rfl rfl ?_
  refine sq_no rfl rfl (less_b g1) rfl rfl ?_
  refine sq_no rfl rfl (less_b g1) rfl rfl ?_
  refine sq_no rfl rfl (less_b g1) rfl rfl ?_
  refine sq_ev rfl (ev_pickF (v := .raw _) (less_b g1) (lr _)) ?_
  refine mvr (lr _) rfl ?_
  refine sq_no rfl rfl (lr _) rfl rfl ?_
  refine sq_no rfl rfl (lr _) rfl rfl ?_
  refine sq_no rfl rfl (lr _) rfl rfl ?_
  refine sq_no rfl rfl (lr _) rfl rfl ?_
  refine sq_no rfl rfl (lr _) rfl rfl ?_
  refine sq_no rfl rfl (lr _) rfl rfl ?_
  refine sq_ev rfl (ev_pickF (v := .raw _) (lr _) (lr _)) ?_
  refine asr (lr _) rfl ?_
  refine sq_nil (aw_ret ?_)
  exact retQ_pure (v := .raw _) rfl rfl (Less.eq (by simp [wnd, *]))

set_option maxHeartbeats 2000000 in
/-- kelir/kelirref03.scenes -/
theorem scenes_pure (p : Pl) (hl : p.scenes.length ≤ 1000000) : APure Tryz.prog 91 [plan p] (B (decide (ScOK p.scenes))) := by
 refine apure_of (rs := [.tmp 2]) Tryz.func91 rfl rfl (Nat.le_of_ble_eq_true rfl) (by simp [AV.pureL, AV.pureB, AV.pureE, pureE_map]) (rfl) fun e0 he0 => ?_
 refine aw_seq (aw_region ?_)
 refine sq_box rfl (lr _) rfl ?_
 refine asr (lr _) rfl ?_
 refine sq_nil (aw_seq (aw_region ?_))
 refine asr (lr _) rfl ?_
 refine sq_nil (aw_seq (aw_seq (aw_region ?_)))
 refine asr (lr _) rfl ?_
 refine sq_nil (aw_block ?_)
 refine aw_loopk (ι := { k : Nat // k ≤ p.scenes.length ∧ ∀ i, (h : i < p.scenes.length) → i < k → scBad p.scenes i h = false }) [1] (fun i => [(3, I (loosies (p.scenes.take i.1))), (4, I i.1)]) (fun H i => H) (fun i => p.scenes.length - i.1) (⟨0, Nat.zero_le _, by omega⟩) ⟨lr _, lr _, lr _, trivial⟩ rfl ?_
 rintro ⟨k, hk, hok⟩
 dsimp only [keepS, St.put, sget, slotsOf, List.map_cons, List.map_nil, List.cons_append, List.nil_append, List.length_cons, List.length_nil, Nat.reduceBEq, Nat.reduceAdd, cond_true, cond_false]
 have hlo := loosies_le (p.scenes.take k)
 have hlt := List.length_take_le k p.scenes
 refine aw_seq (aw_seq (aw_region ?_))
 refine mvr (lr _) rfl ?_
 refine sq_ev rfl (ev_fieldAddr fo27_3 (lr _)) ?_
 refine sq_ev rfl (ev_load (lr _) rfl ty25 rfl) ?_
 refine sq_ev rfl (ev_len_map sl25 (lr _)) ?_
 refine sq_ev rfl (ev_lss (lr _) (lr _)) ?_
 refine sq_nil ?_
 refine aw_cond (lr _) (fun c1 => ?_) (fun c1 => ?_)
 ·
  have c1' := c1
  try simp only [qq] at c1'
  refine aw_skip (aw_seq (aw_block (aw_seq (aw_region ?_))))
  refine sq_ev rfl (ev_fieldAddr fo27_3 (lr _)) ?_
  refine sq_ev rfl (ev_load (lr _) rfl ty25 rfl) ?_
  refine mvr (lr _) rfl ?_
  refine sq_ev rfl (ev_index_map sl25 (lr _) (lr _) rfl (by omega)) ?_
  refine sq_ev rfl (ev_load_agg_i (lr _) ty84 (Nat.le_of_ble_eq_true rfl)) ?_
  refine sq_alloc rfl z84 ?_
  refine sq_store rfl (lr _) (lr _) rfl rfl ty84 rfl rfl ?_
  refine sq_nil (aw_seq (aw_seq ?_))
  refine aw_draw 50 mo (by kernel_rfl) ?_
  refine dr_ev rfl (ev_fieldAddr fo84_0 (lr _)) ?_
  refine dr_ev rfl (ev_load (lr _) rfl ty3 rfl) ?_
  refine dr_ev rfl (ev_call en89 (lr _) (in_pure _ _ _) ⟨lr _, lr _, lr _, trivial⟩) ?_
  refine dr_ev rfl (ev_not (lr _)) ?_
  refine dr_ev rfl (ev_mv (v := .raw _) (lr _)) ?_
  refine dr_split 22 (lr _) (fun g2 => ?_) (fun g2 => ?_)
  ·
   have g2' := g2
   try simp only [qq] at g2'
   refine dr_no rfl rfl (less_b g2) rfl rfl ?_
   refine dr_no rfl rfl (less_b g2) rfl rfl ?_
   refine dr_no rfl rfl (less_b g2) rfl rfl ?_
   refine dr_no rfl rfl (lr _) rfl rfl ?_
   refine dr_no rfl rfl (lr _) rfl rfl ?_
   refine dr_no rfl rfl (lr _) rfl rfl ?_
   refine dr_no rfl rfl (lr _) rfl rfl ?_
   refine dr_no rfl rfl (lr _) rfl rfl ?_
   refine dr_no rfl rfl (lr _) rfl rfl ?_
   refine dr_no rfl rfl (lr _) rfl rfl ?_
   refine dr_no rfl rfl (lr _) rfl rfl ?_
   refine dr_no rfl rfl (lr _) rfl rfl ?_
   refine dr_no rfl rfl (lr _) rfl rfl ?_
   refine dr_no rfl rfl (less_b g2) rfl rfl ?_
   refine dr_ev rfl (ev_pickT (v := .raw _) (less_b g2) (lr _)) ?_
   refine dr_ev rfl (ev_mv (v := .raw _) (lr _)) ?_
   refine dr_no rfl rfl (lr _) rfl rfl ?_
   refine dr_no rfl rfl (lr _) rfl rfl ?_
   refine dr_no rfl rfl (lr _) rfl rfl ?_
   refine dr_no rfl rfl (lr _) rfl rfl ?_
   refine dr_ev rfl (ev_pickT (v := .raw _) (lr _) (lr _)) ?_
   refine dr_ev rfl (ev_mv (v := .raw _) (lr _)) ?_
   refine dr_no rfl rfl (lr _) rfl rfl ?_
   refine dr_no rfl rfl (lr _) rfl rfl ?_
   refine dr_no rfl rfl (lr _) rfl rfl ?_
   refine dr_no rfl rfl (lr _) rfl rfl ?_
   refine dr_no rfl rfl (lr _) rfl rfl ?_
   refine dr_no rfl rfl (lr _) rfl rfl ?_
   refine dr_ev rfl (ev_pickT (v := .raw _) (lr _) (lr _)) ?_
   refine dr_ev rfl (ev_mv (v := .raw _) (lr _)) ?_
   refine dr_no rfl rfl (lr _) rfl rfl ?_
   refine dr_no rfl rfl (lr _) rfl rfl ?_
   refine dr_no rfl rfl (lr _) rfl rfl ?_
   refine dr_no rfl rfl (lr _) rfl rfl ?_
   refine dr_no rfl rfl (lr _) rfl rfl ?_
   refine dr_no rfl rfl (lr _) rfl rfl ?_
   refine dr_no rfl rfl (lr _) rfl rfl ?_
   refine dr_no rfl rfl (lr _) rfl rfl ?_
   refine dr_ev rfl (ev_pickT (v := .raw _) (lr _) (lr _)) ?_
   refine dr_ev rfl (ev_mv (v := .raw _) (lr _)) ?_
   refine dr_no rfl rfl (lr _) rfl rfl ?_
   refine dr_no rfl rfl (lr _) rfl rfl ?_
   refine dr_no rfl rfl (lr _) rfl rfl ?_
   refine dr_no rfl rfl (lr _) rfl rfl ?_
   refine dr_ev rfl (ev_pickT (v := .raw _) (lr _) (lr _)) ?_
   refine dr_end (sq_nil ?_)
   refine aw_true (lr _) ?_
   refine aw_seq (aw_region ?_)
   refine asr (lr _) rfl ?_
   refine sq_nil (aw_ret ?_)
   exact retQ_pure (v := .raw _) rfl rfl (Less.eq (by rw [scOK_bad (i := k) (by omega) (by simp [scBad, *])]))
  ·
   have g2' := g2
   try simp only [qq] at g2'
   refine dr_yes rfl rfl (less_b g2) rfl (ev_mv (v := .raw _) (lr _)) ?_
   refine dr_yes rfl rfl (less_b g2) rfl (ev_gtr (lr _) (lr _)) ?_
   refine dr_yes rfl rfl (less_b g2) rfl (ev_mv (v := .raw _) (lr _)) ?_
   refine dr_split 25 (lr _) (fun g3 => ?_) (fun g3 => ?_)
   ·
    have g3' := g3
    try simp only [qq] at g3'
    have g3n : 0 < k := by omega
    refine dr_yes rfl rfl (less_b g3) rfl (ev_fieldAddr fo84_0 (lr _)) ?_
    refine dr_yes rfl rfl (less_b g3) rfl (ev_load (lr _) rfl ty3 rfl) ?_
    refine dr_yes rfl rfl (less_b g3) rfl (ev_fieldAddr fo27_3 (lr _)) ?_
    refine dr_yes rfl rfl (less_b g3) rfl (ev_load (lr _) rfl ty25 rfl) ?_
    refine dr_yes rfl rfl (less_b g3) rfl (ev_mv (v := .raw _) (lr _)) ?_
    refine dr_yes rfl rfl (less_b g3) rfl (ev_sub (lr _) (lr _) (wr (by omega) (by omega))) ?_
    refine dr_yes rfl rfl (less_b g3) rfl (ev_index_map sl25 (lr _) (lr _) (show ((k : Int) - 1) = ((k - 1 : Nat) : Int) by omega) (by omega)) ?_
    refine dr_yes rfl rfl (less_b g3) rfl (ev_fieldAddr_i fo84_0 (lr _)) ?_
    refine dr_yes rfl rfl (less_b g3) rfl (ev_load_i (lr _) ty3 rfl) ?_
    refine dr_yes rfl rfl (less_b g3) rfl (ev_lss (lr _) (lr _)) ?_
    refine dr_yes rfl rfl (less_b g2) rfl (ev_pickT (v := .raw _) (less_b g3) (lr _)) ?_
    refine dr_ev rfl (ev_pickF (v := .raw _) (less_b g2) (lr _)) ?_
    refine dr_ev rfl (ev_mv (v := .raw _) (lr _)) ?_
    refine dr_split 38 (lr _) (fun g4 => ?_) (fun g4 => ?_)
    ·
     have g4' := g4
     try simp only [qq] at g4'
     refine dr_no rfl rfl (less_b g4) rfl rfl ?_
     refine dr_no rfl rfl (less_b g4) rfl rfl ?_
     refine dr_no rfl rfl (less_b g4) rfl rfl ?_
     refine dr_no rfl rfl (less_b g4) rfl rfl ?_
     refine dr_ev rfl (ev_pickT (v := .raw _) (less_b g4) (lr _)) ?_
     refine dr_ev rfl (ev_mv (v := .raw _) (lr _)) ?_
     refine dr_no rfl rfl (lr _) rfl rfl ?_
     refine dr_no rfl rfl (lr _) rfl rfl ?_
     refine dr_no rfl rfl (lr _) rfl rfl ?_
     refine dr_no rfl rfl (lr _) rfl rfl ?_
     refine dr_no rfl rfl (lr _) rfl rfl ?_
     refine dr_no rfl rfl (lr _) rfl rfl ?_
     refine dr_ev rfl (ev_pickT (v := .raw _) (lr _) (lr _)) ?_
     refine dr_ev rfl (ev_mv (v := .raw _) (lr _)) ?_
     refine dr_no rfl rfl (lr _) rfl rfl ?_
     refine dr_no rfl rfl (lr _) rfl rfl ?_
     refine dr_no rfl rfl (lr _) rfl rfl ?_
     refine dr_no rfl rfl (lr _) rfl rfl ?_
     refine dr_no rfl rfl (lr _) rfl rfl ?_
     refine dr_no rfl rfl (lr _) rfl rfl ?_
     refine dr_no rfl rfl (lr _) rfl rfl ?_
     refine dr_no rfl rfl (lr _) rfl rfl ?_
     refine dr_ev rfl (ev_pickT (v := .raw _) (lr _) (lr _)) ?_
     refine dr_ev rfl (ev_mv (v := .raw _) (lr _)) ?_
     refine dr_no rfl rfl (lr _) rfl rfl ?_
     refine dr_no rfl rfl (lr _) rfl rfl ?_
     refine dr_no rfl rfl (lr _) rfl rfl ?_
     refine dr_no rfl rfl (lr _) rfl rfl ?_
     refine dr_ev rfl (ev_pickT (v := .raw _) (lr _) (lr _)) ?_
     refine dr_end (sq_nil ?_)
     refine aw_true (lr _) ?_
     refine aw_seq (aw_region ?_)
     refine asr (lr _) rfl ?_
     refine sq_nil (aw_ret ?_)
     exact retQ_pure (v := .raw _) rfl rfl (Less.eq (by rw [scOK_bad (i := k) (by omega) (by simp [scBad, *])]))
    ·
     have g4' := g4
     try simp only [qq] at g4'
     refine dr_yes rfl rfl (less_b g4) rfl (ev_fieldAddr fo84_1 (lr _)) ?_
     refine dr_yes rfl rfl (less_b g4) rfl (ev_load (lr _) rfl ty3 rfl) ?_
     refine dr_yes rfl rfl (less_b g4) rfl (ev_call en89 (lr _) (in_pure _ _ _) ⟨lr _, lr _, lr _, trivial⟩) ?_
     refine dr_yes rfl rfl (less_b g4) rfl (ev_not (lr _)) ?_
     refine dr_ev rfl (ev_pickF (v := .raw _) (less_b g4) (lr _)) ?_
     refine dr_ev rfl (ev_mv (v := .raw _) (lr _)) ?_
     refine dr_split 44 (lr _) (fun g5 => ?_) (fun g5 => ?_)
     ·
      have g5' := g5
      try simp only [qq] at g5'
      refine dr_no rfl rfl (less_b g5) rfl rfl ?_
      refine dr_no rfl rfl (less_b g5) rfl rfl ?_
      refine dr_no rfl rfl (less_b g5) rfl rfl ?_
      refine dr_no rfl rfl (less_b g5) rfl rfl ?_
      refine dr_no rfl rfl (less_b g5) rfl rfl ?_
      refine dr_no rfl rfl (less_b g5) rfl rfl ?_
      refine dr_ev rfl (ev_pickT (v := .raw _) (less_b g5) (lr _)) ?_
      refine dr_ev rfl (ev_mv (v := .raw _) (lr _)) ?_
      refine dr_no rfl rfl (lr _) rfl rfl ?_
      refine dr_no rfl rfl (lr _) rfl rfl ?_
      refine dr_no rfl rfl (lr _) rfl rfl ?_
      refine dr_no rfl rfl (lr _) rfl rfl ?_
      refine dr_no rfl rfl (lr _) rfl rfl ?_
      refine dr_no rfl rfl (lr _) rfl rfl ?_
      refine dr_no rfl rfl (lr _) rfl rfl ?_
      refine dr_no rfl rfl (lr _) rfl rfl ?_
      refine dr_ev rfl (ev_pickT (v := .raw _) (lr _) (lr _)) ?_
      refine dr_ev rfl (ev_mv (v := .raw _) (lr _)) ?_
      refine dr_no rfl rfl (lr _) rfl rfl ?_
      refine dr_no rfl rfl (lr _) rfl rfl ?_
      refine dr_no rfl rfl (lr _) rfl rfl ?_
      refine dr_no rfl rfl (lr _) rfl rfl ?_
      refine dr_ev rfl (ev_pickT (v := .raw _) (lr _) (lr _)) ?_
      refine dr_end (sq_nil ?_)
      refine aw_true (lr _) ?_
      refine aw_seq (aw_region ?_)
      refine asr (lr _) rfl ?_
      refine sq_nil (aw_ret ?_)
      exact retQ_pure (v := .raw _) rfl rfl (Less.eq (by rw [scOK_bad (i := k) (by omega) (by simp [scBad, *])]))
     ·
      have g5' := g5
      try simp only [qq] at g5'
      refine dr_yes rfl rfl (less_b g5) rfl (ev_fieldAddr fo84_2 (lr _)) ?_
      refine dr_yes rfl rfl (less_b g5) rfl (ev_load (lr _) rfl ty3 rfl) ?_
      refine dr_yes rfl rfl (less_b g5) rfl (ev_fieldAddr fo84_1 (lr _)) ?_
      refine dr_yes rfl rfl (less_b g5) rfl (ev_load (lr _) rfl ty3 rfl) ?_
      refine dr_yes rfl rfl (less_b g5) rfl (ev_call en89 (lr _) (in_pure _ _ _) ⟨lr _, lr _, lr _, trivial⟩) ?_
      refine dr_yes rfl rfl (less_b g5) rfl (ev_not (lr _)) ?_
      refine dr_ev rfl (ev_pickF (v := .raw _) (less_b g5) (lr _)) ?_
      refine dr_ev rfl (ev_mv (v := .raw _) (lr _)) ?_
      refine dr_split 52 (lr _) (fun g6 => ?_) (fun g6 => ?_)
      ·
       have g6' := g6
       try simp only [qq] at g6'
       refine dr_no rfl rfl (less_b g6) rfl rfl ?_
       refine dr_no rfl rfl (less_b g6) rfl rfl ?_
       refine dr_no rfl rfl (less_b g6) rfl rfl ?_
       refine dr_no rfl rfl (less_b g6) rfl rfl ?_
       refine dr_no rfl rfl (less_b g6) rfl rfl ?_
       refine dr_no rfl rfl (less_b g6) rfl rfl ?_
       refine dr_no rfl rfl (less_b g6) rfl rfl ?_
       refine dr_no rfl rfl (less_b g6) rfl rfl ?_
       refine dr_ev rfl (ev_pickT (v := .raw _) (less_b g6) (lr _)) ?_
       refine dr_ev rfl (ev_mv (v := .raw _) (lr _)) ?_
       refine dr_no rfl rfl (lr _) rfl rfl ?_
       refine dr_no rfl rfl (lr _) rfl rfl ?_
       refine dr_no rfl rfl (lr _) rfl rfl ?_
       refine dr_no rfl rfl (lr _) rfl rfl ?_
       refine dr_ev rfl (ev_pickT (v := .raw _) (lr _) (lr _)) ?_
       refine dr_end (sq_nil ?_)
       refine aw_true (lr _) ?_
       refine aw_seq (aw_region ?_)
       refine asr (lr _) rfl ?_
       refine sq_nil (aw_ret ?_)
       exact retQ_pure (v := .raw _) rfl rfl (Less.eq (by rw [scOK_bad (i := k) (by omega) (by simp [scBad, *])]))
      ·
       have g6' := g6
       try simp only [qq] at g6'
       refine dr_yes rfl rfl (less_b g6) rfl (ev_fieldAddr fo84_4 (lr _)) ?_
       refine dr_yes rfl rfl (less_b g6) rfl (ev_load (lr _) rfl ty3 rfl) ?_
       refine dr_yes rfl rfl (less_b g6) rfl (ev_fieldAddr fo27_3 (lr _)) ?_
       refine dr_yes rfl rfl (less_b g6) rfl (ev_load (lr _) rfl ty25 rfl) ?_
       refine dr_yes rfl rfl (less_b g6) rfl (ev_len_map sl25 (lr _)) ?_
       refine dr_yes rfl rfl (less_b g6) rfl (ev_sub (lr _) (lr _) (wr (by omega) (by omega))) ?_
       refine dr_yes rfl rfl (less_b g6) rfl (ev_call en89 (lr _) (in_pure _ _ _) ⟨lr _, lr _, lr _, trivial⟩) ?_
       refine dr_yes rfl rfl (less_b g6) rfl (ev_not (lr _)) ?_
       refine dr_ev rfl (ev_pickF (v := .raw _) (less_b g6) (lr _)) ?_
       refine dr_ev rfl (ev_mv (v := .raw _) (lr _)) ?_
       refine dr_split 62 (lr _) (fun g7 => ?_) (fun g7 => ?_)
       ·
        have g7' := g7
        try simp only [qq] at g7'
        refine dr_no rfl rfl (less_b g7) rfl rfl ?_
        refine dr_no rfl rfl (less_b g7) rfl rfl ?_
        refine dr_no rfl rfl (less_b g7) rfl rfl ?_
        refine dr_no rfl rfl (less_b g7) rfl rfl ?_
        refine dr_ev rfl (ev_pickT (v := .raw _) (less_b g7) (lr _)) ?_
        refine dr_end (sq_nil ?_)
        refine aw_true (lr _) ?_
        refine aw_seq (aw_region ?_)
        refine asr (lr _) rfl ?_
        refine sq_nil (aw_ret ?_)
        exact retQ_pure (v := .raw _) rfl rfl (Less.eq (by rw [scOK_bad (i := k) (by omega) (by simp [scBad, *])]))
       ·
        have g7' := g7
        try simp only [qq] at g7'
        refine dr_yes rfl rfl (less_b g7) rfl (ev_fieldAddr fo84_4 (lr _)) ?_
        refine dr_yes rfl rfl (less_b g7) rfl (ev_load (lr _) rfl ty3 rfl) ?_
        refine dr_yes rfl rfl (less_b g7) rfl (ev_mv (v := .raw _) (lr _)) ?_
        refine dr_yes rfl rfl (less_b g7) rfl (ev_eql (lr _) (lr _)) ?_
        refine dr_ev rfl (ev_pickF (v := .raw _) (less_b g7) (lr _)) ?_
        refine dr_end (sq_nil ?_)
        refine aw_cond (lr _) (fun c8 => ?_) (fun c8 => ?_)
        ·
         have c8' := c8
         try simp only [qq] at c8'
         refine aw_seq (aw_region ?_)
         refine asr (lr _) rfl ?_
         refine sq_nil (aw_ret ?_)
         exact retQ_pure (v := .raw _) rfl rfl (Less.eq (by rw [scOK_bad (i := k) (by omega) (by simp [scBad, *])]))
        ·
         have c8' := c8
         try simp only [qq] at c8'
         refine aw_skip (aw_seq (aw_region ?_))
         refine sq_ev rfl (ev_fieldAddr fo84_3 (lr _)) ?_
         refine sq_ev rfl (ev_load (lr _) rfl ty4 rfl) ?_
         refine sq_nil ?_
         refine aw_cond (lr _) (fun c9 => ?_) (fun c9 => ?_)
         ·
          have c9' := c9
          try simp only [qq] at c9'
          refine aw_region ?_
          refine mvr (lr _) rfl ?_
          refine sq_ev rfl (ev_add (lr _) (lr _) (wr (by omega) (by omega))) ?_
          refine asr (lr _) rfl ?_
          refine sq_nil (aw_region ?_)
          refine mvr (lr _) rfl ?_
          refine sq_ev rfl (ev_add (lr _) (lr _) (wr (by omega) (by omega))) ?_
          refine asr (lr _) rfl ?_
          refine sq_nil ?_
          have hstep := loosies_take (l := p.scenes) (k := k) (by omega)
          have hgood : scBad p.scenes k (by omega) = false := by simp [scBad, *]
          exact ⟨⟨k + 1, by omega, fun i h hi => (by by_cases e : i = k; (subst e; exact hgood); exact hok i h (by omega))⟩, by simp only; omega, Sub.fin 1 ⟨less_int (by rw [hstep]; simp [*]), lr _, lr _, trivial⟩ rfl (by simp [slotsIn, objsIn, sget, keepS, AObj.inB, AV.inB, AV.inL, AV.inE, inE_map]) (by simp [slotsIn, objsIn, sget, keepS, AObj.inB, AV.inB, AV.inL, AV.inE, inE_map]) (by simp [he0])⟩
         ·
          have c9' := c9
          try simp only [qq] at c9'
          refine aw_skip (aw_region ?_)
          refine mvr (lr _) rfl ?_
          refine sq_ev rfl (ev_add (lr _) (lr _) (wr (by omega) (by omega))) ?_
          refine asr (lr _) rfl ?_
          refine sq_nil ?_
          have hstep := loosies_take (l := p.scenes) (k := k) (by omega)
          have hgood : scBad p.scenes k (by omega) = false := by simp [scBad, *]
          exact ⟨⟨k + 1, by omega, fun i h hi => (by by_cases e : i = k; (subst e; exact hgood); exact hok i h (by omega))⟩, by simp only; omega, Sub.fin 1 ⟨less_int (by rw [hstep]; simp [*]), lr _, lr _, trivial⟩ rfl (by simp [slotsIn, objsIn, sget, keepS, AObj.inB, AV.inB, AV.inL, AV.inE, inE_map]) (by simp [slotsIn, objsIn, sget, keepS, AObj.inB, AV.inB, AV.inL, AV.inE, inE_map]) (by simp [he0])⟩
   ·
    have g3' := g3
    try simp only [qq] at g3'
    have g3n : ¬ (0 < k) := by omega
    refine dr_no rfl rfl (less_b g3) rfl rfl ?_
    refine dr_no rfl rfl (less_b g3) rfl rfl ?_
    refine dr_no rfl rfl (less_b g3) rfl rfl ?_
    refine dr_no rfl rfl (less_b g3) rfl rfl ?_
    refine dr_no rfl rfl (less_b g3) rfl rfl ?_
    refine dr_no rfl rfl (less_b g3) rfl rfl ?_
    refine dr_no rfl rfl (less_b g3) rfl rfl ?_
    refine dr_no rfl rfl (less_b g3) rfl rfl ?_
    refine dr_no rfl rfl (less_b g3) rfl rfl ?_
    refine dr_no rfl rfl (less_b g3) rfl rfl ?_
    refine dr_yes rfl rfl (less_b g2) rfl (ev_pickF (v := .raw _) (less_b g3) (lr _)) ?_
    refine dr_ev rfl (ev_pickF (v := .raw _) (less_b g2) (lr _)) ?_
    refine dr_ev rfl (ev_mv (v := .raw _) (lr _)) ?_
    refine dr_yes rfl rfl (lr _) rfl (ev_fieldAddr fo84_1 (lr _)) ?_
    refine dr_yes rfl rfl (lr _) rfl (ev_load (lr _) rfl ty3 rfl) ?_
    refine dr_yes rfl rfl (lr _) rfl (ev_call en89 (lr _) (in_pure _ _ _) ⟨lr _, lr _, lr _, trivial⟩) ?_
    refine dr_yes rfl rfl (lr _) rfl (ev_not (lr _)) ?_
    refine dr_ev rfl (ev_pickF (v := .raw _) (lr _) (lr _)) ?_
    refine dr_ev rfl (ev_mv (v := .raw _) (lr _)) ?_
    refine dr_split 44 (lr _) (fun g10 => ?_) (fun g10 => ?_)
    ·
     have g10' := g10
     try simp only [qq] at g10'
     refine dr_no rfl rfl (less_b g10) rfl rfl ?_
     refine dr_no rfl rfl (less_b g10) rfl rfl ?_
     refine dr_no rfl rfl (less_b g10) rfl rfl ?_
     refine dr_no rfl rfl (less_b g10) rfl rfl ?_
     refine dr_no rfl rfl (less_b g10) rfl rfl ?_
     refine dr_no rfl rfl (less_b g10) rfl rfl ?_
     refine dr_ev rfl (ev_pickT (v := .raw _) (less_b g10) (lr _)) ?_
     refine dr_ev rfl (ev_mv (v := .raw _) (lr _)) ?_
     refine dr_no rfl rfl (lr _) rfl rfl ?_
     refine dr_no rfl rfl (lr _) rfl rfl ?_
     refine dr_no rfl rfl (lr _) rfl rfl ?_
     refine dr_no rfl rfl (lr _) rfl rfl ?_
     refine dr_no rfl rfl (lr _) rfl rfl ?_
     refine dr_no rfl rfl (lr _) rfl rfl ?_
     refine dr_no rfl rfl (lr _) rfl rfl ?_
     refine dr_no rfl rfl (lr _) rfl rfl ?_
     refine dr_ev rfl (ev_pickT (v := .raw _) (lr _) (lr _)) ?_
     refine dr_ev rfl (ev_mv (v := .raw _) (lr _)) ?_
     refine dr_no rfl rfl (lr _) rfl rfl ?_
     refine dr_no rfl rfl (lr _) rfl rfl ?_
     refine dr_no rfl rfl (lr _) rfl rfl ?_
     refine dr_no rfl rfl (lr _) rfl rfl ?_
     refine dr_ev rfl (ev_pickT (v := .raw _) (lr _) (lr _)) ?_
     refine dr_end (sq_nil ?_)
     refine aw_true (lr _) ?_
     refine aw_seq (aw_region ?_)
     refine asr (lr _) rfl ?_
     refine sq_nil (aw_ret ?_)
     exact retQ_pure (v := .raw _) rfl rfl (Less.eq (by rw [scOK_bad (i := k) (by omega) (by simp [scBad, *])]))
    ·
     have g10' := g10
     try simp only [qq] at g10'
     refine dr_yes rfl rfl (less_b g10) rfl (ev_fieldAddr fo84_2 (lr _)) ?_
     refine dr_yes rfl rfl (less_b g10) rfl (ev_load (lr _) rfl ty3 rfl) ?_
     refine dr_yes rfl rfl (less_b g10) rfl (ev_fieldAddr fo84_1 (lr _)) ?_
     refine dr_yes rfl rfl (less_b g10) rfl (ev_load (lr _) rfl ty3 rfl) ?_
     refine dr_yes rfl rfl (less_b g10) rfl (ev_call en89 (lr _) (in_pure _ _ _) ⟨lr _, lr _, lr _, trivial⟩) ?_
     refine dr_yes rfl rfl (less_b g10) rfl (ev_not (lr _)) ?_
     refine dr_ev rfl (ev_pickF (v := .raw _) (less_b g10) (lr _)) ?_
     refine dr_ev rfl (ev_mv (v := .raw _) (lr _)) ?_
     refine dr_split 52 (lr _) (fun g11 => ?_) (fun g11 => ?_)
     ·
      have g11' := g11
      try simp only [qq] at g11'
      refine dr_no rfl rfl (less_b g11) rfl rfl ?_
      refine dr_no rfl rfl (less_b g11) rfl rfl ?_
      refine dr_no rfl rfl (less_b g11) rfl rfl ?_
      refine dr_no rfl rfl (less_b g11) rfl rfl ?_
      refine dr_no rfl rfl (less_b g11) rfl rfl ?_
      refine dr_no rfl rfl (less_b g11) rfl rfl ?_
      refine dr_no rfl rfl (less_b g11) rfl rfl ?_
      refine dr_no rfl rfl (less_b g11) rfl rfl ?_
      refine dr_ev rfl (ev_pickT (v := .raw _) (less_b g11) (lr _)) ?_
      refine dr_ev rfl (ev_mv (v := .raw _) (lr _)) ?_
      refine dr_no rfl rfl (lr _) rfl rfl ?_
      refine dr_no rfl rfl (lr _) rfl rfl ?_
      refine dr_no rfl rfl (lr _) rfl rfl ?_
      refine dr_no rfl rfl (lr _) rfl rfl ?_
      refine dr_ev rfl (ev_pickT (v := .raw _) (lr _) (lr _)) ?_
      refine dr_end (sq_nil ?_)
      refine aw_true (lr _) ?_
      refine aw_seq (aw_region ?_)
      refine asr (lr _) rfl ?_
      refine sq_nil (aw_ret ?_)
      exact retQ_pure (v := .raw _) rfl rfl (Less.eq (by rw [scOK_bad (i := k) (by omega) (by simp [scBad, *])]))
     ·
      have g11' := g11
      try simp only [qq] at g11'
      refine dr_yes rfl rfl (less_b g11) rfl (ev_fieldAddr fo84_4 (lr _)) ?_
      refine dr_yes rfl rfl (less_b g11) rfl (ev_load (lr _) rfl ty3 rfl) ?_
      refine dr_yes rfl rfl (less_b g11) rfl (ev_fieldAddr fo27_3 (lr _)) ?_
      refine dr_yes rfl rfl (less_b g11) rfl (ev_load (lr _) rfl ty25 rfl) ?_
      refine dr_yes rfl rfl (less_b g11) rfl (ev_len_map sl25 (lr _)) ?_
      refine dr_yes rfl rfl (less_b g11) rfl (ev_sub (lr _) (lr _) (wr (by omega) (by omega))) ?_
      refine dr_yes rfl rfl (less_b g11) rfl (ev_call en89 (lr _) (in_pure _ _ _) ⟨lr _, lr _, lr _, trivial⟩) ?_
      refine dr_yes rfl rfl (less_b g11) rfl (ev_not (lr _)) ?_
      refine dr_ev rfl (ev_pickF (v := .raw _) (less_b g11) (lr _)) ?_
      refine dr_ev rfl (ev_mv (v := .raw _) (lr _)) ?_
      refine dr_split 62 (lr _) (fun g12 => ?_) (fun g12 => ?_)
      ·
       have g12' := g12
       try simp only [qq] at g12'
       refine dr_no rfl rfl (less_b g12) rfl rfl ?_
       refine dr_no rfl rfl (less_b g12) rfl rfl ?_
       refine dr_no rfl rfl (less_b g12) rfl rfl ?_
       refine dr_no rfl rfl (less_b g12) rfl rfl ?_
       refine dr_ev rfl (ev_pickT (v := .raw _) (less_b g12) (lr _)) ?_
       refine dr_end (sq_nil ?_)
       refine aw_true (lr _) ?_
       refine aw_seq (aw_region ?_)
       refine asr (lr _) rfl ?_
       refine sq_nil (aw_ret ?_)
       exact retQ_pure (v := .raw _) rfl rfl (Less.eq (by rw [scOK_bad (i := k) (by omega) (by simp [scBad, *])]))
      ·
       have g12' := g12
       try simp only [qq] at g12'
       refine dr_yes rfl rfl (less_b g12) rfl (ev_fieldAddr fo84_4 (lr _)) ?_
       refine dr_yes rfl rfl (less_b g12) rfl (ev_load (lr _) rfl ty3 rfl) ?_
       refine dr_yes rfl rfl (less_b g12) rfl (ev_mv (v := .raw _) (lr _)) ?_
       refine dr_yes rfl rfl (less_b g12) rfl (ev_eql (lr _) (lr _)) ?_
       refine dr_ev rfl (ev_pickF (v := .raw _) (less_b g12) (lr _)) ?_
       refine dr_end (sq_nil ?_)
       refine aw_cond (lr _) (fun c13 => ?_) (fun c13 => ?_)
       ·
        have c13' := c13
        try simp only [qq] at c13'
        refine aw_seq (aw_region ?_)
        refine asr (lr _) rfl ?_
        refine sq_nil (aw_ret ?_)
        exact retQ_pure (v := .raw _) rfl rfl (Less.eq (by rw [scOK_bad (i := k) (by omega) (by simp [scBad, *])]))
       ·
        have c13' := c13
        try simp only [qq] at c13'
        refine aw_skip (aw_seq (aw_region ?_))
        refine sq_ev rfl (ev_fieldAddr fo84_3 (lr _)) ?_
        refine sq_ev rfl (ev_load (lr _) rfl ty4 rfl) ?_
        refine sq_nil ?_
        refine aw_cond (lr _) (fun c14 => ?_) (fun c14 => ?_)
        ·
         have c14' := c14
         try simp only [qq] at c14'
         refine aw_region ?_
         refine mvr (lr _) rfl ?_
         refine sq_ev rfl (ev_add (lr _) (lr _) (wr (by omega) (by omega))) ?_
         refine asr (lr _) rfl ?_
         refine sq_nil (aw_region ?_)
         refine mvr (lr _) rfl ?_
         refine sq_ev rfl (ev_add (lr _) (lr _) (wr (by omega) (by omega))) ?_
         refine asr (lr _) rfl ?_
         refine sq_nil ?_
         have hstep := loosies_take (l := p.scenes) (k := k) (by omega)
         have hgood : scBad p.scenes k (by omega) = false := by simp [scBad, *]
         exact ⟨⟨k + 1, by omega, fun i h hi => (by by_cases e : i = k; (subst e; exact hgood); exact hok i h (by omega))⟩, by simp only; omega, Sub.fin 1 ⟨less_int (by rw [hstep]; simp [*]), lr _, lr _, trivial⟩ rfl (by simp [slotsIn, objsIn, sget, keepS, AObj.inB, AV.inB, AV.inL, AV.inE, inE_map]) (by simp [slotsIn, objsIn, sget, keepS, AObj.inB, AV.inB, AV.inL, AV.inE, inE_map]) (by simp [he0])⟩
        ·
         have c14' := c14
         try simp only [qq] at c14'
         refine aw_skip (aw_region ?_)
         refine mvr (lr _) rfl ?_
         refine sq_ev rfl (ev_add (lr _) (lr _) (wr (by omega) (by omega))) ?_
         refine asr (lr _) rfl ?_
         refine sq_nil ?_
         have hstep := loosies_take (l := p.scenes) (k := k) (by omega)
         have hgood : scBad p.scenes k (by omega) = false := by simp [scBad, *]
         exact ⟨⟨k + 1, by omega, fun i h hi => (by by_cases e : i = k; (subst e; exact hgood); exact hok i h (by omega))⟩, by simp only; omega, Sub.fin 1 ⟨less_int (by rw [hstep]; simp [*]), lr _, lr _, trivial⟩ rfl (by simp [slotsIn, objsIn, sget, keepS, AObj.inB, AV.inB, AV.inL, AV.inE, inE_map]) (by simp [slotsIn, objsIn, sget, keepS, AObj.inB, AV.inB, AV.inL, AV.inE, inE_map]) (by simp [he0])⟩
 ·
  have c1' := c1
  try simp only [qq] at c1'
  refine aw_exit (aw_seq (aw_region ?_))
  refine mvr (lr _) rfl ?_
  refine sq_ev rfl (ev_leq (lr _) (lr _)) ?_
  refine asr (lr _) rfl ?_
  refine sq_nil (aw_ret ?_)
  exact retQ_pure (v := .raw _) rfl rfl (Less.eq (by rw [scOK_end hk c1' hok]))

set_option maxHeartbeats 1000000 in
/-- kelir/kelirref03.Plan -/
theorem plan_pure (p : Pl) (hl : p.scenes.length ≤ 1000000) : APure Tryz.prog 24 [plan p] (B (PlOK p)) := by
 refine apure_of (rs := [.tmp 2]) Tryz.func24 rfl rfl (Nat.le_of_ble_eq_true rfl) (by simp [AV.pureL, AV.pureB, AV.pureE, pureE_map]) (rfl) fun e0 he0 => ?_
 refine aw_seq (aw_region ?_)
 refine sq_box rfl (lr _) rfl ?_
 refine asr (lr _) rfl ?_
 refine sq_nil (aw_seq (aw_region ?_))
 refine sq_ev rfl (ev_fieldAddr fo27_0 (lr _)) ?_
 refine sq_ev rfl (ev_load (lr _) rfl ty3 rfl) ?_
 refine sq_ev rfl (ev_call en89 (lr _) (in_pure _ _ _) ⟨lr _, lr _, lr _, trivial⟩) ?_
 refine mvr (lr _) rfl ?_
 refine sq_split 6 (lr _) (fun g1 => ?_) (fun g1 => ?_)
 ·
  have g1' := g1
  try simp only [qq] at g1'
  refine sq_yes rfl rfl (less_b g1) rfl (ev_fieldAddr fo27_1 (lr _)) ?_
  refine sq_yes rfl rfl (less_b g1) rfl (ev_index_box ar24 (lr _) (lr _) rfl (by decide)) ?_
  refine sq_yes rfl rfl (less_b g1) rfl (ev_load_agg (lr _) rfl ty23 rfl) ?_
  refine sq_yes rfl rfl (less_b g1) rfl (ev_call en90 (lr _) (window_pure _ _) ⟨lr _, trivial⟩) ?_
  refine sq_ev rfl (ev_pickT (v := .raw _) (less_b g1) (lr _)) ?_
  refine mvr (lr _) rfl ?_
  refine sq_split 12 (lr _) (fun g2 => ?_) (fun g2 => ?_)
  ·
   have g2' := g2
   try simp only [qq] at g2'
   refine sq_yes rfl rfl (less_b g2) rfl (ev_fieldAddr fo27_1 (lr _)) ?_
   refine sq_yes rfl rfl (less_b g2) rfl (ev_index_box ar24 (lr _) (lr _) rfl (by decide)) ?_
   refine sq_yes rfl rfl (less_b g2) rfl (ev_load_agg (lr _) rfl ty23 rfl) ?_
   refine sq_yes rfl rfl (less_b g2) rfl (ev_call en90 (lr _) (window_pure _ _) ⟨lr _, trivial⟩) ?_
   refine sq_ev rfl (ev_pickT (v := .raw _) (less_b g2) (lr _)) ?_
   refine mvr (lr _) rfl ?_
   refine sq_split 18 (lr _) (fun g3 => ?_) (fun g3 => ?_)
   ·
    have g3' := g3
    try simp only [qq] at g3'
    refine sq_yes rfl rfl (less_b g3) rfl (ev_fieldAddr fo27_2 (lr _)) ?_
    refine sq_yes rfl rfl (less_b g3) rfl (ev_load_agg (lr _) rfl ty23 rfl) ?_
    refine sq_yes rfl rfl (less_b g3) rfl (ev_call en90 (lr _) (window_pure _ _) ⟨lr _, trivial⟩) ?_
    refine sq_ev rfl (ev_pickT (v := .raw _) (less_b g3) (lr _)) ?_
    refine mvr (lr _) rfl ?_
    refine sq_split 23 (lr _) (fun g4 => ?_) (fun g4 => ?_)
    ·
     have g4' := g4
     try simp only [qq] at g4'
     refine sq_yes rfl rfl (less_b g4) rfl (ev_fieldAddr fo27_3 (lr _)) ?_
     refine sq_yes rfl rfl (less_b g4) rfl (ev_load (lr _) rfl ty25 rfl) ?_
     refine sq_yes rfl rfl (less_b g4) rfl (ev_len_map sl25 (lr _)) ?_
     refine sq_yes rfl rfl (less_b g4) rfl (ev_call en89 (lr _) (in_pure _ _ _) ⟨lr _, lr _, lr _, trivial⟩) ?_
     refine sq_ev rfl (ev_pickT (v := .raw _) (less_b g4) (lr _)) ?_
     refine mvr (lr _) rfl ?_
     refine sq_split 29 (lr _) (fun g5 => ?_) (fun g5 => ?_)
     ·
      have g5' := g5
      try simp only [qq] at g5'
      refine sq_yes rfl rfl (less_b g5) rfl (ev_load_agg (lr _) rfl ty27 rfl) ?_
      refine sq_yes rfl rfl (less_b g5) rfl (ev_call en91 (lr _) (scenes_pure _ hl) ⟨lr _, trivial⟩) ?_
      refine sq_ev rfl (ev_pickT (v := .raw _) (less_b g5) (lr _)) ?_
      refine asr (lr _) rfl ?_
      refine sq_nil (aw_ret ?_)
      exact retQ_pure (v := .raw _) rfl rfl (Less.eq (by simp [PlOK, *]))
     ·
      have g5' := g5
      try simp only [qq] at g5'
      refine sq_no rfl rfl (less_b g5) rfl rfl ?_
      refine sq_no rfl rfl (less_b g5) rfl rfl ?_
      refine sq_ev rfl (ev_pickF (v := .raw _) (less_b g5) (lr _)) ?_
      refine asr (lr _) rfl ?_
      refine sq_nil (aw_ret ?_)
      exact retQ_pure (v := .raw _) rfl rfl (Less.eq (by simp [PlOK, *]))
    ·
     have g4' := g4
     try simp only [qq] at g4'
     refine sq_no rfl rfl (less_b g4) rfl rfl ?_
     refine sq_no rfl rfl (less_b g4) rfl rfl ?_
     refine sq_no rfl rfl (less_b g4) rfl rfl ?_
     refine sq_no rfl rfl (less_b g4) rfl rfl ?_
     refine sq_ev rfl (ev_pickF (v := .raw _) (less_b g4) (lr _)) ?_
     refine mvr (lr _) rfl ?_
     refine sq_no rfl rfl (lr _) rfl rfl ?_
     refine sq_no rfl rfl (lr _) rfl rfl ?_
     refine sq_ev rfl (ev_pickF (v := .raw _) (lr _) (lr _)) ?_
     refine asr (lr _) rfl ?_
     refine sq_nil (aw_ret ?_)
     exact retQ_pure (v := .raw _) rfl rfl (Less.eq (by simp [PlOK, *]))
   ·
    have g3' := g3
    try simp only [qq] at g3'
    refine sq_no rfl rfl (less_b g3) rfl rfl ?_
    refine sq_no rfl rfl (less_b g3) rfl rfl ?_
    refine sq_no rfl rfl (less_b g3) rfl rfl ?_
    refine sq_ev rfl (ev_pickF (v := .raw _) (less_b g3) (lr _)) ?_
    refine mvr (lr _) rfl ?_
    refine sq_no rfl rfl (lr _) rfl rfl ?_
    refine sq_no rfl rfl (lr _) rfl rfl ?_
    refine sq_no rfl rfl (lr _) rfl rfl ?_
    refine sq_no rfl rfl (lr _) rfl rfl ?_
    refine sq_ev rfl (ev_pickF (v := .raw _) (lr _) (lr _)) ?_
    refine mvr (lr _) rfl ?_
    refine sq_no rfl rfl (lr _) rfl rfl ?_
    refine sq_no rfl rfl (lr _) rfl rfl ?_
    refine sq_ev rfl (ev_pickF (v := .raw _) (lr _) (lr _)) ?_
    refine asr (lr _) rfl ?_
    refine sq_nil (aw_ret ?_)
    exact retQ_pure (v := .raw _) rfl rfl (Less.eq (by simp [PlOK, *]))
  ·
   have g2' := g2
   try simp only [qq] at g2'
   refine sq_no rfl rfl (less_b g2) rfl rfl ?_
   refine sq_no rfl rfl (less_b g2) rfl rfl ?_
   refine sq_no rfl rfl (less_b g2) rfl rfl ?_
   refine sq_no rfl rfl (less_b g2) rfl rfl ?_
   refine sq_ev rfl (ev_pickF (v := .raw _) (less_b g2) (lr _)) ?_
   refine mvr (lr _) rfl ?_
   refine sq_no rfl rfl (lr _) rfl rfl ?_
   refine sq_no rfl rfl (lr _) rfl rfl ?_
   refine sq_no rfl rfl (lr _) rfl rfl ?_
   refine sq_ev rfl (ev_pickF (v := .raw _) (lr _) (lr _)) ?_
   refine mvr (lr _) rfl ?_
   refine sq_no rfl rfl (lr _) rfl rfl ?_
   refine sq_no rfl rfl (lr _) rfl rfl ?_
   refine sq_no rfl rfl (lr _) rfl rfl ?_
   refine sq_no rfl rfl (lr _) rfl rfl ?_
   refine sq_ev rfl (ev_pickF (v := .raw _) (lr _) (lr _)) ?_
   refine mvr (lr _) rfl ?_
   refine sq_no rfl rfl (lr _) rfl rfl ?_
   refine sq_no rfl rfl (lr _) rfl rfl ?_
   refine sq_ev rfl (ev_pickF (v := .raw _) (lr _) (lr _)) ?_
   refine asr (lr _) rfl ?_
   refine sq_nil (aw_ret ?_)
   exact retQ_pure (v := .raw _) rfl rfl (Less.eq (by simp [PlOK, *]))
 ·
  have g1' := g1
  try simp only [qq] at g1'
  refine sq_no rfl rfl (less_b g1) rfl rfl ?_
  refine sq_no rfl rfl (less_b g1) rfl rfl ?_
  refine sq_no rfl rfl (less_b g1) rfl rfl ?_
  refine sq_no rfl rfl (less_b g1) rfl rfl ?_
  refine sq_ev rfl (ev_pickF (v := .raw _) (less_b g1) (lr _)) ?_
  refine mvr (lr _) rfl ?_
  refine sq_no rfl rfl (lr _) rfl rfl ?_
  refine sq_no rfl rfl (lr _) rfl rfl ?_
  refine sq_no rfl rfl (lr _) rfl rfl ?_
  refine sq_no rfl rfl (lr _) rfl rfl ?_
  refine sq_ev rfl (ev_pickF (v := .raw _) (lr _) (lr _)) ?_
  refine mvr (lr _) rfl ?_
  refine sq_no rfl rfl (lr _) rfl rfl ?_
  refine sq_no rfl rfl (lr _) rfl rfl ?_
  refine sq_no rfl rfl (lr _) rfl rfl ?_
  refine sq_ev rfl (ev_pickF (v := .raw _) (lr _) (lr _)) ?_
  refine mvr (lr _) rfl ?_
  refine sq_no rfl rfl (lr _) rfl rfl ?_
  refine sq_no rfl rfl (lr _) rfl rfl ?_
  refine sq_no rfl rfl (lr _) rfl rfl ?_
  refine sq_no rfl rfl (lr _) rfl rfl ?_
  refine sq_ev rfl (ev_pickF (v := .raw _) (lr _) (lr _)) ?_
  refine mvr (lr _) rfl ?_
  refine sq_no rfl rfl (lr _) rfl rfl ?_
  refine sq_no rfl rfl (lr _) rfl rfl ?_
  refine sq_ev rfl (ev_pickF (v := .raw _) (lr _) (lr _)) ?_
  refine asr (lr _) rfl ?_
  refine sq_nil (aw_ret ?_)
  exact retQ_pure (v := .raw _) rfl rfl (Less.eq (by simp [PlOK, *]))

set_option maxHeartbeats 400000 in
/-- kelir/kelirref03.Scene -/
theorem scene_pure (p : Pl) (n : Int) (hl : p.scenes.length ≤ 1000000) : APure Tryz.prog 35 [plan p, I n] (B (isSc p n)) := by
 refine apure_of (rs := [.tmp 4]) Tryz.func35 rfl rfl (Nat.le_of_ble_eq_true rfl) (by simp [AV.pureL, AV.pureB, AV.pureE, pureE_map]) (rfl) fun e0 he0 => ?_
 refine aw_seq (aw_region ?_)
 refine sq_box rfl (lr _) rfl ?_
 refine asr (lr _) rfl ?_
 refine sq_nil (aw_seq (aw_region ?_))
 refine mvr (lr _) rfl ?_
 refine sq_ev rfl (ev_fieldAddr fo27_3 (lr _)) ?_
 refine sq_ev rfl (ev_load (lr _) rfl ty25 rfl) ?_
 refine sq_ev rfl (ev_len_map sl25 (lr _)) ?_
 refine sq_ev rfl (ev_sub (lr _) (lr _) (wr (by omega) (by omega))) ?_
 refine sq_ev rfl (ev_call en89 (lr _) (in_pure _ _ _) ⟨lr _, lr _, lr _, trivial⟩) ?_
 refine asr (lr _) rfl ?_
 refine sq_nil (aw_ret ?_)
 exact retQ_pure (v := .raw _) rfl rfl (Less.eq (by simp [isSc]))

set_option maxHeartbeats 400000 in
/-- kelir/kelirref03.Has -/
theorem has_pure (l : List Int) (n : Int) (hl : l.length ≤ 1000000) : APure Tryz.prog 62 [ints l, I n] (B (has l n)) := by
 refine apure_of (rs := [.tmp 4]) Tryz.func62 rfl rfl (Nat.le_of_ble_eq_true rfl) (by simp [AV.pureL, AV.pureB, AV.pureE, pureE_map]) (rfl) fun e0 he0 => ?_
 refine aw_seq (aw_region ?_)
 refine asr (lr _) rfl ?_
 refine sq_nil (aw_seq (aw_seq (aw_region ?_)))
 refine asr (lr _) rfl ?_
 refine sq_nil (aw_block ?_)
 refine aw_loopk (ι := { k : Nat // k ≤ l.length ∧ ∀ j, (h : j < l.length) → j < k → l[j] ≠ n }) [0, 1] (fun i => [(5, I i.1)]) (fun H i => H) (fun i => l.length - i.1) (⟨0, Nat.zero_le _, by omega⟩) ⟨lr _, lr _, lr _, trivial⟩ rfl ?_
 rintro ⟨k, hk, hok⟩
 dsimp only [keepS, St.put, sget, slotsOf, List.map_cons, List.map_nil, List.cons_append, List.nil_append, List.length_cons, List.length_nil, Nat.reduceBEq, Nat.reduceAdd, cond_true, cond_false]
 refine aw_seq (aw_seq (aw_region ?_))
 refine mvr (lr _) rfl ?_
 refine sq_ev rfl (ev_mv (v := .sl _ _) (lr _)) ?_
 refine sq_ev rfl (ev_len_map sl34 (lr _)) ?_
 refine sq_ev rfl (ev_lss (lr _) (lr _)) ?_
 refine sq_nil ?_
 refine aw_cond (lr _) (fun c1 => ?_) (fun c1 => ?_)
 ·
  have c1' := c1
  try simp only [qq] at c1'
  refine aw_skip (aw_seq (aw_block (aw_seq (aw_region ?_))))
  refine sq_ev rfl (ev_mv (v := .sl _ _) (lr _)) ?_
  refine mvr (lr _) rfl ?_
  refine sq_ev rfl (ev_index_map sl34 (lr _) (lr _) rfl (by omega)) ?_
  refine sq_ev rfl (ev_load_i (lr _) ty3 rfl) ?_
  refine mvr (lr _) rfl ?_
  refine sq_ev rfl (ev_eql (lr _) (lr _)) ?_
  refine sq_nil ?_
  refine aw_cond (lr _) (fun c2 => ?_) (fun c2 => ?_)
  ·
   have c2' := c2
   try simp only [qq] at c2'
   refine aw_seq (aw_region ?_)
   refine asr (lr _) rfl ?_
   refine sq_nil (aw_ret ?_)
   exact retQ_pure (v := .raw _) rfl rfl (Less.eq (by rw [has_yes (k := k) (by omega) c2']))
  ·
   have c2' := c2
   try simp only [qq] at c2'
   refine aw_skip (aw_region ?_)
   refine mvr (lr _) rfl ?_
   refine sq_ev rfl (ev_add (lr _) (lr _) (wr (by omega) (by omega))) ?_
   refine asr (lr _) rfl ?_
   refine sq_nil ?_
   exact ⟨⟨k + 1, by omega, fun j h hj => (by by_cases e : j = k; (subst e; exact c2'); exact hok j h (by omega))⟩, by simp only; omega, Sub.slots ⟨lr _, lr _, lr _, trivial⟩⟩
 ·
  have c1' := c1
  try simp only [qq] at c1'
  refine aw_exit (aw_seq (aw_region ?_))
  refine asr (lr _) rfl ?_
  refine sq_nil (aw_ret ?_)
  exact retQ_pure (v := .raw _) rfl rfl (Less.eq (by rw [has_no c1' hok]))

set_option maxHeartbeats 1000000 in
/-- kelir/kelirref03.Rising -/
theorem rising_pure (p : Pl) (l : List Int) (hp : p.scenes.length ≤ 1000000) (hl : l.length ≤ 1000000) : APure Tryz.prog 77 [plan p, ints l] (B (Ris p l)) := by
 refine apure_of (rs := [.tmp 4]) Tryz.func77 rfl rfl (Nat.le_of_ble_eq_true rfl) (by simp [AV.pureL, AV.pureB, AV.pureE, pureE_map]) (rfl) fun e0 he0 => ?_
 refine aw_seq (aw_region ?_)
 refine sq_box rfl (lr _) rfl ?_
 refine asr (lr _) rfl ?_
 refine sq_nil (aw_seq (aw_seq (aw_region ?_)))
 refine asr (lr _) rfl ?_
 refine sq_nil (aw_block ?_)
 refine aw_loopk (ι := { k : Nat // k ≤ l.length ∧ ∀ i, (h : i < l.length) → i < k → risBad p l i h = false }) [1, 2] (fun i => [(5, I i.1)]) (fun H i => H) (fun i => l.length - i.1) (⟨0, Nat.zero_le _, by omega⟩) ⟨lr _, lr _, lr _, trivial⟩ rfl ?_
 rintro ⟨k, hk, hok⟩
 dsimp only [keepS, St.put, sget, slotsOf, List.map_cons, List.map_nil, List.cons_append, List.nil_append, List.length_cons, List.length_nil, Nat.reduceBEq, Nat.reduceAdd, cond_true, cond_false]
 refine aw_seq (aw_seq (aw_region ?_))
 refine mvr (lr _) rfl ?_
 refine sq_ev rfl (ev_mv (v := .sl _ _) (lr _)) ?_
 refine sq_ev rfl (ev_len_map sl34 (lr _)) ?_
 refine sq_ev rfl (ev_lss (lr _) (lr _)) ?_
 refine sq_nil ?_
 refine aw_cond (lr _) (fun c1 => ?_) (fun c1 => ?_)
 ·
  have c1' := c1
  try simp only [qq] at c1'
  refine aw_skip (aw_seq (aw_block (aw_seq ?_)))
  refine aw_draw 23 mo (by kernel_rfl) ?_
  refine dr_ev rfl (ev_load_agg (lr _) rfl ty27 rfl) ?_
  refine dr_ev rfl (ev_mv (v := .sl _ _) (lr _)) ?_
  refine dr_ev rfl (ev_mv (v := .raw _) (lr _)) ?_
  refine dr_ev rfl (ev_index_map sl34 (lr _) (lr _) rfl (by omega)) ?_
  refine dr_ev rfl (ev_load_i (lr _) ty3 rfl) ?_
  refine dr_ev rfl (ev_call en35 (lr _) (scene_pure _ _ hp) ⟨lr _, lr _, trivial⟩) ?_
  refine dr_ev rfl (ev_not (lr _)) ?_
  refine dr_ev rfl (ev_mv (v := .raw _) (lr _)) ?_
  refine dr_split 19 (lr _) (fun g2 => ?_) (fun g2 => ?_)
  ·
   have g2' := g2
   try simp only [qq] at g2'
   refine dr_no rfl rfl (less_b g2) rfl rfl ?_
   refine dr_no rfl rfl (less_b g2) rfl rfl ?_
   refine dr_no rfl rfl (less_b g2) rfl rfl ?_
   refine dr_no rfl rfl (lr _) rfl rfl ?_
   refine dr_no rfl rfl (lr _) rfl rfl ?_
   refine dr_no rfl rfl (lr _) rfl rfl ?_
   refine dr_no rfl rfl (lr _) rfl rfl ?_
   refine dr_no rfl rfl (lr _) rfl rfl ?_
   refine dr_no rfl rfl (lr _) rfl rfl ?_
   refine dr_no rfl rfl (lr _) rfl rfl ?_
   refine dr_no rfl rfl (lr _) rfl rfl ?_
   refine dr_no rfl rfl (lr _) rfl rfl ?_
   refine dr_no rfl rfl (lr _) rfl rfl ?_
   refine dr_no rfl rfl (less_b g2) rfl rfl ?_
   refine dr_ev rfl (ev_pickT (v := .raw _) (less_b g2) (lr _)) ?_
   refine dr_end (sq_nil ?_)
   refine aw_true (lr _) ?_
   refine aw_seq (aw_region ?_)
   refine asr (lr _) rfl ?_
   refine sq_nil (aw_ret ?_)
   exact retQ_pure (v := .raw _) rfl rfl (Less.eq (by rw [Ris, okAll_bad (i := k) (by omega) (by first | (simp [risBad, *]; done) | (simp_all [risBad]; done))]))
  ·
   have g2' := g2
   try simp only [qq] at g2'
   refine dr_yes rfl rfl (less_b g2) rfl (ev_mv (v := .raw _) (lr _)) ?_
   refine dr_yes rfl rfl (less_b g2) rfl (ev_gtr (lr _) (lr _)) ?_
   refine dr_yes rfl rfl (less_b g2) rfl (ev_mv (v := .raw _) (lr _)) ?_
   refine dr_split 22 (lr _) (fun g3 => ?_) (fun g3 => ?_)
   ·
    have g3' := g3
    try simp only [qq] at g3'
    have g3n : 0 < k := by omega
    refine dr_yes rfl rfl (less_b g3) rfl (ev_mv (v := .sl _ _) (lr _)) ?_
    refine dr_yes rfl rfl (less_b g3) rfl (ev_mv (v := .raw _) (lr _)) ?_
    refine dr_yes rfl rfl (less_b g3) rfl (ev_index_map sl34 (lr _) (lr _) rfl (by omega)) ?_
    refine dr_yes rfl rfl (less_b g3) rfl (ev_load_i (lr _) ty3 rfl) ?_
    refine dr_yes rfl rfl (less_b g3) rfl (ev_mv (v := .sl _ _) (lr _)) ?_
    refine dr_yes rfl rfl (less_b g3) rfl (ev_mv (v := .raw _) (lr _)) ?_
    refine dr_yes rfl rfl (less_b g3) rfl (ev_sub (lr _) (lr _) (wr (by omega) (by omega))) ?_
    refine dr_yes rfl rfl (less_b g3) rfl (ev_index_map sl34 (lr _) (lr _) (show ((k : Int) - 1) = ((k - 1 : Nat) : Int) by omega) (by omega)) ?_
    refine dr_yes rfl rfl (less_b g3) rfl (ev_load_i (lr _) ty3 rfl) ?_
    refine dr_yes rfl rfl (less_b g3) rfl (ev_leq (lr _) (lr _)) ?_
    refine dr_yes rfl rfl (less_b g2) rfl (ev_pickT (v := .raw _) (less_b g3) (lr _)) ?_
    refine dr_ev rfl (ev_pickF (v := .raw _) (less_b g2) (lr _)) ?_
    refine dr_end (sq_nil ?_)
    refine aw_cond (lr _) (fun c4 => ?_) (fun c4 => ?_)
    ·
     have c4' := c4
     try simp only [qq] at c4'
     refine aw_seq (aw_region ?_)
     refine asr (lr _) rfl ?_
     refine sq_nil (aw_ret ?_)
     exact retQ_pure (v := .raw _) rfl rfl (Less.eq (by rw [Ris, okAll_bad (i := k) (by omega) (by first | (simp [risBad, *]; done) | (simp_all [risBad]; done))]))
    ·
     have c4' := c4
     try simp only [qq] at c4'
     refine aw_skip (aw_region ?_)
     refine mvr (lr _) rfl ?_
     refine sq_ev rfl (ev_add (lr _) (lr _) (wr (by omega) (by omega))) ?_
     refine asr (lr _) rfl ?_
     refine sq_nil ?_
     have hgood : risBad p l k (by omega) = false := by first | (simp [risBad, *]; done) | (simp_all [risBad]; done)
     exact ⟨⟨k + 1, by omega, fun i h hi => (by by_cases e : i = k; (subst e; exact hgood); exact hok i h (by omega))⟩, by simp only; omega, Sub.fin 1 ⟨lr _, lr _, lr _, trivial⟩ rfl (by simp [slotsIn, objsIn, sget, keepS, AObj.inB, AV.inB, AV.inL, AV.inE, inE_map]) (by simp [slotsIn, objsIn, sget, keepS, AObj.inB, AV.inB, AV.inL, AV.inE, inE_map]) (by simp [he0])⟩
   ·
    have g3' := g3
    try simp only [qq] at g3'
    have g3n : ¬ (0 < k) := by omega
    refine dr_no rfl rfl (less_b g3) rfl rfl ?_
    refine dr_no rfl rfl (less_b g3) rfl rfl ?_
    refine dr_no rfl rfl (less_b g3) rfl rfl ?_
    refine dr_no rfl rfl (less_b g3) rfl rfl ?_
    refine dr_no rfl rfl (less_b g3) rfl rfl ?_
    refine dr_no rfl rfl (less_b g3) rfl rfl ?_
    refine dr_no rfl rfl (less_b g3) rfl rfl ?_
    refine dr_no rfl rfl (less_b g3) rfl rfl ?_
    refine dr_no rfl rfl (less_b g3) rfl rfl ?_
    refine dr_no rfl rfl (less_b g3) rfl rfl ?_
    refine dr_yes rfl rfl (less_b g2) rfl (ev_pickF (v := .raw _) (less_b g3) (lr _)) ?_
    refine dr_ev rfl (ev_pickF (v := .raw _) (less_b g2) (lr _)) ?_
    refine dr_end (sq_nil ?_)
    refine aw_false (lr _) ?_
    refine aw_skip (aw_region ?_)
    refine mvr (lr _) rfl ?_
    refine sq_ev rfl (ev_add (lr _) (lr _) (wr (by omega) (by omega))) ?_
    refine asr (lr _) rfl ?_
    refine sq_nil ?_
    have hgood : risBad p l k (by omega) = false := by first | (simp [risBad, *]; done) | (simp_all [risBad]; done)
    exact ⟨⟨k + 1, by omega, fun i h hi => (by by_cases e : i = k; (subst e; exact hgood); exact hok i h (by omega))⟩, by simp only; omega, Sub.fin 1 ⟨lr _, lr _, lr _, trivial⟩ rfl (by simp [slotsIn, objsIn, sget, keepS, AObj.inB, AV.inB, AV.inL, AV.inE, inE_map]) (by simp [slotsIn, objsIn, sget, keepS, AObj.inB, AV.inB, AV.inL, AV.inE, inE_map]) (by simp [he0])⟩
 ·
  have c1' := c1
  try simp only [qq] at c1'
  refine aw_exit (aw_seq (aw_region ?_))
  refine asr (lr _) rfl ?_
  refine sq_nil (aw_ret ?_)
  exact retQ_pure (v := .raw _) rfl rfl (Less.eq (by rw [Ris, okAll_end hk c1' hok]))

set_option maxHeartbeats 2000000 in
/-- kelir/kelirref03.Choice -/
theorem choice_pure (p : Pl) (l : List Int) (hp : p.scenes.length ≤ 1000000) (hl : l.length ≤ 1000000) : APure Tryz.prog 78 [plan p, ints l] (B (isCh p l)) := by
 refine apure_of (rs := [.tmp 4]) Tryz.func78 rfl rfl (Nat.le_of_ble_eq_true rfl) (by simp [AV.pureL, AV.pureB, AV.pureE, pureE_map]) (rfl) fun e0 he0 => ?_
 refine aw_seq (aw_region ?_)
 refine sq_box rfl (lr _) rfl ?_
 refine asr (lr _) rfl ?_
 refine sq_nil (aw_seq (aw_seq (aw_region ?_)))
 refine asr (lr _) rfl ?_
 refine sq_nil (aw_block ?_)
 refine aw_loopk (ι := { k : Nat // k ≤ p.scenes.length ∧ ∀ i, (h : i < p.scenes.length) → i < k → chBad p l i h = false }) [1, 2] (fun i => [(5, I i.1)]) (fun H i => H) (fun i => p.scenes.length - i.1) (⟨0, Nat.zero_le _, by omega⟩) ⟨lr _, lr _, lr _, trivial⟩ rfl ?_
 rintro ⟨k, hk, hok⟩
 dsimp only [keepS, St.put, sget, slotsOf, List.map_cons, List.map_nil, List.cons_append, List.nil_append, List.length_cons, List.length_nil, Nat.reduceBEq, Nat.reduceAdd, cond_true, cond_false]
 refine aw_seq (aw_seq (aw_region ?_))
 refine mvr (lr _) rfl ?_
 refine sq_ev rfl (ev_fieldAddr fo27_3 (lr _)) ?_
 refine sq_ev rfl (ev_load (lr _) rfl ty25 rfl) ?_
 refine sq_ev rfl (ev_len_map sl25 (lr _)) ?_
 refine sq_ev rfl (ev_lss (lr _) (lr _)) ?_
 refine sq_nil ?_
 refine aw_cond (lr _) (fun c1 => ?_) (fun c1 => ?_)
 ·
  have c1' := c1
  try simp only [qq] at c1'
  refine aw_skip (aw_seq (aw_block (aw_seq (aw_region ?_))))
  refine sq_ev rfl (ev_fieldAddr fo27_3 (lr _)) ?_
  refine sq_ev rfl (ev_load (lr _) rfl ty25 rfl) ?_
  refine mvr (lr _) rfl ?_
  refine sq_ev rfl (ev_index_map sl25 (lr _) (lr _) rfl (by omega)) ?_
  refine sq_ev rfl (ev_load_agg_i (lr _) ty84 (Nat.le_of_ble_eq_true rfl)) ?_
  refine sq_alloc rfl z84 ?_
  refine sq_store rfl (lr _) (lr _) rfl rfl ty84 rfl rfl ?_
  refine sq_nil (aw_seq (aw_region ?_))
  refine sq_ev rfl (ev_mv (v := .sl _ _) (lr _)) ?_
  refine mvr (lr _) rfl ?_
  refine sq_ev rfl (ev_call en62 (lr _) (has_pure _ _ hl) ⟨lr _, lr _, trivial⟩) ?_
  refine sq_ev rfl (ev_not (lr _)) ?_
  refine mvr (lr _) rfl ?_
  refine sq_split 23 (lr _) (fun g2 => ?_) (fun g2 => ?_)
  ·
   have g2' := g2
   try simp only [qq] at g2'
   refine sq_yes rfl rfl (less_b g2) rfl (ev_fieldAddr fo84_3 (lr _)) ?_
   refine sq_yes rfl rfl (less_b g2) rfl (ev_load (lr _) rfl ty4 rfl) ?_
   refine sq_yes rfl rfl (less_b g2) rfl (ev_not (lr _)) ?_
   refine sq_ev rfl (ev_pickT (v := .raw _) (less_b g2) (lr _)) ?_
   refine mvr (lr _) rfl ?_
   refine sq_split 28 (lr _) (fun g3 => ?_) (fun g3 => ?_)
   ·
    have g3' := g3
    try simp only [qq] at g3'
    refine sq_no rfl rfl (less_b g3) rfl rfl ?_
    refine sq_no rfl rfl (less_b g3) rfl rfl ?_
    refine sq_no rfl rfl (less_b g3) rfl rfl ?_
    refine sq_no rfl rfl (less_b g3) rfl rfl ?_
    refine sq_no rfl rfl (lr _) rfl rfl ?_
    refine sq_no rfl rfl (lr _) rfl rfl ?_
    refine sq_no rfl rfl (lr _) rfl rfl ?_
    refine sq_no rfl rfl (less_b g3) rfl rfl ?_
    refine sq_no rfl rfl (less_b g3) rfl rfl ?_
    refine sq_no rfl rfl (lr _) rfl rfl ?_
    refine sq_no rfl rfl (lr _) rfl rfl ?_
    refine sq_no rfl rfl (lr _) rfl rfl ?_
    refine sq_no rfl rfl (lr _) rfl rfl ?_
    refine sq_no rfl rfl (lr _) rfl rfl ?_
    refine sq_no rfl rfl (less_b g3) rfl rfl ?_
    refine sq_ev rfl (ev_pickT (v := .raw _) (less_b g3) (lr _)) ?_
    refine sq_nil ?_
    refine aw_true (lr _) ?_
    refine aw_seq (aw_region ?_)
    refine asr (lr _) rfl ?_
    refine sq_nil (aw_ret ?_)
    exact retQ_pure (v := .raw _) rfl rfl (Less.eq (by rw [isCh, okAll_bad (i := k) (by omega) (by first | (simp [chBad, *]; done) | (simp_all [chBad]; done))]))
   ·
    have g3' := g3
    try simp only [qq] at g3'
    refine sq_yes rfl rfl (less_b g3) rfl (ev_mv (v := .sl _ _) (lr _)) ?_
    refine sq_yes rfl rfl (less_b g3) rfl (ev_mv (v := .raw _) (lr _)) ?_
    refine sq_yes rfl rfl (less_b g3) rfl (ev_call en62 (lr _) (has_pure _ _ hl) ⟨lr _, lr _, trivial⟩) ?_
    refine sq_yes rfl rfl (less_b g3) rfl (ev_mv (v := .raw _) (lr _)) ?_
    refine sq_split 32 (lr _) (fun g4 => ?_) (fun g4 => ?_)
    ·
     have g4' := g4
     try simp only [qq] at g4'
     refine sq_yes rfl rfl (less_b g4) rfl (ev_fieldAddr fo84_4 (lr _)) ?_
     refine sq_yes rfl rfl (less_b g4) rfl (ev_load (lr _) rfl ty3 rfl) ?_
     refine sq_yes rfl rfl (less_b g4) rfl (ev_geq (lr _) (lr _)) ?_
     refine sq_yes rfl rfl (less_b g3) rfl (ev_pickT (v := .raw _) (less_b g4) (lr _)) ?_
     refine sq_yes rfl rfl (less_b g3) rfl (ev_mv (v := .raw _) (lr _)) ?_
     refine sq_split 37 (lr _) (fun g5 => ?_) (fun g5 => ?_)
     ·
      have g5' := g5
      try simp only [qq] at g5'
      refine sq_yes rfl rfl (less_b g5) rfl (ev_mv (v := .sl _ _) (lr _)) ?_
      refine sq_yes rfl rfl (less_b g5) rfl (ev_fieldAddr fo84_4 (lr _)) ?_
      refine sq_yes rfl rfl (less_b g5) rfl (ev_load (lr _) rfl ty3 rfl) ?_
      refine sq_yes rfl rfl (less_b g5) rfl (ev_call en62 (lr _) (has_pure _ _ hl) ⟨lr _, lr _, trivial⟩) ?_
      refine sq_yes rfl rfl (less_b g5) rfl (ev_not (lr _)) ?_
      refine sq_yes rfl rfl (less_b g3) rfl (ev_pickT (v := .raw _) (less_b g5) (lr _)) ?_
      refine sq_ev rfl (ev_pickF (v := .raw _) (less_b g3) (lr _)) ?_
      refine sq_nil ?_
      refine aw_cond (lr _) (fun c6 => ?_) (fun c6 => ?_)
      ·
       have c6' := c6
       try simp only [qq] at c6'
       refine aw_seq (aw_region ?_)
       refine asr (lr _) rfl ?_
       refine sq_nil (aw_ret ?_)
       exact retQ_pure (v := .raw _) rfl rfl (Less.eq (by rw [isCh, okAll_bad (i := k) (by omega) (by first | (simp [chBad, *]; done) | (simp_all [chBad]; done))]))
      ·
       have c6' := c6
       try simp only [qq] at c6'
       refine aw_skip (aw_region ?_)
       refine mvr (lr _) rfl ?_
       refine sq_ev rfl (ev_add (lr _) (lr _) (wr (by omega) (by omega))) ?_
       refine asr (lr _) rfl ?_
       refine sq_nil ?_
       have hgood : chBad p l k (by omega) = false := by first | (simp [chBad, *]; done) | (simp_all [chBad]; done)
       exact ⟨⟨k + 1, by omega, fun i h hi => (by by_cases e : i = k; (subst e; exact hgood); exact hok i h (by omega))⟩, by simp only; omega, Sub.fin 1 ⟨lr _, lr _, lr _, trivial⟩ rfl (by simp [slotsIn, objsIn, sget, keepS, AObj.inB, AV.inB, AV.inL, AV.inE, inE_map]) (by simp [slotsIn, objsIn, sget, keepS, AObj.inB, AV.inB, AV.inL, AV.inE, inE_map]) (by simp [he0])⟩
     ·
      have g5' := g5
      try simp only [qq] at g5'
      refine sq_no rfl rfl (less_b g5) rfl rfl ?_
      refine sq_no rfl rfl (less_b g5) rfl rfl ?_
      refine sq_no rfl rfl (less_b g5) rfl rfl ?_
      refine sq_no rfl rfl (less_b g5) rfl rfl ?_
      refine sq_no rfl rfl (less_b g5) rfl rfl ?_
      refine sq_yes rfl rfl (less_b g3) rfl (ev_pickF (v := .raw _) (less_b g5) (lr _)) ?_
      refine sq_ev rfl (ev_pickF (v := .raw _) (less_b g3) (lr _)) ?_
      refine sq_nil ?_
      refine aw_false (lr _) ?_
      refine aw_skip (aw_region ?_)
      refine mvr (lr _) rfl ?_
      refine sq_ev rfl (ev_add (lr _) (lr _) (wr (by omega) (by omega))) ?_
      refine asr (lr _) rfl ?_
      refine sq_nil ?_
      have hgood : chBad p l k (by omega) = false := by first | (simp [chBad, *]; done) | (simp_all [chBad]; done)
      exact ⟨⟨k + 1, by omega, fun i h hi => (by by_cases e : i = k; (subst e; exact hgood); exact hok i h (by omega))⟩, by simp only; omega, Sub.fin 1 ⟨lr _, lr _, lr _, trivial⟩ rfl (by simp [slotsIn, objsIn, sget, keepS, AObj.inB, AV.inB, AV.inL, AV.inE, inE_map]) (by simp [slotsIn, objsIn, sget, keepS, AObj.inB, AV.inB, AV.inL, AV.inE, inE_map]) (by simp [he0])⟩
    ·
     have g4' := g4
     try simp only [qq] at g4'
     refine sq_no rfl rfl (less_b g4) rfl rfl ?_
     refine sq_no rfl rfl (less_b g4) rfl rfl ?_
     refine sq_no rfl rfl (less_b g4) rfl rfl ?_
     refine sq_yes rfl rfl (less_b g3) rfl (ev_pickF (v := .raw _) (less_b g4) (lr _)) ?_
     refine sq_yes rfl rfl (less_b g3) rfl (ev_mv (v := .raw _) (lr _)) ?_
     refine sq_no rfl rfl (lr _) rfl rfl ?_
     refine sq_no rfl rfl (lr _) rfl rfl ?_
     refine sq_no rfl rfl (lr _) rfl rfl ?_
     refine sq_no rfl rfl (lr _) rfl rfl ?_
     refine sq_no rfl rfl (lr _) rfl rfl ?_
     refine sq_yes rfl rfl (less_b g3) rfl (ev_pickF (v := .raw _) (lr _) (lr _)) ?_
     refine sq_ev rfl (ev_pickF (v := .raw _) (less_b g3) (lr _)) ?_
     refine sq_nil ?_
     refine aw_false (lr _) ?_
     refine aw_skip (aw_region ?_)
     refine mvr (lr _) rfl ?_
     refine sq_ev rfl (ev_add (lr _) (lr _) (wr (by omega) (by omega))) ?_
     refine asr (lr _) rfl ?_
     refine sq_nil ?_
     have hgood : chBad p l k (by omega) = false := by first | (simp [chBad, *]; done) | (simp_all [chBad]; done)
     exact ⟨⟨k + 1, by omega, fun i h hi => (by by_cases e : i = k; (subst e; exact hgood); exact hok i h (by omega))⟩, by simp only; omega, Sub.fin 1 ⟨lr _, lr _, lr _, trivial⟩ rfl (by simp [slotsIn, objsIn, sget, keepS, AObj.inB, AV.inB, AV.inL, AV.inE, inE_map]) (by simp [slotsIn, objsIn, sget, keepS, AObj.inB, AV.inB, AV.inL, AV.inE, inE_map]) (by simp [he0])⟩
  ·
   have g2' := g2
   try simp only [qq] at g2'
   refine sq_no rfl rfl (less_b g2) rfl rfl ?_
   refine sq_no rfl rfl (less_b g2) rfl rfl ?_
   refine sq_no rfl rfl (less_b g2) rfl rfl ?_
   refine sq_ev rfl (ev_pickF (v := .raw _) (less_b g2) (lr _)) ?_
   refine mvr (lr _) rfl ?_
   refine sq_yes rfl rfl (lr _) rfl (ev_mv (v := .sl _ _) (lr _)) ?_
   refine sq_yes rfl rfl (lr _) rfl (ev_mv (v := .raw _) (lr _)) ?_
   refine sq_yes rfl rfl (lr _) rfl (ev_call en62 (lr _) (has_pure _ _ hl) ⟨lr _, lr _, trivial⟩) ?_
   refine sq_yes rfl rfl (lr _) rfl (ev_mv (v := .raw _) (lr _)) ?_
   refine sq_split 32 (lr _) (fun g7 => ?_) (fun g7 => ?_)
   ·
    have g7' := g7
    try simp only [qq] at g7'
    refine sq_yes rfl rfl (less_b g7) rfl (ev_fieldAddr fo84_4 (lr _)) ?_
    refine sq_yes rfl rfl (less_b g7) rfl (ev_load (lr _) rfl ty3 rfl) ?_
    refine sq_yes rfl rfl (less_b g7) rfl (ev_geq (lr _) (lr _)) ?_
    refine sq_yes rfl rfl (lr _) rfl (ev_pickT (v := .raw _) (less_b g7) (lr _)) ?_
    refine sq_yes rfl rfl (lr _) rfl (ev_mv (v := .raw _) (lr _)) ?_
    refine sq_split 37 (lr _) (fun g8 => ?_) (fun g8 => ?_)
    ·
     have g8' := g8
     try simp only [qq] at g8'
     refine sq_yes rfl rfl (less_b g8) rfl (ev_mv (v := .sl _ _) (lr _)) ?_
     refine sq_yes rfl rfl (less_b g8) rfl (ev_fieldAddr fo84_4 (lr _)) ?_
     refine sq_yes rfl rfl (less_b g8) rfl (ev_load (lr _) rfl ty3 rfl) ?_
     refine sq_yes rfl rfl (less_b g8) rfl (ev_call en62 (lr _) (has_pure _ _ hl) ⟨lr _, lr _, trivial⟩) ?_
     refine sq_yes rfl rfl (less_b g8) rfl (ev_not (lr _)) ?_
     refine sq_yes rfl rfl (lr _) rfl (ev_pickT (v := .raw _) (less_b g8) (lr _)) ?_
     refine sq_ev rfl (ev_pickF (v := .raw _) (lr _) (lr _)) ?_
     refine sq_nil ?_
     refine aw_cond (lr _) (fun c9 => ?_) (fun c9 => ?_)
     ·
      have c9' := c9
      try simp only [qq] at c9'
      refine aw_seq (aw_region ?_)
      refine asr (lr _) rfl ?_
      refine sq_nil (aw_ret ?_)
      exact retQ_pure (v := .raw _) rfl rfl (Less.eq (by rw [isCh, okAll_bad (i := k) (by omega) (by first | (simp [chBad, *]; done) | (simp_all [chBad]; done))]))
     ·
      have c9' := c9
      try simp only [qq] at c9'
      refine aw_skip (aw_region ?_)
      refine mvr (lr _) rfl ?_
      refine sq_ev rfl (ev_add (lr _) (lr _) (wr (by omega) (by omega))) ?_
      refine asr (lr _) rfl ?_
      refine sq_nil ?_
      have hgood : chBad p l k (by omega) = false := by first | (simp [chBad, *]; done) | (simp_all [chBad]; done)
      exact ⟨⟨k + 1, by omega, fun i h hi => (by by_cases e : i = k; (subst e; exact hgood); exact hok i h (by omega))⟩, by simp only; omega, Sub.fin 1 ⟨lr _, lr _, lr _, trivial⟩ rfl (by simp [slotsIn, objsIn, sget, keepS, AObj.inB, AV.inB, AV.inL, AV.inE, inE_map]) (by simp [slotsIn, objsIn, sget, keepS, AObj.inB, AV.inB, AV.inL, AV.inE, inE_map]) (by simp [he0])⟩
    ·
     have g8' := g8
     try simp only [qq] at g8'
     refine sq_no rfl rfl (less_b g8) rfl rfl ?_
     refine sq_no rfl rfl (less_b g8) rfl rfl ?_
     refine sq_no rfl rfl (less_b g8) rfl rfl ?_
     refine sq_no rfl rfl (less_b g8) rfl rfl ?_
     refine sq_no rfl rfl (less_b g8) rfl rfl ?_
     refine sq_yes rfl rfl (lr _) rfl (ev_pickF (v := .raw _) (less_b g8) (lr _)) ?_
     refine sq_ev rfl (ev_pickF (v := .raw _) (lr _) (lr _)) ?_
     refine sq_nil ?_
     refine aw_false (lr _) ?_
     refine aw_skip (aw_region ?_)
     refine mvr (lr _) rfl ?_
     refine sq_ev rfl (ev_add (lr _) (lr _) (wr (by omega) (by omega))) ?_
     refine asr (lr _) rfl ?_
     refine sq_nil ?_
     have hgood : chBad p l k (by omega) = false := by first | (simp [chBad, *]; done) | (simp_all [chBad]; done)
     exact ⟨⟨k + 1, by omega, fun i h hi => (by by_cases e : i = k; (subst e; exact hgood); exact hok i h (by omega))⟩, by simp only; omega, Sub.fin 1 ⟨lr _, lr _, lr _, trivial⟩ rfl (by simp [slotsIn, objsIn, sget, keepS, AObj.inB, AV.inB, AV.inL, AV.inE, inE_map]) (by simp [slotsIn, objsIn, sget, keepS, AObj.inB, AV.inB, AV.inL, AV.inE, inE_map]) (by simp [he0])⟩
   ·
    have g7' := g7
    try simp only [qq] at g7'
    refine sq_no rfl rfl (less_b g7) rfl rfl ?_
    refine sq_no rfl rfl (less_b g7) rfl rfl ?_
    refine sq_no rfl rfl (less_b g7) rfl rfl ?_
    refine sq_yes rfl rfl (lr _) rfl (ev_pickF (v := .raw _) (less_b g7) (lr _)) ?_
    refine sq_yes rfl rfl (lr _) rfl (ev_mv (v := .raw _) (lr _)) ?_
    refine sq_no rfl rfl (lr _) rfl rfl ?_
    refine sq_no rfl rfl (lr _) rfl rfl ?_
    refine sq_no rfl rfl (lr _) rfl rfl ?_
    refine sq_no rfl rfl (lr _) rfl rfl ?_
    refine sq_no rfl rfl (lr _) rfl rfl ?_
    refine sq_yes rfl rfl (lr _) rfl (ev_pickF (v := .raw _) (lr _) (lr _)) ?_
    refine sq_ev rfl (ev_pickF (v := .raw _) (lr _) (lr _)) ?_
    refine sq_nil ?_
    refine aw_false (lr _) ?_
    refine aw_skip (aw_region ?_)
    refine mvr (lr _) rfl ?_
    refine sq_ev rfl (ev_add (lr _) (lr _) (wr (by omega) (by omega))) ?_
    refine asr (lr _) rfl ?_
    refine sq_nil ?_
    have hgood : chBad p l k (by omega) = false := by first | (simp [chBad, *]; done) | (simp_all [chBad]; done)
    exact ⟨⟨k + 1, by omega, fun i h hi => (by by_cases e : i = k; (subst e; exact hgood); exact hok i h (by omega))⟩, by simp only; omega, Sub.fin 1 ⟨lr _, lr _, lr _, trivial⟩ rfl (by simp [slotsIn, objsIn, sget, keepS, AObj.inB, AV.inB, AV.inL, AV.inE, inE_map]) (by simp [slotsIn, objsIn, sget, keepS, AObj.inB, AV.inB, AV.inL, AV.inE, inE_map]) (by simp [he0])⟩
 ·
  have c1' := c1
  try simp only [qq] at c1'
  refine aw_exit (aw_seq (aw_region ?_))
  refine asr (lr _) rfl ?_
  refine sq_nil (aw_ret ?_)
  exact retQ_pure (v := .raw _) rfl rfl (Less.eq (by rw [isCh, okAll_end hk c1' hok]))


end Go.Proofs.YtjghdbdiejaacaaGreatDoor

namespace Go.Proofs.YtjghdbdiejaacaaGreatDoor
open Go Go.Ab Ni
/-- how long the whole parts last, when k of them are told -/
abbrev wpart (p : Pl) (l : List Nat) (k : Nat) : List AV :=
  [I (if 0 < k then lo p l 0 0 10 else 0), I (if 0 < k then hi p l 0 0 10 else 0), I (if 1 < k then lo p l 1 0 10 else 0), I (if 1 < k then hi p l 1 0 10 else 0), I (if 2 < k then lo p l 2 0 10 else 0), I (if 2 < k then hi p l 2 0 10 else 0)]
abbrev wcells (p : Pl) (l : List Nat) : List AV := [I (lo p l 0 0 10), I (hi p l 0 0 10), I (lo p l 1 0 10), I (hi p l 1 0 10), I (lo p l 2 0 10), I (hi p l 2 0 10)]
theorem en104 : Ent Tryz.prog 104 := Ent.of Tryz.func104 (by kernel_rfl) rfl
set_option maxHeartbeats 1000000 in
/-- kelir/kelirref03.long -/
theorem long_pure (p : Pl) (l : List Nat) (part a b : Int) (gp : GP p) (cv : CV p l) : APure Tryz.prog 104 [plan p, nats l, I part, I a, I b] (.agg (spanC (lo p l part a b) (hi p l part a b))) := by
 refine apure_of (rs := [.cell 10 23]) Tryz.func104 rfl rfl (Nat.le_of_ble_eq_true rfl) (by simp [AV.pureL, AV.pureB, AV.pureE, pureE_map]) (rfl) fun e0 he0 => ?_
 refine aw_seq (aw_region ?_)
 refine sq_box rfl (lr _) rfl ?_
 refine sq_alloc rfl z23 ?_
 refine sq_nil (aw_seq (aw_region ?_))
 refine sq_alloc rfl z23 ?_
 refine sq_nil (aw_seq (aw_seq (aw_region ?_)))
 refine asr (lr _) rfl ?_
 refine sq_nil (aw_block ?_)
 refine aw_loopk (ι := { k : Nat // k ≤ l.length }) [1, 2, 3, 4, 5, 10, 11] (fun i => [(12, I i.1)]) (fun H i => H.set 2 (.cells (spanC (lo p (l.take i.1) part a b) (hi p (l.take i.1) part a b)))) (fun i => l.length - i.1) (⟨0, Nat.zero_le _⟩) ⟨lr _, lr _, lr _, lr _, lr _, lr _, lr _, lr _, trivial⟩ rfl ?_
 rintro ⟨k, hk⟩
 dsimp only [keepS, St.put, sget, slotsOf, List.map_cons, List.map_nil, List.cons_append, List.nil_append, List.length_cons, List.length_nil, Nat.reduceBEq, Nat.reduceAdd, cond_true, cond_false]
 have hl1 := cv.len
 have hl2 := gp.len
 have hb1 := lo_bd gp cv part a b k
 have hb2 := hi_bd gp cv part a b k
 refine aw_seq (aw_seq (aw_region ?_))
 refine mvr (lr _) rfl ?_
 refine sq_ev rfl (ev_mv (v := .sl _ _) (lr _)) ?_
 refine sq_ev rfl (ev_len_map sl34 (lr _)) ?_
 refine sq_ev rfl (ev_lss (lr _) (lr _)) ?_
 refine sq_nil ?_
 refine aw_cond (lr _) (fun c1 => ?_) (fun c1 => ?_)
 ·
  have c1' := c1
  try simp only [qq] at c1'
  have hk' : k < l.length := by omega
  have hlt := cv.rng _ (List.getElem_mem hk')
  have hv1 := gp.least hlt
  have hv2 := gp.most hlt
  rw [scn_eq hlt] at hv1 hv2
  have he := scn_eq hlt
  refine aw_skip (aw_seq (aw_block (aw_seq ?_)))
  refine aw_draw 9 mo (by kernel_rfl) ?_
  refine dr_ev rfl (ev_fieldAddr fo27_3 (lr _)) ?_
  refine dr_ev rfl (ev_load (lr _) rfl ty25 rfl) ?_
  refine dr_ev rfl (ev_mv (v := .sl _ _) (lr _)) ?_
  refine dr_ev rfl (ev_mv (v := .raw _) (lr _)) ?_
  refine dr_ev rfl (ev_index_map sl34 (lr _) (lr _) rfl (by omega)) ?_
  refine dr_ev rfl (ev_load_i (lr _) ty3 rfl) ?_
  refine dr_ev rfl (ev_index_map sl25 (lr _) (lr _) rfl (by omega)) ?_
  refine dr_ev rfl (ev_load_agg_i (lr _) ty84 (Nat.le_of_ble_eq_true rfl)) ?_
  refine dr_alloc rfl z84 ?_
  refine dr_end ?_
  refine sq_store rfl (lr _) (lr _) rfl rfl ty84 rfl rfl ?_
  refine sq_nil (aw_seq (aw_region ?_))
  refine sq_ev rfl (ev_fieldAddr fo84_0 (lr _)) ?_
  refine sq_ev rfl (ev_load (lr _) rfl ty3 rfl) ?_
  refine mvr (lr _) rfl ?_
  refine sq_ev rfl (ev_eql (lr _) (lr _)) ?_
  refine mvr (lr _) rfl ?_
  refine sq_split 32 (lr _) (fun g2 => ?_) (fun g2 => ?_)
  ·
   have g2' := g2
   try simp only [qq] at g2'
   refine sq_yes rfl rfl (less_b g2) rfl (ev_mv (v := .sl _ _) (lr _)) ?_
   refine sq_yes rfl rfl (less_b g2) rfl (ev_mv (v := .raw _) (lr _)) ?_
   refine sq_yes rfl rfl (less_b g2) rfl (ev_index_map sl34 (lr _) (lr _) rfl (by omega)) ?_
   refine sq_yes rfl rfl (less_b g2) rfl (ev_load_i (lr _) ty3 rfl) ?_
   refine sq_yes rfl rfl (less_b g2) rfl (ev_mv (v := .raw _) (lr _)) ?_
   refine sq_yes rfl rfl (less_b g2) rfl (ev_geq (lr _) (lr _)) ?_
   refine sq_ev rfl (ev_pickT (v := .raw _) (less_b g2) (lr _)) ?_
   refine mvr (lr _) rfl ?_
   refine sq_split 40 (lr _) (fun g3 => ?_) (fun g3 => ?_)
   ·
    have g3' := g3
    try simp only [qq] at g3'
    refine sq_yes rfl rfl (less_b g3) rfl (ev_mv (v := .sl _ _) (lr _)) ?_
    refine sq_yes rfl rfl (less_b g3) rfl (ev_mv (v := .raw _) (lr _)) ?_
    refine sq_yes rfl rfl (less_b g3) rfl (ev_index_map sl34 (lr _) (lr _) rfl (by omega)) ?_
    refine sq_yes rfl rfl (less_b g3) rfl (ev_load_i (lr _) ty3 rfl) ?_
    refine sq_yes rfl rfl (less_b g3) rfl (ev_mv (v := .raw _) (lr _)) ?_
    refine sq_yes rfl rfl (less_b g3) rfl (ev_leq (lr _) (lr _)) ?_
    refine sq_ev rfl (ev_pickT (v := .raw _) (less_b g3) (lr _)) ?_
    refine sq_nil ?_
    refine aw_cond (lr _) (fun c4 => ?_) (fun c4 => ?_)
    ·
     have c4' := c4
     try simp only [qq] at c4'
     refine aw_region ?_
     refine sq_ev rfl (ev_fieldAddr fo23_0 (lr _)) ?_
     refine sq_ev rfl (ev_load (lr _) rfl ty3 rfl) ?_
     refine sq_ev rfl (ev_fieldAddr fo84_1 (lr _)) ?_
     refine sq_ev rfl (ev_load (lr _) rfl ty3 rfl) ?_
     refine sq_ev rfl (ev_add (lr _) (lr _) (wr (by omega) (by omega))) ?_
     refine sq_ev rfl (ev_fieldAddr fo23_1 (lr _)) ?_
     refine sq_ev rfl (ev_load (lr _) rfl ty3 rfl) ?_
     refine sq_ev rfl (ev_fieldAddr fo84_2 (lr _)) ?_
     refine sq_ev rfl (ev_load (lr _) rfl ty3 rfl) ?_
     refine sq_ev rfl (ev_add (lr _) (lr _) (wr (by omega) (by omega))) ?_
     refine sq_ev rfl (ev_build bi23 rfl) ?_
     refine sq_store rfl (lr _) (lr _) rfl rfl ty23 rfl rfl ?_
     refine sq_nil (aw_region ?_)
     refine mvr (lr _) rfl ?_
     refine sq_ev rfl (ev_add (lr _) (lr _) (wr (by omega) (by omega))) ?_
     refine asr (lr _) rfl ?_
     refine sq_nil ?_
     exact ⟨⟨k + 1, by omega⟩, by simp only; omega, Sub.fin 3 ⟨lr _, lr _, lr _, lr _, lr _, lr _, lr _, lr _, trivial⟩ (by have e1 := lo_take (p := p) hk' part a b; have e2 := hi_take (p := p) hk' part a b; simp [inP, *] at e1 e2; rw [e1, e2]; rfl) (by simp [slotsIn, objsIn, sget, keepS, AObj.inB, AV.inB, AV.inL, AV.inE, inE_map]) (by simp [slotsIn, objsIn, sget, keepS, AObj.inB, AV.inB, AV.inL, AV.inE, inE_map]) (by simp [he0])⟩
    ·
     have c4' := c4
     try simp only [qq] at c4'
     refine aw_skip (aw_region ?_)
     refine mvr (lr _) rfl ?_
     refine sq_ev rfl (ev_add (lr _) (lr _) (wr (by omega) (by omega))) ?_
     refine asr (lr _) rfl ?_
     refine sq_nil ?_
     exact ⟨⟨k + 1, by omega⟩, by simp only; omega, Sub.fin 3 ⟨lr _, lr _, lr _, lr _, lr _, lr _, lr _, lr _, trivial⟩ (by have e1 := lo_take (p := p) hk' part a b; have e2 := hi_take (p := p) hk' part a b; simp [inP, *] at e1 e2; rw [e1, e2]; rfl) (by simp [slotsIn, objsIn, sget, keepS, AObj.inB, AV.inB, AV.inL, AV.inE, inE_map]) (by simp [slotsIn, objsIn, sget, keepS, AObj.inB, AV.inB, AV.inL, AV.inE, inE_map]) (by simp [he0])⟩
   ·
    have g3' := g3
    try simp only [qq] at g3'
    refine sq_no rfl rfl (less_b g3) rfl rfl ?_
    refine sq_no rfl rfl (less_b g3) rfl rfl ?_
    refine sq_no rfl rfl (less_b g3) rfl rfl ?_
    refine sq_no rfl rfl (less_b g3) rfl rfl ?_
    refine sq_no rfl rfl (less_b g3) rfl rfl ?_
    refine sq_no rfl rfl (less_b g3) rfl rfl ?_
    refine sq_ev rfl (ev_pickF (v := .raw _) (less_b g3) (lr _)) ?_
    refine sq_nil ?_
    refine aw_false (lr _) ?_
    refine aw_skip (aw_region ?_)
    refine mvr (lr _) rfl ?_
    refine sq_ev rfl (ev_add (lr _) (lr _) (wr (by omega) (by omega))) ?_
    refine asr (lr _) rfl ?_
    refine sq_nil ?_
    exact ⟨⟨k + 1, by omega⟩, by simp only; omega, Sub.fin 3 ⟨lr _, lr _, lr _, lr _, lr _, lr _, lr _, lr _, trivial⟩ (by have e1 := lo_take (p := p) hk' part a b; have e2 := hi_take (p := p) hk' part a b; simp [inP, *] at e1 e2; rw [e1, e2]; rfl) (by simp [slotsIn, objsIn, sget, keepS, AObj.inB, AV.inB, AV.inL, AV.inE, inE_map]) (by simp [slotsIn, objsIn, sget, keepS, AObj.inB, AV.inB, AV.inL, AV.inE, inE_map]) (by simp [he0])⟩
  ·
   have g2' := g2
   try simp only [qq] at g2'
   refine sq_no rfl rfl (less_b g2) rfl rfl ?_
   refine sq_no rfl rfl (less_b g2) rfl rfl ?_
   refine sq_no rfl rfl (less_b g2) rfl rfl ?_
   refine sq_no rfl rfl (less_b g2) rfl rfl ?_
   refine sq_no rfl rfl (less_b g2) rfl rfl ?_
   refine sq_no rfl rfl (less_b g2) rfl rfl ?_
   refine sq_ev rfl (ev_pickF (v := .raw _) (less_b g2) (lr _)) ?_
   refine mvr (lr _) rfl ?_
   refine sq_no rfl rfl (lr _) rfl rfl ?_
   refine sq_no rfl rfl (lr _) rfl rfl ?_
   refine sq_no rfl rfl (lr _) rfl rfl ?_
   refine sq_no rfl rfl (lr _) rfl rfl ?_
   refine sq_no rfl rfl (lr _) rfl rfl ?_
   refine sq_no rfl rfl (lr _) rfl rfl ?_
   refine sq_ev rfl (ev_pickF (v := .raw _) (lr _) (lr _)) ?_
   refine sq_nil ?_
   refine aw_false (lr _) ?_
   refine aw_skip (aw_region ?_)
   refine mvr (lr _) rfl ?_
   refine sq_ev rfl (ev_add (lr _) (lr _) (wr (by omega) (by omega))) ?_
   refine asr (lr _) rfl ?_
   refine sq_nil ?_
   exact ⟨⟨k + 1, by omega⟩, by simp only; omega, Sub.fin 3 ⟨lr _, lr _, lr _, lr _, lr _, lr _, lr _, lr _, trivial⟩ (by have e1 := lo_take (p := p) hk' part a b; have e2 := hi_take (p := p) hk' part a b; simp [inP, *] at e1 e2; rw [e1, e2]; rfl) (by simp [slotsIn, objsIn, sget, keepS, AObj.inB, AV.inB, AV.inL, AV.inE, inE_map]) (by simp [slotsIn, objsIn, sget, keepS, AObj.inB, AV.inB, AV.inL, AV.inE, inE_map]) (by simp [he0])⟩
 ·
  have c1' := c1
  try simp only [qq] at c1'
  obtain rfl : k = l.length := by omega
  refine aw_exit (aw_seq (aw_region ?_))
  refine sq_ev rfl (ev_load_agg (lr _) rfl ty23 rfl) ?_
  refine sq_store rfl (lr _) (lr _) rfl rfl ty23 rfl rfl ?_
  refine sq_nil (aw_ret ?_)
  exact retQ_res (vs := [.agg _]) rfl rfl ⟨resVar_cell rfl rfl ty23 rfl, trivial⟩ (Less.eq (by simp [lo, hi]))

set_option maxHeartbeats 400000 in
/-- kelir/kelirref03.within -/
theorem within_pure (n a b : Int) : APure Tryz.prog 111 [I n, .agg [I a, I b]] (B (inn n a b)) := by
 refine apure_of (rs := [.tmp 4]) Tryz.func111 rfl rfl (Nat.le_of_ble_eq_true rfl) (by simp [AV.pureL, AV.pureB, AV.pureE, pureE_map]) (rfl) fun e0 he0 => ?_
 refine aw_seq (aw_region ?_)
 refine sq_box rfl (lr _) rfl ?_
 refine asr (lr _) rfl ?_
 refine sq_nil (aw_seq (aw_region ?_))
 refine mvr (lr _) rfl ?_
 refine sq_ev rfl (ev_fieldAddr fo23_0 (lr _)) ?_
 refine sq_ev rfl (ev_load (lr _) rfl ty3 rfl) ?_
 refine sq_ev rfl (ev_fieldAddr fo23_1 (lr _)) ?_
 refine sq_ev rfl (ev_load (lr _) rfl ty3 rfl) ?_
 refine sq_ev rfl (ev_call en89 (lr _) (in_pure _ _ _) ⟨lr _, lr _, lr _, trivial⟩) ?_
 refine asr (lr _) rfl ?_
 refine sq_nil (aw_ret ?_)
 exact retQ_pure (v := .raw _) rfl rfl (Less.eq (by simp))

set_option maxHeartbeats 400000 in
/-- kelir/kelirref03.whole -/
theorem whole_pure (p : Pl) (l : List Nat) (gp : GP p) (cv : CV p l) : APure Tryz.prog 110 [plan p, nats l] (.agg (wcells p l)) := by
 refine apure_of (rs := [.cell 4 120]) Tryz.func110 rfl rfl (Nat.le_of_ble_eq_true rfl) (by simp [AV.pureL, AV.pureB, AV.pureE, pureE_map]) (rfl) fun e0 he0 => ?_
 refine aw_seq (aw_region ?_)
 refine sq_box rfl (lr _) rfl ?_
 refine sq_alloc rfl z120 ?_
 refine sq_nil (aw_seq (aw_region ?_))
 refine sq_alloc rfl z120 ?_
 refine sq_nil (aw_seq (aw_seq (aw_region ?_)))
 refine asr (lr _) rfl ?_
 refine sq_nil (aw_block ?_)
 refine aw_loopk (ι := { k : Nat // k ≤ 3 }) [1, 2, 4, 5] (fun i => [(6, I i.1)]) (fun H i => H.set 2 (.cells (wpart p l i.1))) (fun i => 3 - i.1) (⟨0, by omega⟩) ⟨lr _, lr _, lr _, lr _, lr _, trivial⟩ rfl ?_
 rintro ⟨k, hk⟩
 dsimp only [keepS, St.put, sget, slotsOf, List.map_cons, List.map_nil, List.cons_append, List.nil_append, List.length_cons, List.length_nil, Nat.reduceBEq, Nat.reduceAdd, cond_true, cond_false]
 refine aw_seq (aw_seq (aw_region ?_))
 refine mvr (lr _) rfl ?_
 refine sq_ev rfl (ev_lss (lr _) (lr _)) ?_
 refine sq_nil ?_
 refine aw_cond (lr _) (fun c1 => ?_) (fun c1 => ?_)
 ·
  have c1' := c1
  try simp only [qq] at c1'
  refine aw_skip (aw_seq (aw_block (aw_region ?_)))
  refine mvr (lr _) rfl ?_
  refine sq_ev rfl (ev_load_agg (lr _) rfl ty27 rfl) ?_
  refine sq_ev rfl (ev_mv (v := .sl _ _) (lr _)) ?_
  refine mvr (lr _) rfl ?_
  refine sq_ev rfl (ev_call en104 (lr _) (long_pure _ _ _ _ _ gp cv) ⟨lr _, lr _, lr _, lr _, lr _, trivial⟩) ?_
  refine sq_ev rfl (ev_index_box ar120 (lr _) (lr _) rfl (by omega)) ?_
  refine sq_store rfl (lr _) (lr _) rfl rfl ty23 rfl (by rcases k with _ | _ | _ | k <;> first | rfl | omega) ?_
  refine sq_nil (aw_region ?_)
  refine mvr (lr _) rfl ?_
  refine sq_ev rfl (ev_add (lr _) (lr _) (wr (by omega) (by omega))) ?_
  refine asr (lr _) rfl ?_
  refine sq_nil ?_
  exact ⟨⟨k + 1, by omega⟩, by simp only; omega, Sub.fin 3 ⟨lr _, lr _, lr _, lr _, lr _, trivial⟩ (by rcases k with _ | _ | _ | k <;> first | rfl | omega) (by simp [slotsIn, objsIn, sget, keepS, AObj.inB, AV.inB, AV.inL, AV.inE, inE_map]) (by simp [slotsIn, objsIn, sget, keepS, AObj.inB, AV.inB, AV.inL, AV.inE, inE_map]) (by simp [he0])⟩
 ·
  have c1' := c1
  try simp only [qq] at c1'
  obtain rfl : k = 3 := by omega
  refine aw_exit (aw_seq (aw_region ?_))
  refine sq_ev rfl (ev_load_agg (lr _) rfl ty120 rfl) ?_
  refine sq_store rfl (lr _) (lr _) rfl rfl ty120 rfl rfl ?_
  refine sq_nil (aw_ret ?_)
  exact retQ_res (vs := [.agg _]) rfl rfl ⟨resVar_cell rfl rfl ty120 rfl, trivial⟩ (Less.eq (by simp))


end Go.Proofs.YtjghdbdiejaacaaGreatDoor

namespace Go.Proofs.YtjghdbdiejaacaaGreatDoor
open Go Go.Ab Ni
abbrev hourC (h : Int × Int × Int) : List AV := [I h.1, I h.2.1, I h.2.2]
theorem inE_hour (n : Nat) (l : List (Int × Int × Int)) : AV.inE n (l.map hourC) = true := inE_map fun x _ => by simp [AV.inL, AV.inB]
abbrev hourS (l : List (Int × Int × Int)) : AV := .sl 3 (l.map hourC)
theorem bi125 : bldInfo Tryz.prog 125 = some ([.raw (.int .i64 0), .raw (.int .i64 0), .raw (.int .i64 0)], false, [], 1) := by kernel_rfl
theorem en102 : Ent Tryz.prog 102 := Ent.of Tryz.func102 (by kernel_rfl) rfl
theorem en110 : Ent Tryz.prog 110 := Ent.of Tryz.func110 (by kernel_rfl) rfl
theorem en111 : Ent Tryz.prog 111 := Ent.of Tryz.func111 (by kernel_rfl) rfl
theorem sf122 : SlFact Tryz.prog 122 125 3 24 := SlFact.of (by kernel_rfl)
theorem sl122 : slElem Tryz.prog 122 = some (125, 3) := by kernel_rfl

set_option maxHeartbeats 4000000 in
/-- kelir/kelirref03.hours -/
theorem hours_pure (p : Pl) (l : List Nat) (gp : GP p) (cv : CV p l) : APure Tryz.prog 102 [plan p, nats l] (hourS (hrs p l)) := by
 refine apure_of (rs := [.tmp 4]) Tryz.func102 rfl rfl (Nat.le_of_ble_eq_true rfl) (by simp [AV.pureL, AV.pureB, AV.pureE, pureE_map]) (by simp [AV.pureL, AV.pureB, AV.pureE, pureE_map]) fun e0 he0 => ?_
 refine aw_seq (aw_region ?_)
 refine sq_box rfl (lr _) rfl ?_
 refine asr (lr _) rfl ?_
 refine sq_nil (aw_seq (aw_region ?_))
 refine sq_ev rfl (ev_load_agg (lr _) rfl ty27 rfl) ?_
 refine sq_ev rfl (ev_mv (v := .sl _ _) (lr _)) ?_
 refine sq_ev rfl (ev_call en110 (lr _) (whole_pure _ _ gp cv) ⟨lr _, lr _, trivial⟩) ?_
 refine sq_alloc rfl z120 ?_
 refine sq_store rfl (lr _) (lr _) rfl rfl ty120 rfl rfl ?_
 refine sq_nil (aw_seq (aw_region ?_))
 refine asr (lr _) rfl ?_
 refine sq_nil (aw_seq (aw_seq (aw_region ?_)))
 refine sq_ev rfl (ev_fieldAddr fo27_1 (lr _)) ?_
 refine sq_ev rfl (ev_index_box ar24 (lr _) (lr _) rfl (by decide)) ?_
 refine sq_ev rfl (ev_fieldAddr fo23_0 (lr _)) ?_
 refine sq_ev rfl (ev_load (lr _) rfl ty3 rfl) ?_
 refine asr (lr _) rfl ?_
 refine sq_nil (aw_block ?_)
 refine aw_sub (sub_token 6 3 (lr _)) ?_
 refine aw_loopk (ι := { i : Nat // i ≤ wid p.s0l p.s0h }) [2, 5] (fun i => [(7, I (p.s0l + i.1)), (6, .own 2 3 ((fm i.1 (hA p l)).map hourC))]) (fun H i => H.set 2 (.tok ((fm i.1 (hA p l)).map hourC).length)) (fun i => wid p.s0l p.s0h - i.1) (⟨0, Nat.zero_le _⟩) ⟨(by exact less_int (by simp)), lr _, lr _, lr _, trivial⟩ rfl ?_
 rintro ⟨i, i1⟩
 dsimp only [keepS, St.put, sget, slotsOf, List.map_cons, List.map_nil, List.cons_append, List.nil_append, List.length_cons, List.length_nil, Nat.reduceBEq, Nat.reduceAdd, cond_true, cond_false]
 have g1 := gp.beg
 have g2 := gp.s0l
 have g3 := gp.s0h
 have g4 := gp.s1l
 have g5 := gp.s1h
 have g6 := gp.dl
 have g7 := gp.dh
 have q1 := hAs_len gp l i1
 have w1 : wid p.s0l p.s0h = (p.s0h - p.s0l + 1).toNat := rfl
 have w2 : wid p.s1l p.s1h = (p.s1h - p.s1l + 1).toNat := rfl
 have w3 : wid p.dl p.dh = (p.dh - p.dl + 1).toNat := rfl
 refine aw_seq (aw_seq (aw_region ?_))
 refine mvr (lr _) rfl ?_
 refine sq_ev rfl (ev_fieldAddr fo27_1 (lr _)) ?_
 refine sq_ev rfl (ev_index_box ar24 (lr _) (lr _) rfl (by decide)) ?_
 refine sq_ev rfl (ev_fieldAddr fo23_1 (lr _)) ?_
 refine sq_ev rfl (ev_load (lr _) rfl ty3 rfl) ?_
 refine sq_ev rfl (ev_leq (lr _) (lr _)) ?_
 refine sq_nil ?_
 refine aw_cond (lr _) (fun c1 => ?_) (fun c1 => ?_)
 ·
  have c1' := c1
  try simp only [qq] at c1'
  refine aw_skip (aw_seq (aw_block (aw_seq (aw_region ?_))))
  refine sq_ev rfl (ev_fieldAddr fo27_1 (lr _)) ?_
  refine sq_ev rfl (ev_index_box ar24 (lr _) (lr _) rfl (by decide)) ?_
  refine sq_ev rfl (ev_fieldAddr fo23_0 (lr _)) ?_
  refine sq_ev rfl (ev_load (lr _) rfl ty3 rfl) ?_
  refine asr (lr _) rfl ?_
  refine sq_nil (aw_block ?_)
  refine aw_loopk (ι := { j : Nat // j ≤ wid p.s1l p.s1h ∧ (0 < j → inn (p.s0l + i - p.beg) (lo p l 0 0 10) (hi p l 0 0 10) = true) }) [2, 5, 7] (fun j => [(8, I (p.s1l + j.1)), (6, .own 2 3 ((fm i (hA p l) ++ fm j.1 (hB p l (p.s0l + i))).map hourC))]) (fun H j => H.set 2 (.tok (((fm i (hA p l) ++ fm j.1 (hB p l (p.s0l + i)))).map hourC).length)) (fun j => wid p.s1l p.s1h - j.1) (⟨0, Nat.zero_le _, by omega⟩) ⟨(by exact less_int (by simp)), (by exact Less.eq (a := .own 2 3 ((fm i (hA p l)).map hourC)) (by simp [fm_zero])), lr _, lr _, lr _, trivial⟩ (by rw [fm_zero, List.append_nil]; rfl) ?_
  rintro ⟨j, j1, hj0⟩
  dsimp only [keepS, St.put, sget, slotsOf, List.map_cons, List.map_nil, List.cons_append, List.nil_append, List.length_cons, List.length_nil, Nat.reduceBEq, Nat.reduceAdd, cond_true, cond_false]
  have q2 := hBs_len gp l (p.s0l + i) j1
  refine aw_seq (aw_seq (aw_region ?_))
  refine mvr (lr _) rfl ?_
  refine sq_ev rfl (ev_fieldAddr fo27_1 (lr _)) ?_
  refine sq_ev rfl (ev_index_box ar24 (lr _) (lr _) rfl (by decide)) ?_
  refine sq_ev rfl (ev_fieldAddr fo23_1 (lr _)) ?_
  refine sq_ev rfl (ev_load (lr _) rfl ty3 rfl) ?_
  refine sq_ev rfl (ev_leq (lr _) (lr _)) ?_
  refine mvr (lr _) rfl ?_
  refine sq_split 35 (lr _) (fun g2 => ?_) (fun g2 => ?_)
  ·
   have g2' := g2
   try simp only [qq] at g2'
   refine sq_yes rfl rfl (less_b g2) rfl (ev_mv (v := .raw _) (lr _)) ?_
   refine sq_yes rfl rfl (less_b g2) rfl (ev_fieldAddr fo27_0 (lr _)) ?_
   refine sq_yes rfl rfl (less_b g2) rfl (ev_load (lr _) rfl ty3 rfl) ?_
   refine sq_yes rfl rfl (less_b g2) rfl (ev_sub (lr _) (lr _) (wr (by omega) (by omega))) ?_
   refine sq_yes rfl rfl (less_b g2) rfl (ev_index_box ar120 (lr _) (lr _) rfl (by decide)) ?_
   refine sq_yes rfl rfl (less_b g2) rfl (ev_load_agg (lr _) rfl ty23 rfl) ?_
   refine sq_yes rfl rfl (less_b g2) rfl (ev_call en111 (lr _) (within_pure _ _ _) ⟨lr _, lr _, trivial⟩) ?_
   refine sq_ev rfl (ev_pickT (v := .raw _) (less_b g2) (lr _)) ?_
   refine sq_nil ?_
   refine aw_cond (lr _) (fun c3 => ?_) (fun c3 => ?_)
   ·
    have c3' := c3
    try simp only [qq] at c3'
    refine aw_skip (aw_seq (aw_block (aw_seq (aw_region ?_))))
    refine sq_ev rfl (ev_fieldAddr fo27_2 (lr _)) ?_
    refine sq_ev rfl (ev_fieldAddr fo23_0 (lr _)) ?_
    refine sq_ev rfl (ev_load (lr _) rfl ty3 rfl) ?_
    refine asr (lr _) rfl ?_
    refine sq_nil (aw_block ?_)
    refine aw_loopk (ι := { k : Nat // k ≤ wid p.dl p.dh ∧ (0 < k → inn (p.s1l + j - (p.s0l + i)) (lo p l 1 0 10) (hi p l 1 0 10) = true) }) [2, 5, 7, 8] (fun k => [(9, I (p.dl + k.1)), (6, .own 2 3 ((fm i (hA p l) ++ fm j (hB p l (p.s0l + i)) ++ fm k.1 (hC p l (p.s0l + i) (p.s1l + j))).map hourC))]) (fun H k => H.set 2 (.tok (((fm i (hA p l) ++ fm j (hB p l (p.s0l + i)) ++ fm k.1 (hC p l (p.s0l + i) (p.s1l + j)))).map hourC).length)) (fun k => wid p.dl p.dh - k.1) (⟨0, Nat.zero_le _, by omega⟩) ⟨(by exact less_int (by simp)), (by exact Less.eq (a := .own 2 3 ((fm i (hA p l) ++ fm j (hB p l (p.s0l + i))).map hourC)) (by simp [fm_zero])), lr _, lr _, lr _, lr _, trivial⟩ (by rw [fm_zero, List.append_nil]; rfl) ?_
    rintro ⟨k, k1, hk0⟩
    dsimp only [keepS, St.put, sget, slotsOf, List.map_cons, List.map_nil, List.cons_append, List.nil_append, List.length_cons, List.length_nil, Nat.reduceBEq, Nat.reduceAdd, cond_true, cond_false]
    have q3 := hCs_len gp l (p.s0l + i) (p.s1l + j) k1
    refine aw_seq (aw_seq (aw_region ?_))
    refine mvr (lr _) rfl ?_
    refine sq_ev rfl (ev_fieldAddr fo27_2 (lr _)) ?_
    refine sq_ev rfl (ev_fieldAddr fo23_1 (lr _)) ?_
    refine sq_ev rfl (ev_load (lr _) rfl ty3 rfl) ?_
    refine sq_ev rfl (ev_leq (lr _) (lr _)) ?_
    refine mvr (lr _) rfl ?_
    refine sq_split 54 (lr _) (fun g4 => ?_) (fun g4 => ?_)
    ·
     have g4' := g4
     try simp only [qq] at g4'
     refine sq_yes rfl rfl (less_b g4) rfl (ev_mv (v := .raw _) (lr _)) ?_
     refine sq_yes rfl rfl (less_b g4) rfl (ev_mv (v := .raw _) (lr _)) ?_
     refine sq_yes rfl rfl (less_b g4) rfl (ev_sub (lr _) (lr _) (wr (by omega) (by omega))) ?_
     refine sq_yes rfl rfl (less_b g4) rfl (ev_index_box ar120 (lr _) (lr _) rfl (by decide)) ?_
     refine sq_yes rfl rfl (less_b g4) rfl (ev_load_agg (lr _) rfl ty23 rfl) ?_
     refine sq_yes rfl rfl (less_b g4) rfl (ev_call en111 (lr _) (within_pure _ _ _) ⟨lr _, lr _, trivial⟩) ?_
     refine sq_ev rfl (ev_pickT (v := .raw _) (less_b g4) (lr _)) ?_
     refine sq_nil ?_
     refine aw_cond (lr _) (fun c5 => ?_) (fun c5 => ?_)
     ·
      have c5' := c5
      try simp only [qq] at c5'
      refine aw_skip (aw_seq (aw_block (aw_seq (aw_region ?_))))
      refine mvr (lr _) rfl ?_
      refine mvr (lr _) rfl ?_
      refine sq_ev rfl (ev_sub (lr _) (lr _) (wr (by omega) (by omega))) ?_
      refine sq_ev rfl (ev_index_box ar120 (lr _) (lr _) rfl (by decide)) ?_
      refine sq_ev rfl (ev_load_agg (lr _) rfl ty23 rfl) ?_
      refine sq_ev rfl (ev_call en111 (lr _) (within_pure _ _ _) ⟨lr _, lr _, trivial⟩) ?_
      refine sq_nil ?_
      refine aw_cond (lr _) (fun c6 => ?_) (fun c6 => ?_)
      ·
       have c6' := c6
       try simp only [qq] at c6'
       have e3 : (fm i (hA p l) ++ fm j (hB p l (p.s0l + i)) ++ fm (k + 1) (hC p l (p.s0l + i) (p.s1l + j))).map hourC = (fm i (hA p l) ++ fm j (hB p l (p.s0l + i)) ++ fm k (hC p l (p.s0l + i) (p.s1l + j))).map hourC ++ [hourC (p.s0l + i, p.s1l + j, p.dl + k)] := by rw [fm_succ, hC, if_pos c6']; simp
       have e4 : ((fm i (hA p l) ++ fm j (hB p l (p.s0l + i)) ++ fm (k + 1) (hC p l (p.s0l + i) (p.s1l + j))).map hourC).length = ((fm i (hA p l) ++ fm j (hB p l (p.s0l + i)) ++ fm k (hC p l (p.s0l + i) (p.s1l + j))).map hourC ++ [hourC (p.s0l + i, p.s1l + j, p.dl + k)]).length := by rw [e3]
       refine aw_region ?_
       refine sq_ev rfl (ev_mv (v := .own _ _ _) (lr _)) ?_
       refine mvr (lr _) rfl ?_
       refine mvr (lr _) rfl ?_
       refine mvr (lr _) rfl ?_
       refine sq_ev rfl (ev_build bi125 rfl) ?_
       refine sq_ev rfl (ev_buildSlice (es := [[_, _, _]]) sf122 rfl rfl rfl rfl) ?_
       refine sq_append rfl sf122 Tryz.underlying122 rfl rfl (less_slx _ _) (Nat.succ_pos _) (by simp; omega) (by simp; omega) ?_
       refine sq_ev rfl (ev_as (v := .own _ _ _) (lr _)) ?_
       refine sq_nil (aw_region ?_)
       refine mvr (lr _) rfl ?_
       refine sq_ev rfl (ev_add (lr _) (lr _) (wr (by omega) (by omega))) ?_
       refine asr (lr _) rfl ?_
       refine sq_nil ?_
       exact ⟨⟨k + 1, by omega, fun _ => by assumption⟩, by simp only; omega, Sub.fin 3 ⟨less_int (by first | omega | (simp only; omega)), Less.eq (b := .own 2 3 ((fm i (hA p l) ++ fm j (hB p l (p.s0l + i)) ++ fm (k + 1) (hC p l (p.s0l + i) (p.s1l + j))).map hourC)) (by rw [e3]; rfl), lr _, lr _, lr _, lr _, trivial⟩ (congrArg (fun n => [_, _, AObj.tok n]) e4.symm) (by simp [slotsIn, objsIn, sget, keepS, AObj.inB, AV.inB, AV.inL, inE_hour, inE_map, -List.map_append]) (by simp [slotsIn, objsIn, sget, keepS, AObj.inB, AV.inB, AV.inL, inE_hour, inE_map, -List.map_append]) (by simp [he0])⟩
      ·
       have c6' := c6
       try simp only [qq] at c6'
       have e3 : (fm i (hA p l) ++ fm j (hB p l (p.s0l + i)) ++ fm (k + 1) (hC p l (p.s0l + i) (p.s1l + j))).map hourC = (fm i (hA p l) ++ fm j (hB p l (p.s0l + i)) ++ fm k (hC p l (p.s0l + i) (p.s1l + j))).map hourC := by rw [fm_succ, hC, if_neg (by simp [c6'])]; simp
       have e4 : ((fm i (hA p l) ++ fm j (hB p l (p.s0l + i)) ++ fm (k + 1) (hC p l (p.s0l + i) (p.s1l + j))).map hourC).length = ((fm i (hA p l) ++ fm j (hB p l (p.s0l + i)) ++ fm k (hC p l (p.s0l + i) (p.s1l + j))).map hourC).length := by rw [e3]
       refine aw_skip (aw_region ?_)
       refine mvr (lr _) rfl ?_
       refine sq_ev rfl (ev_add (lr _) (lr _) (wr (by omega) (by omega))) ?_
       refine asr (lr _) rfl ?_
       refine sq_nil ?_
       exact ⟨⟨k + 1, by omega, fun _ => by assumption⟩, by simp only; omega, Sub.fin 3 ⟨less_int (by first | omega | (simp only; omega)), Less.eq (b := .own 2 3 ((fm i (hA p l) ++ fm j (hB p l (p.s0l + i)) ++ fm (k + 1) (hC p l (p.s0l + i) (p.s1l + j))).map hourC)) (by rw [e3]; rfl), lr _, lr _, lr _, lr _, trivial⟩ (congrArg (fun n => [_, _, AObj.tok n]) e4.symm) (by simp [slotsIn, objsIn, sget, keepS, AObj.inB, AV.inB, AV.inL, inE_hour, inE_map, -List.map_append]) (by simp [slotsIn, objsIn, sget, keepS, AObj.inB, AV.inB, AV.inL, inE_hour, inE_map, -List.map_append]) (by simp [he0])⟩
     ·
      have c5' := c5
      try simp only [qq] at c5'
      refine aw_exit (aw_region ?_)
      refine mvr (lr _) rfl ?_
      refine sq_ev rfl (ev_add (lr _) (lr _) (wr (by omega) (by omega))) ?_
      refine asr (lr _) rfl ?_
      refine sq_nil ?_
      have e5 : fm i (hA p l) ++ fm (j + 1) (hB p l (p.s0l + i)) = fm i (hA p l) ++ fm j (hB p l (p.s0l + i)) ++ fm k (hC p l (p.s0l + i) (p.s1l + j)) := by rw [fm_succ, hB_eq hk0 (by first | (left; omega) | (right; assumption)), List.append_assoc]
      exact ⟨⟨j + 1, by omega, fun _ => by assumption⟩, by simp only; omega, Sub.fin 3 ⟨less_int (by first | omega | (simp only; omega)), Less.eq (b := .own 2 3 ((fm i (hA p l) ++ fm (j + 1) (hB p l (p.s0l + i))).map hourC)) (by rw [e5] <;> rfl), lr _, lr _, lr _, trivial⟩ (congrArg (fun n => [_, _, AObj.tok n]) (congrArg (fun L => (List.map hourC L).length) e5.symm)) (by simp [slotsIn, objsIn, sget, keepS, AObj.inB, AV.inB, AV.inL, inE_hour, inE_map, -List.map_append]) (by simp [slotsIn, objsIn, sget, keepS, AObj.inB, AV.inB, AV.inL, inE_hour, inE_map, -List.map_append]) (by simp [he0])⟩
    ·
     have g4' := g4
     try simp only [qq] at g4'
     refine sq_no rfl rfl (less_b g4) rfl rfl ?_
     refine sq_no rfl rfl (less_b g4) rfl rfl ?_
     refine sq_no rfl rfl (less_b g4) rfl rfl ?_
     refine sq_no rfl rfl (less_b g4) rfl rfl ?_
     refine sq_no rfl rfl (less_b g4) rfl rfl ?_
     refine sq_no rfl rfl (less_b g4) rfl rfl ?_
     refine sq_ev rfl (ev_pickF (v := .raw _) (less_b g4) (lr _)) ?_
     refine sq_nil ?_
     refine aw_false (lr _) ?_
     refine aw_exit (aw_region ?_)
     refine mvr (lr _) rfl ?_
     refine sq_ev rfl (ev_add (lr _) (lr _) (wr (by omega) (by omega))) ?_
     refine asr (lr _) rfl ?_
     refine sq_nil ?_
     have e5 : fm i (hA p l) ++ fm (j + 1) (hB p l (p.s0l + i)) = fm i (hA p l) ++ fm j (hB p l (p.s0l + i)) ++ fm k (hC p l (p.s0l + i) (p.s1l + j)) := by rw [fm_succ, hB_eq hk0 (by first | (left; omega) | (right; assumption)), List.append_assoc]
     exact ⟨⟨j + 1, by omega, fun _ => by assumption⟩, by simp only; omega, Sub.fin 3 ⟨less_int (by first | omega | (simp only; omega)), Less.eq (b := .own 2 3 ((fm i (hA p l) ++ fm (j + 1) (hB p l (p.s0l + i))).map hourC)) (by rw [e5] <;> rfl), lr _, lr _, lr _, trivial⟩ (congrArg (fun n => [_, _, AObj.tok n]) (congrArg (fun L => (List.map hourC L).length) e5.symm)) (by simp [slotsIn, objsIn, sget, keepS, AObj.inB, AV.inB, AV.inL, inE_hour, inE_map, -List.map_append]) (by simp [slotsIn, objsIn, sget, keepS, AObj.inB, AV.inB, AV.inL, inE_hour, inE_map, -List.map_append]) (by simp [he0])⟩
   ·
    have c3' := c3
    try simp only [qq] at c3'
    refine aw_exit (aw_region ?_)
    refine mvr (lr _) rfl ?_
    refine sq_ev rfl (ev_add (lr _) (lr _) (wr (by omega) (by omega))) ?_
    refine asr (lr _) rfl ?_
    refine sq_nil ?_
    have e6 : fm (i + 1) (hA p l) = fm i (hA p l) ++ fm j (hB p l (p.s0l + i)) := by rw [fm_succ, hA_eq hj0 (by first | (left; omega) | (right; assumption))]
    exact ⟨⟨i + 1, by omega⟩, by simp only; omega, Sub.fin 3 ⟨less_int (by first | omega | (simp only; omega)), Less.eq (b := .own 2 3 ((fm (i + 1) (hA p l)).map hourC)) (by rw [e6] <;> rfl), lr _, lr _, trivial⟩ (congrArg (fun n => [_, _, AObj.tok n]) (congrArg (fun L => (List.map hourC L).length) e6.symm)) (by simp [slotsIn, objsIn, sget, keepS, AObj.inB, AV.inB, AV.inL, inE_hour, inE_map, -List.map_append]) (by simp [slotsIn, objsIn, sget, keepS, AObj.inB, AV.inB, AV.inL, inE_hour, inE_map, -List.map_append]) (by simp [he0])⟩
  ·
   have g2' := g2
   try simp only [qq] at g2'
   refine sq_no rfl rfl (less_b g2) rfl rfl ?_
   refine sq_no rfl rfl (less_b g2) rfl rfl ?_
   refine sq_no rfl rfl (less_b g2) rfl rfl ?_
   refine sq_no rfl rfl (less_b g2) rfl rfl ?_
   refine sq_no rfl rfl (less_b g2) rfl rfl ?_
   refine sq_no rfl rfl (less_b g2) rfl rfl ?_
   refine sq_no rfl rfl (less_b g2) rfl rfl ?_
   refine sq_ev rfl (ev_pickF (v := .raw _) (less_b g2) (lr _)) ?_
   refine sq_nil ?_
   refine aw_false (lr _) ?_
   refine aw_exit (aw_region ?_)
   refine mvr (lr _) rfl ?_
   refine sq_ev rfl (ev_add (lr _) (lr _) (wr (by omega) (by omega))) ?_
   refine asr (lr _) rfl ?_
   refine sq_nil ?_
   have e6 : fm (i + 1) (hA p l) = fm i (hA p l) ++ fm j (hB p l (p.s0l + i)) := by rw [fm_succ, hA_eq hj0 (by first | (left; omega) | (right; assumption))]
   exact ⟨⟨i + 1, by omega⟩, by simp only; omega, Sub.fin 3 ⟨less_int (by first | omega | (simp only; omega)), Less.eq (b := .own 2 3 ((fm (i + 1) (hA p l)).map hourC)) (by rw [e6] <;> rfl), lr _, lr _, trivial⟩ (congrArg (fun n => [_, _, AObj.tok n]) (congrArg (fun L => (List.map hourC L).length) e6.symm)) (by simp [slotsIn, objsIn, sget, keepS, AObj.inB, AV.inB, AV.inL, inE_hour, inE_map, -List.map_append]) (by simp [slotsIn, objsIn, sget, keepS, AObj.inB, AV.inB, AV.inL, inE_hour, inE_map, -List.map_append]) (by simp [he0])⟩
 ·
  have c1' := c1
  try simp only [qq] at c1'
  obtain rfl : i = wid p.s0l p.s0h := by omega
  refine aw_exit (aw_seq (aw_region ?_))
  refine sq_ev rfl (ev_mv (v := .own _ _ _) (lr _)) ?_
  refine sq_ev rfl (ev_as (v := .own _ _ _) (lr _)) ?_
  refine sq_nil (aw_ret ?_)
  exact retQ_pure (v := .own _ _ _) rfl rfl (Less.trans (less_own _ _ _) (Less.eq (by rfl)))

set_option maxHeartbeats 400000 in
/-- kelir/kelirref03.Can -/
theorem can_pure (p : Pl) (l : List Nat) (gp : GP p) (cv : CV p l) : APure Tryz.prog 48 [plan p, nats l] (B (can p l)) := by
 refine apure_of (rs := [.tmp 4]) Tryz.func48 rfl rfl (Nat.le_of_ble_eq_true rfl) (by simp [AV.pureL, AV.pureB, AV.pureE, pureE_map]) (rfl) fun e0 he0 => ?_
 refine aw_seq (aw_region ?_)
 refine sq_box rfl (lr _) rfl ?_
 refine asr (lr _) rfl ?_
 refine sq_nil (aw_seq (aw_region ?_))
 refine sq_ev rfl (ev_load_agg (lr _) rfl ty27 rfl) ?_
 refine sq_ev rfl (ev_mv (v := .sl _ _) (lr _)) ?_
 refine sq_ev rfl (ev_call en102 (lr _) (hours_pure _ _ gp cv) ⟨lr _, lr _, trivial⟩) ?_
 refine sq_ev rfl (ev_len_map sl122 (lr _)) ?_
 refine sq_ev rfl (ev_gtr (lr _) (lr _)) ?_
 refine asr (lr _) rfl ?_
 refine sq_nil (aw_ret ?_)
 exact retQ_pure (v := .raw _) rfl rfl (Less.eq (by simp [can]))


end Go.Proofs.YtjghdbdiejaacaaGreatDoor

namespace Go.Proofs.YtjghdbdiejaacaaGreatDoor
open Go Go.Ab Ni
theorem en78 : Ent Tryz.prog 78 := Ent.of Tryz.func78 (by kernel_rfl) rfl
end Go.Proofs.YtjghdbdiejaacaaGreatDoor

namespace Go.Proofs.YtjghdbdiejaacaaGreatDoor
open Go Go.Ab Ni
theorem en48 : Ent Tryz.prog 48 := Ent.of Tryz.func48 (by kernel_rfl) rfl
end Go.Proofs.YtjghdbdiejaacaaGreatDoor

namespace Go.Proofs.YtjghdbdiejaacaaGreatDoor
open Go Go.Ab Ni
section
variable {r : Option Nat} {H : List AObj} {ρ : Operand → AV} {d : Option Tmp} {t : TypeId} {p : String} {af : Array Edge} {g : Option (Nat × Bool)} {x y : Operand} {yt : TypeId} {a b c e : Int}
end
set_option maxHeartbeats 400000 in
/-- kelir/kelirlaw03.short -/
theorem rshort_pure (p : Pl) : APure Tryz.prog 20 [plan p] (B (decide (p.scenes.length ≤ 12))) := by
 refine apure_of (rs := [.tmp 2]) Tryz.func20 rfl rfl (Nat.le_of_ble_eq_true rfl) (by simp [AV.pureL, AV.pureB, AV.pureE, pureE_map]) (rfl) fun e0 he0 => ?_
 refine aw_seq (aw_region ?_)
 refine sq_box rfl (lr _) rfl ?_
 refine asr (lr _) rfl ?_
 refine sq_nil (aw_seq (aw_region ?_))
 refine sq_ev rfl (ev_fieldAddr fo27_3 (lr _)) ?_
 refine sq_ev rfl (ev_load (lr _) rfl ty25 rfl) ?_
 refine sq_ev rfl (ev_len_map sl25 (lr _)) ?_
 refine sq_ev rfl (ev_leq (lr _) (lr _)) ?_
 refine asr (lr _) rfl ?_
 refine sq_nil (aw_ret ?_)
 exact retQ_pure (v := .raw _) rfl rfl (Less.eq (by simp; omega))


end Go.Proofs.YtjghdbdiejaacaaGreatDoor

namespace Go.Proofs.YtjghdbdiejaacaaGreatDoor
open Go Go.Ab Ni
theorem en20 : Ent Tryz.prog 20 := Ent.of Tryz.func20 (by kernel_rfl) rfl
theorem en21 : Ent Tryz.prog 21 := Ent.of Tryz.func21 (by kernel_rfl) rfl
theorem en24 : Ent Tryz.prog 24 := Ent.of Tryz.func24 (by kernel_rfl) rfl
theorem short_no {p : Pl} (h : ¬ p.scenes.length ≤ 12) : APure Tryz.prog 20 [plan p] (B false) := by have := rshort_pure p; simpa [h] using this
theorem short_yes {p : Pl} (h : p.scenes.length ≤ 12) : APure Tryz.prog 20 [plan p] (B true) := by have := rshort_pure p; simpa [h] using this
theorem plan_no {p : Pl} (hs : p.scenes.length ≤ 12) (h : PlOK p = false) : APure Tryz.prog 24 [plan p] (B false) := by have := plan_pure p (by omega); rwa [h] at this
theorem plan_yes {p : Pl} (hs : p.scenes.length ≤ 12) (h : PlOK p = true) : APure Tryz.prog 24 [plan p] (B true) := by have := plan_pure p (by omega); rwa [h] at this
end Go.Proofs.YtjghdbdiejaacaaGreatDoor

namespace Go.Proofs.YtjghdbdiejaacaaGreatDoor
open Go Go.Ab Ni
theorem en39 : Ent Tryz.prog 39 := Ent.of Tryz.func39 (by kernel_rfl) rfl
theorem en45 : Ent Tryz.prog 45 := Ent.of Tryz.func45 (by kernel_rfl) rfl
theorem en77 : Ent Tryz.prog 77 := Ent.of Tryz.func77 (by kernel_rfl) rfl

set_option maxHeartbeats 400000 in
/-- kelir/kelirref03.Window -/
theorem rwindow0_pure (p : Pl) : APure Tryz.prog 39 [plan p, I 0] (.agg (spanC (wl p 0) (wh p 0))) := by
  refine apure_of (rs := [.cell 4 23]) Tryz.func39 rfl rfl (Nat.le_of_ble_eq_true rfl) (by simp [AV.pureL, AV.pureB, AV.pureE, pureE_map]) (rfl) fun e0 he0 => ?_
  refine aw_seq (aw_region ?_)
  refine sq_box rfl (lr _) rfl ?_
  refine sq_alloc rfl z23 ?_
  refine sq_nil (aw_seq (aw_seq (aw_region ?_)))
  refine mvr (lr _) rfl ?_
  refine sq_ev rfl (ev_eql (lr _) (lr _)) ?_
  refine sq_nil ?_
  refine aw_cond (lr _) (fun c1 => ?_) (fun c1 => ?_)
  · skip
    have c1' := c1
    try simp only [qq] at c1'
    try exact absurd c1' (by decide)
  · skip
    have c1' := c1
    try simp only [qq] at c1'
    try exact absurd (by decide) c1'
    refine aw_skip (aw_seq (aw_region ?_))
    refine mvr (lr _) rfl ?_
    refine sq_ev rfl (ev_fieldAddr fo27_1 (lr _)) ?_
    refine sq_ev rfl (ev_index_box (k := 0) ar24 (lr _) (lr _) rfl (by decide)) ?_
    refine sq_ev rfl (ev_load_agg (lr _) rfl ty23 rfl) ?_
    refine sq_store rfl (lr _) (lr _) rfl rfl ty23 rfl rfl ?_
    refine sq_nil (aw_ret ?_)
    exact retQ_res (vs := [.agg _]) rfl rfl ⟨resVar_cell rfl rfl ty23 rfl, trivial⟩ (Less.eq (by simp [wl, wh]))

set_option maxHeartbeats 400000 in
/-- kelir/kelirref03.Window -/
theorem rwindow1_pure (p : Pl) : APure Tryz.prog 39 [plan p, I 1] (.agg (spanC (wl p 1) (wh p 1))) := by
 refine apure_of (rs := [.cell 4 23]) Tryz.func39 rfl rfl (Nat.le_of_ble_eq_true rfl) (by simp [AV.pureL, AV.pureB, AV.pureE, pureE_map]) (rfl) fun e0 he0 => ?_
 refine aw_seq (aw_region ?_)
 refine sq_box rfl (lr _) rfl ?_
 refine sq_alloc rfl z23 ?_
 refine sq_nil (aw_seq (aw_seq (aw_region ?_)))
 refine mvr (lr _) rfl ?_
 refine sq_ev rfl (ev_eql (lr _) (lr _)) ?_
 refine sq_nil ?_
 refine aw_cond (lr _) (fun c1 => ?_) (fun c1 => ?_)
 ·
  have c1' := c1
  try simp only [qq] at c1'
  try exact absurd c1' (by decide)
 ·
  have c1' := c1
  try simp only [qq] at c1'
  try exact absurd (by decide) c1'
  refine aw_skip (aw_seq (aw_region ?_))
  refine mvr (lr _) rfl ?_
  refine sq_ev rfl (ev_fieldAddr fo27_1 (lr _)) ?_
  refine sq_ev rfl (ev_index_box (k := 1) ar24 (lr _) (lr _) rfl (by decide)) ?_
  refine sq_ev rfl (ev_load_agg (lr _) rfl ty23 rfl) ?_
  refine sq_store rfl (lr _) (lr _) rfl rfl ty23 rfl rfl ?_
  refine sq_nil (aw_ret ?_)
  exact retQ_res (vs := [.agg _]) rfl rfl ⟨resVar_cell rfl rfl ty23 rfl, trivial⟩ (Less.eq (by simp [wl, wh]))

set_option maxHeartbeats 400000 in
/-- kelir/kelirref03.Window -/
theorem rwindow2_pure (p : Pl) : APure Tryz.prog 39 [plan p, I 2] (.agg (spanC (wl p 2) (wh p 2))) := by
 refine apure_of (rs := [.cell 4 23]) Tryz.func39 rfl rfl (Nat.le_of_ble_eq_true rfl) (by simp [AV.pureL, AV.pureB, AV.pureE, pureE_map]) (rfl) fun e0 he0 => ?_
 refine aw_seq (aw_region ?_)
 refine sq_box rfl (lr _) rfl ?_
 refine sq_alloc rfl z23 ?_
 refine sq_nil (aw_seq (aw_seq (aw_region ?_)))
 refine mvr (lr _) rfl ?_
 refine sq_ev rfl (ev_eql (lr _) (lr _)) ?_
 refine sq_nil ?_
 refine aw_cond (lr _) (fun c1 => ?_) (fun c1 => ?_)
 ·
  have c1' := c1
  try simp only [qq] at c1'
  try exact absurd c1' (by decide)
  refine aw_seq (aw_region ?_)
  refine sq_ev rfl (ev_fieldAddr fo27_2 (lr _)) ?_
  refine sq_ev rfl (ev_load_agg (lr _) rfl ty23 rfl) ?_
  refine sq_store rfl (lr _) (lr _) rfl rfl ty23 rfl rfl ?_
  refine sq_nil (aw_ret ?_)
  exact retQ_res (vs := [.agg _]) rfl rfl ⟨resVar_cell rfl rfl ty23 rfl, trivial⟩ (Less.eq (by simp [wl, wh]))
 ·
  have c1' := c1
  try simp only [qq] at c1'
  try exact absurd (by decide) c1'

theorem rwindow_pure (p : Pl) (k : Nat) (h : k < 3) : APure Tryz.prog 39 [plan p, I k] (.agg (spanC (wl p k) (wh p k))) := by
  rcases k with _ | _ | _ | k
  · exact rwindow0_pure p
  · exact rwindow1_pure p
  · exact rwindow2_pure p
  · omega

set_option maxHeartbeats 400000 in
/-- kelir/kelirlaw03.slim -/
theorem rslim_pure (l : List Int) : APure Tryz.prog 45 [ints l] (B (decide (l.length ≤ 12))) := by
 refine apure_of (rs := [.tmp 2]) Tryz.func45 rfl rfl (Nat.le_of_ble_eq_true rfl) (by simp [AV.pureL, AV.pureB, AV.pureE, pureE_map]) (rfl) fun e0 he0 => ?_
 refine aw_seq (aw_region ?_)
 refine asr (lr _) rfl ?_
 refine sq_nil (aw_seq (aw_region ?_))
 refine sq_ev rfl (ev_mv (v := .sl _ _) (lr _)) ?_
 refine sq_ev rfl (ev_len_map sl34 (lr _)) ?_
 refine sq_ev rfl (ev_leq (lr _) (lr _)) ?_
 refine asr (lr _) rfl ?_
 refine sq_nil (aw_ret ?_)
 exact retQ_pure (v := .raw _) rfl rfl (Less.eq (by simp; omega))

end Go.Proofs.YtjghdbdiejaacaaGreatDoor

namespace Go.Proofs.YtjghdbdiejaacaaGreatDoor
open Go Go.Ab Ni
theorem en55 : Ent Tryz.prog 55 := Ent.of Tryz.func55 (by kernel_rfl) rfl
theorem en58 : Ent Tryz.prog 58 := Ent.of Tryz.func58 (by kernel_rfl) rfl
theorem en59 : Ent Tryz.prog 59 := Ent.of Tryz.func59 (by kernel_rfl) rfl
theorem en61 : Ent Tryz.prog 61 := Ent.of Tryz.func61 (by kernel_rfl) rfl
theorem en75 : Ent Tryz.prog 75 := Ent.of Tryz.func75 (by kernel_rfl) rfl
theorem en76 : Ent Tryz.prog 76 := Ent.of Tryz.func76 (by kernel_rfl) rfl
theorem en79 : Ent Tryz.prog 79 := Ent.of Tryz.func79 (by kernel_rfl) rfl

def allowedAV (p : Pl) (l : List Int) : AV := if PlOK p = true ∧ Ris p l = true then .tup [B (isCh p l), I 0] else .tup [B false, I 2]
def canAV (p : Pl) (l : List Int) : AV := if chosenB p l = true then .tup [B (canP p (dn l)), I 0] else .tup [B false, I 2]
def nfitsAV (p : Pl) (l ls : List Int) : AV := if chosenB p l = true ∧ lastsP p (dn l) ls = true then .tup [B (canP (pFF p (dn l) ls) (dn l)), I 0] else .tup [B false, I 2]
theorem allowedAV_pure (p : Pl) (l : List Int) : (allowedAV p l).pureB = true := by unfold allowedAV; split <;> rfl
theorem canAV_pure (p : Pl) (l : List Int) : (canAV p l).pureB = true := by unfold canAV; split <;> rfl
theorem nfitsAV_pure (p : Pl) (l ls : List Int) : (nfitsAV p l ls).pureB = true := by unfold nfitsAV; split <;> rfl
theorem lasts_len {p : Pl} {l : List Nat} {ls : List Int} (h : l.length ≠ ls.length) : lastsP p l ls = false := by simp [lastsP, h]
theorem lasts_bad {p : Pl} {l : List Nat} {ls : List Int} {i : Nat} (h : i < l.length) (hb : lsBad p l ls i h = true) : lastsP p l ls = false := by
  unfold lastsP; rw [okAll_bad h hb, Bool.and_false]
theorem lasts_end {p : Pl} {l : List Nat} {ls : List Int} (hl : l.length = ls.length) {k : Nat} (hk : k ≤ l.length) (hn : ¬ (k : Int) < l.length) (h : ∀ i, (h : i < l.length) → i < k → lsBad p l ls i h = false) : lastsP p l ls = true := by
  unfold lastsP; rw [okAll_end hk hn h, Bool.and_true]; simpa using hl
theorem endI_bd {p : Pl} {l : List Nat} {ls : List Int} (gp : GP p) (hls : l.length = ls.length) (hb : ∀ x ∈ ls, 0 ≤ x ∧ x ≤ 10000) (k : Int) : ∀ i, i ≤ l.length → -10000 ≤ endI p l ls k i ∧ endI p l ls k i ≤ 10000 + 10000 * i
  | 0, _ => by have := gp.beg; simp only [endI]; omega
  | i + 1, hi => by
    have ih := endI_bd gp hls hb k i (by omega)
    have hv := hb _ (List.getElem_mem (show i < ls.length by omega))
    rw [endI, getD_at (show i < ls.length by omega)]
    split <;> omega
theorem lasts_bds {p : Pl} {l : List Nat} {ls : List Int} (gp : GP p) (cv : CV p l) (h : lastsP p l ls = true) : ∀ x ∈ ls, 0 ≤ x ∧ x ≤ 10000 := fun x hx => by
  obtain ⟨hl, hv⟩ := lasts_at h
  obtain ⟨i, hi, rfl⟩ := List.getElem_of_mem hx
  have := hv i (by omega)
  rw [getD_at hi] at this
  have a1 := gp.least (cv.rng _ (List.getElem_mem (show i < l.length by omega)))
  have a2 := gp.most (cv.rng _ (List.getElem_mem (show i < l.length by omega)))
  omega
theorem parts_ok {p : Pl} (h : PlOK p = true) {l : List Nat} (cv : CV p l) : ∀ x ∈ l, 0 ≤ (scn p x).part ∧ (scn p x).part ≤ 2 := fun x hx => by
  obtain ⟨k, hk, hk3⟩ := partOf_ok h (cv.rng x hx); omega
set_option maxHeartbeats 400000 in
/-- kelir/night.Check -/
theorem nCheck_pure (p : Pl) (hp : p.scenes.length ≤ 1000000) : APure Tryz.prog 75 [plan p] (I (if PlOK p = true then 0 else 2)) := by
  refine apure_of (rs := [.tmp 2]) Tryz.func75 rfl rfl (Nat.le_of_ble_eq_true rfl) (by simp [AV.pureL, AV.pureB, AV.pureE, pureE_map]) (rfl) fun e0 he0 => ?_
  refine aw_seq (aw_region ?_)
  refine sq_box rfl (lr _) rfl ?_
  refine asr (lr _) rfl ?_
  refine sq_nil (aw_seq (aw_seq (aw_region ?_)))
  refine sq_ev rfl (ev_load_agg (lr _) rfl ty27 rfl) ?_
  refine sq_ev rfl (ev_call en85 (lr _) (isplan_pure p hp) ⟨lr _, trivial⟩) ?_
  refine sq_ev rfl (ev_not (lr _)) ?_
  refine sq_nil ?_
  refine aw_cond (lr _) (fun c1 => ?_) (fun c1 => ?_)
  · skip
    have c1' := c1
    try simp only [qq] at c1'
    refine aw_seq (aw_region ?_)
    refine asr (lr _) rfl ?_
    refine sq_nil (aw_ret ?_)
    exact retQ_pure (v := .raw _) rfl rfl (Less.eq (by simp [*]))
  · skip
    have c1' := c1
    try simp only [qq] at c1'
    refine aw_skip (aw_seq (aw_region ?_))
    refine asr (lr _) rfl ?_
    refine sq_nil (aw_ret ?_)
    exact retQ_pure (v := .raw _) rfl rfl (Less.eq (by simp [*]))

set_option maxHeartbeats 400000 in
/-- kelir/night.Allowed -/
theorem nAllowed_pure (p : Pl) (l : List Int) (hp : p.scenes.length ≤ 1000000) (hl : l.length ≤ 1000000) : APure Tryz.prog 76 [plan p, ints l] (allowedAV p l) := by
 refine apure_of (rs := [.tmp 4, .tmp 5]) Tryz.func76 rfl rfl (Nat.le_of_ble_eq_true rfl) (by simp [AV.pureL, AV.pureB, AV.pureE, pureE_map]) (allowedAV_pure p l) fun e0 he0 => ?_
 refine aw_seq (aw_region ?_)
 refine sq_box rfl (lr _) rfl ?_
 refine asr (lr _) rfl ?_
 refine asr (lr _) rfl ?_
 refine sq_nil (aw_seq (aw_seq (aw_region ?_)))
 refine sq_ev rfl (ev_load_agg (lr _) rfl ty27 rfl) ?_
 refine sq_ev rfl (ev_call en85 (lr _) (isplan_pure p hp) ⟨lr _, trivial⟩) ?_
 refine sq_ev rfl (ev_not (lr _)) ?_
 refine mvr (lr _) rfl ?_
 refine sq_split 9 (lr _) (fun g1 => ?_) (fun g1 => ?_)
 ·
  have g1' := g1
  try simp only [qq] at g1'
  refine sq_no rfl rfl (less_b g1) rfl rfl ?_
  refine sq_no rfl rfl (less_b g1) rfl rfl ?_
  refine sq_no rfl rfl (less_b g1) rfl rfl ?_
  refine sq_no rfl rfl (less_b g1) rfl rfl ?_
  refine sq_ev rfl (ev_pickT (v := .raw _) (less_b g1) (lr _)) ?_
  refine sq_nil ?_
  refine aw_true (lr _) ?_
  refine aw_seq (aw_region ?_)
  refine asr (lr _) rfl ?_
  refine asr (lr _) rfl ?_
  refine sq_nil (aw_ret ?_)
  exact retQ_pure (v := .tup [.raw _, .raw _]) rfl rfl (Less.eq (by simp [allowedAV, *]))
 ·
  have g1' := g1
  try simp only [qq] at g1'
  refine sq_yes rfl rfl (less_b g1) rfl (ev_load_agg (lr _) rfl ty27 rfl) ?_
  refine sq_yes rfl rfl (less_b g1) rfl (ev_mv (v := .sl _ _) (lr _)) ?_
  refine sq_yes rfl rfl (less_b g1) rfl (ev_call en139 (lr _) (narescenes_pure p l hp hl) ⟨lr _, lr _, trivial⟩) ?_
  refine sq_yes rfl rfl (less_b g1) rfl (ev_not (lr _)) ?_
  refine sq_ev rfl (ev_pickF (v := .raw _) (less_b g1) (lr _)) ?_
  refine sq_nil ?_
  refine aw_cond (lr _) (fun c2 => ?_) (fun c2 => ?_)
  ·
   have c2' := c2
   try simp only [qq] at c2'
   refine aw_seq (aw_region ?_)
   refine asr (lr _) rfl ?_
   refine asr (lr _) rfl ?_
   refine sq_nil (aw_ret ?_)
   exact retQ_pure (v := .tup [.raw _, .raw _]) rfl rfl (Less.eq (by simp [allowedAV, *]))
  ·
   have c2' := c2
   try simp only [qq] at c2'
   refine aw_skip (aw_seq (aw_region ?_))
   refine sq_ev rfl (ev_load_agg (lr _) rfl ty27 rfl) ?_
   refine sq_ev rfl (ev_mv (v := .sl _ _) (lr _)) ?_
   refine sq_ev rfl (ev_call en140 (lr _) (nischoice_pure p l hp hl) ⟨lr _, lr _, trivial⟩) ?_
   refine asr (lr _) rfl ?_
   refine asr (lr _) rfl ?_
   refine sq_nil (aw_ret ?_)
   exact retQ_pure (v := .tup [.raw _, .raw _]) rfl rfl (Less.eq (by simp [allowedAV, *]))

set_option maxHeartbeats 1000000 in
/-- kelir/night.Can -/
theorem nCan_pure (p : Pl) (l : List Int) (hp : p.scenes.length ≤ 1000000) (hl : l.length ≤ 1000000) : APure Tryz.prog 55 [plan p, ints l] (canAV p l) := by
 refine apure_of (rs := [.tmp 4, .tmp 5]) Tryz.func55 rfl rfl (Nat.le_of_ble_eq_true rfl) (by simp [AV.pureL, AV.pureB, AV.pureE, pureE_map]) (canAV_pure p l) fun e0 he0 => ?_
 refine aw_seq (aw_region ?_)
 refine sq_box rfl (lr _) rfl ?_
 refine asr (lr _) rfl ?_
 refine asr (lr _) rfl ?_
 refine sq_nil (aw_seq (aw_region ?_))
 refine sq_ev rfl (ev_load_agg (lr _) rfl ty27 rfl) ?_
 refine sq_ev rfl (ev_mv (v := .sl _ _) (lr _)) ?_
 refine sq_ev rfl (ev_call en107 (lr _) (nchosen_pure p l hp hl) ⟨lr _, lr _, trivial⟩) ?_
 refine sq_ev rfl (ev_mv (v := .tup _) (lr _)) ?_
 refine sq_ev rfl (ev_extract (lr _) rfl) ?_
 refine sq_ev rfl (ev_extract (lr _) rfl) ?_
 refine sq_alloc rfl z110 ?_
 refine sq_store rfl (lr _) (lr _) rfl rfl ty110 rfl rfl ?_
 refine asr (lr _) rfl ?_
 refine sq_nil (aw_seq (aw_seq (aw_region ?_)))
 refine mvr (lr _) rfl ?_
 refine sq_ev rfl (ev_not (lr _)) ?_
 refine sq_nil ?_
 refine aw_cond (lr _) (fun c1 => ?_) (fun c1 => ?_)
 ·
  have c1' := c1
  try simp only [qq] at c1'
  refine aw_seq (aw_region ?_)
  refine asr (lr _) rfl ?_
  refine asr (lr _) rfl ?_
  refine sq_nil (aw_ret ?_)
  exact retQ_pure (v := .tup [.raw _, .raw _]) rfl rfl (Less.eq (by simp [canAV, c1']))
 ·
  have c1' := c1
  try simp only [qq] at c1'
  obtain ⟨l', rfl, cv, gp, wp⟩ := chosen_up c1'
  refine aw_skip (aw_seq (aw_region ?_))
  refine sq_ev rfl (ev_load_agg (lr _) rfl ty110 rfl) ?_
  refine sq_ev rfl (ev_call en88 (lr _) (ncan_pure p l' gp cv) ⟨Less.eq (playedI_up p l'), trivial⟩) ?_
  refine asr (lr _) rfl ?_
  refine asr (lr _) rfl ?_
  refine sq_nil (aw_ret ?_)
  exact retQ_pure (v := .tup [.raw _, .raw _]) rfl rfl (Less.eq (by simp [canAV, c1', dn_up]))

set_option maxHeartbeats 2000000 in
/-- kelir/night.Fits -/
theorem nFits_pure (p : Pl) (l ls : List Int) (hp : p.scenes.length ≤ 1000000) (hl : l.length ≤ 1000000) : APure Tryz.prog 59 [plan p, ints l, ints ls] (nfitsAV p l ls) := by
 refine apure_of (rs := [.tmp 6, .tmp 7]) Tryz.func59 rfl rfl (Nat.le_of_ble_eq_true rfl) (by simp [AV.pureL, AV.pureB, AV.pureE, pureE_map]) (nfitsAV_pure p l ls) fun e0 he0 => ?_
 refine aw_seq (aw_region ?_)
 refine sq_box rfl (lr _) rfl ?_
 refine asr (lr _) rfl ?_
 refine asr (lr _) rfl ?_
 refine sq_nil (aw_seq (aw_region ?_))
 refine sq_ev rfl (ev_load_agg (lr _) rfl ty27 rfl) ?_
 refine sq_ev rfl (ev_mv (v := .sl _ _) (lr _)) ?_
 refine sq_ev rfl (ev_call en107 (lr _) (nchosen_pure p l hp hl) ⟨lr _, lr _, trivial⟩) ?_
 refine sq_ev rfl (ev_mv (v := .tup _) (lr _)) ?_
 refine sq_ev rfl (ev_extract (lr _) rfl) ?_
 refine sq_ev rfl (ev_extract (lr _) rfl) ?_
 refine sq_alloc rfl z110 ?_
 refine sq_store rfl (lr _) (lr _) rfl rfl ty110 rfl rfl ?_
 refine asr (lr _) rfl ?_
 refine sq_nil (aw_seq (aw_seq (aw_region ?_)))
 refine mvr (lr _) rfl ?_
 refine sq_ev rfl (ev_not (lr _)) ?_
 refine mvr (lr _) rfl ?_
 refine sq_split 20 (lr _) (fun g1 => ?_) (fun g1 => ?_)
 ·
  have g1' := g1
  try simp only [qq] at g1'
  refine sq_no rfl rfl (less_b g1) rfl rfl ?_
  refine sq_no rfl rfl (less_b g1) rfl rfl ?_
  refine sq_no rfl rfl (less_b g1) rfl rfl ?_
  refine sq_no rfl rfl (less_b g1) rfl rfl ?_
  refine sq_no rfl rfl (less_b g1) rfl rfl ?_
  refine sq_ev rfl (ev_pickT (v := .raw _) (less_b g1) (lr _)) ?_
  refine sq_nil ?_
  refine aw_true (lr _) ?_
  refine aw_seq (aw_region ?_)
  refine asr (lr _) rfl ?_
  refine asr (lr _) rfl ?_
  refine sq_nil (aw_ret ?_)
  exact retQ_pure (v := .tup [.raw _, .raw _]) rfl rfl (Less.eq (by rw [nfitsAV, if_neg (fun h => by rw [h.1] at g1'; cases g1')]))
 ·
  have g1' := g1
  try simp only [qq] at g1'
  refine sq_yes rfl rfl (less_b g1) rfl (ev_mv (v := .sl _ _) (lr _)) ?_
  refine sq_yes rfl rfl (less_b g1) rfl (ev_len_map sl34 (lr _)) ?_
  refine sq_yes rfl rfl (less_b g1) rfl (ev_mv (v := .sl _ _) (lr _)) ?_
  refine sq_yes rfl rfl (less_b g1) rfl (ev_len_map sl34 (lr _)) ?_
  refine sq_yes rfl rfl (less_b g1) rfl (ev_neq (lr _) (lr _)) ?_
  refine sq_ev rfl (ev_pickF (v := .raw _) (less_b g1) (lr _)) ?_
  refine sq_nil ?_
  refine aw_cond (lr _) (fun c2 => ?_) (fun c2 => ?_)
  ·
   have c2' := c2
   try simp only [qq] at c2'
   refine aw_seq (aw_region ?_)
   refine asr (lr _) rfl ?_
   refine asr (lr _) rfl ?_
   refine sq_nil (aw_ret ?_)
   exact retQ_pure (v := .tup [.raw _, .raw _]) rfl rfl (Less.eq (by rw [nfitsAV, if_neg (fun h => by have h2 := (lasts_at h.2).1; simp only [dn, List.length_map] at h2; omega)]))
  ·
   have c2' := c2
   try simp only [qq] at c2'
   refine aw_skip (aw_seq (aw_seq ?_))
   obtain ⟨l', rfl, cv, gp, wp⟩ := chosen_up (p := p) (l := l) (by simp_all)
   have hlen : l'.length = ls.length := by simp [up] at c2'; omega
   simp only [playedI, ints, eup]
   refine aw_region ?_
   refine sq_ev rfl (ev_mv (v := .sl _ _) (lr _)) ?_
   refine sq_ev rfl (ev_len_map sl34 (lr _)) ?_
   refine mvr (lr _) rfl ?_
   refine sq_nil (aw_block ?_)
   refine aw_loopk (ι := { i : Nat // i ≤ l'.length ∧ ∀ j, (h : j < l'.length) → j < i → lsBad p l' ls j h = false }) [2, 3, 8, 27, 28] (fun i => [(29, I i.1)]) (fun H i => H.set 1 (.cells (playedC (pF p l' ls i.1) l'))) (fun i => l'.length - i.1) (⟨0, Nat.zero_le _, by omega⟩) ⟨lr _, lr _, lr _, lr _, lr _, lr _, trivial⟩ rfl ?_
   rintro ⟨i, hi, hok⟩
   dsimp only [keepS, St.put, sget, slotsOf, List.map_cons, List.map_nil, List.cons_append, List.nil_append, List.length_cons, List.length_nil, Nat.reduceBEq, Nat.reduceAdd, cond_true, cond_false]
   refine aw_seq (aw_region ?_)
   refine sq_ev rfl (ev_lss (lr _) (lr _)) ?_
   refine sq_nil (aw_seq ?_)
   refine aw_cond (lr _) (fun c3 => ?_) (fun c3 => ?_)
   ·
    have c3' := c3
    try simp only [qq] at c3'
    have hi' : i < l'.length := by omega
    have hlt := cv.rng _ (List.getElem_mem hi')
    have he := scn_eq hlt
    have hil : i < ls.length := by omega
    have hgd : ls.getD i 0 = ls[i] := getD_at hil 0
    have hgl : l'.getD i 0 = l'[i] := getD_at hi' 0
    have hpl := (pF_fields p l' ls i).2.2.2
    refine aw_skip (aw_seq (aw_block (aw_seq (aw_region ?_))))
    refine mvr (lr _) rfl ?_
    refine sq_ev rfl (ev_index_map sl34 (lr _) (lr _) rfl (by omega)) ?_
    refine sq_ev rfl (ev_load_i (lr _) ty3 rfl) ?_
    refine asr (lr _) rfl ?_
    refine asr (lr _) rfl ?_
    refine sq_nil (aw_seq (aw_seq ?_))
    refine aw_draw 18 mo (by kernel_rfl) ?_
    refine dr_ev rfl (ev_mv (v := .sl _ _) (lr _)) ?_
    refine dr_ev rfl (ev_mv (v := .raw _) (lr _)) ?_
    refine dr_ev rfl (ev_index_map sl34 (lr _) (lr _) rfl (by omega)) ?_
    refine dr_ev rfl (ev_load_i (lr _) ty3 rfl) ?_
    refine dr_ev rfl (ev_fieldAddr fo27_3 (lr _)) ?_
    refine dr_ev rfl (ev_load (lr _) rfl ty25 rfl) ?_
    refine dr_ev rfl (ev_mv (v := .raw _) (lr _)) ?_
    refine dr_ev rfl (ev_index_map sl25 (lr _) (lr _) rfl (by omega)) ?_
    refine dr_ev rfl (ev_fieldAddr_i fo84_1 (lr _)) ?_
    refine dr_ev rfl (ev_load_i (lr _) ty3 rfl) ?_
    refine dr_ev rfl (ev_fieldAddr fo27_3 (lr _)) ?_
    refine dr_ev rfl (ev_load (lr _) rfl ty25 rfl) ?_
    refine dr_ev rfl (ev_mv (v := .raw _) (lr _)) ?_
    refine dr_ev rfl (ev_index_map sl25 (lr _) (lr _) rfl (by omega)) ?_
    refine dr_ev rfl (ev_fieldAddr_i fo84_2 (lr _)) ?_
    refine dr_ev rfl (ev_load_i (lr _) ty3 rfl) ?_
    refine dr_ev rfl (ev_call en122 (lr _) (nin_pure _ _ _) ⟨lr _, lr _, lr _, trivial⟩) ?_
    refine dr_ev rfl (ev_not (lr _)) ?_
    refine dr_end (sq_nil ?_)
    refine aw_cond (lr _) (fun c4 => ?_) (fun c4 => ?_)
    ·
     have c4' := c4
     try simp only [qq] at c4'
     refine aw_seq (aw_region ?_)
     refine asr (lr _) rfl ?_
     refine asr (lr _) rfl ?_
     refine sq_nil (aw_ret ?_)
     exact retQ_pure (v := .tup [.raw _, .raw _]) rfl rfl (Less.eq (by rw [nfitsAV, if_neg (fun h => by have h2 := h.2; rw [dn_up, lasts_bad hi' (by simp only [lsBad, hgd, he, c4', Bool.not_false])] at h2; cases h2)]))
    ·
     have c4' := c4
     try simp only [qq] at c4'
     have hgood : lsBad p l' ls i hi' = false := by simp only [lsBad, hgd, he, inn] at c4' ⊢; simpa using c4'
     have e3 : pF p l' ls (i + 1) = fixP (pF p l' ls i) l'[i] ls[i] := by rw [pF, hgd, hgl]
     refine aw_skip ?_
     refine aw_draw 9 mo (by kernel_rfl) ?_
     refine dr_ev rfl (ev_fieldAddr fo110_0 (lr _)) ?_
     refine dr_ev rfl (ev_load_agg (lr _) rfl ty27 rfl) ?_
     refine dr_ev rfl (ev_mv (v := .raw _) (lr _)) ?_
     refine dr_ev rfl (ev_mv (v := .sl _ _) (lr _)) ?_
     refine dr_ev rfl (ev_mv (v := .raw _) (lr _)) ?_
     refine dr_ev rfl (ev_index_map sl34 (lr _) (lr _) rfl (by omega)) ?_
     refine dr_ev rfl (ev_load_i (lr _) ty3 rfl) ?_
     refine dr_ev rfl (ev_call en87 (lr _) (nfixed_pure (p := pF p l' ls i) (k := l'[i]) (n := ls[i]) (by rw [hpl]; exact hlt) (by rw [hpl]; exact hp)) ⟨lr _, lr _, lr _, trivial⟩) ?_
     refine dr_ev rfl (ev_fieldAddr fo110_0 (lr _)) ?_
     refine dr_end ?_
     refine sq_store rfl (lr _) (lr _) rfl rfl ty27 rfl rfl ?_
     refine sq_nil (aw_region ?_)
     refine sq_ev rfl (ev_add (lr _) (lr _) (wr (by omega) (by omega))) ?_
     refine mvr (lr _) rfl ?_
     refine sq_nil ?_
     exact ⟨⟨i + 1, by omega, fun j h hj => (by by_cases e : j = i; (subst e; exact hgood); exact hok j h (by omega))⟩, by simp only; omega, Sub.fin 2 ⟨lr _, lr _, lr _, lr _, lr _, lr _, trivial⟩ (congrArg (fun (q : Pl) => [AObj.cells (planC p), AObj.cells (playedC q l')]) e3.symm) (by simp [slotsIn, objsIn, sget, keepS, AObj.inB, AV.inB, AV.inL, AV.inE, inE_map, inE_ints, inE_sc, -List.map_append, -List.map_take, -List.map_map]) (by simp [slotsIn, objsIn, sget, keepS, AObj.inB, AV.inB, AV.inL, AV.inE, inE_map, inE_ints, inE_sc, -List.map_append, -List.map_take, -List.map_map]) (by simp [he0])⟩
   ·
    have c3' := c3
    try simp only [qq] at c3'
    obtain rfl : i = l'.length := by omega
    have hlast : lastsP p l' ls = true := lasts_end hlen (Nat.le_refl _) (by omega) hok
    obtain ⟨gpF, wpF, cvF⟩ := pF_ok gp wp cv hlast l'.length (Nat.le_refl _)
    refine aw_exit (aw_seq (aw_region ?_))
    refine sq_ev rfl (ev_load_agg (lr _) rfl ty110 rfl) ?_
    refine sq_ev rfl (ev_call en88 (lr _) (ncan_pure (pFF p l' ls) l' gpF cvF) ⟨lr _, trivial⟩) ?_
    refine asr (lr _) rfl ?_
    refine asr (lr _) rfl ?_
    refine sq_nil (aw_ret ?_)
    exact retQ_pure (v := .tup [.raw _, .raw _]) rfl rfl (Less.eq (by rw [nfitsAV, if_pos ⟨by simp_all, by rw [dn_up]; exact hlast⟩, dn_up]))

set_option maxHeartbeats 1000000 in
/-- kelir/kelirref03.Lasts -/
theorem rlasts_pure (p : Pl) (l : List Nat) (ls : List Int) (cv : CV p l) (hls : ls.length ≤ 1000000) : APure Tryz.prog 58 [plan p, nats l, ints ls] (B (lastsP p l ls)) := by
 refine apure_of (rs := [.tmp 6]) Tryz.func58 rfl rfl (Nat.le_of_ble_eq_true rfl) (by simp [AV.pureL, AV.pureB, AV.pureE, pureE_map]) (rfl) fun e0 he0 => ?_
 refine aw_seq (aw_region ?_)
 refine sq_box rfl (lr _) rfl ?_
 refine asr (lr _) rfl ?_
 refine sq_nil (aw_seq (aw_seq (aw_region ?_)))
 refine sq_ev rfl (ev_mv (v := .sl _ _) (lr _)) ?_
 refine sq_ev rfl (ev_len_map sl34 (lr _)) ?_
 refine sq_ev rfl (ev_mv (v := .sl _ _) (lr _)) ?_
 refine sq_ev rfl (ev_len_map sl34 (lr _)) ?_
 refine sq_ev rfl (ev_neq (lr _) (lr _)) ?_
 refine sq_nil ?_
 refine aw_cond (lr _) (fun c1 => ?_) (fun c1 => ?_)
 ·
  have c1' := c1
  try simp only [qq] at c1'
  refine aw_seq (aw_region ?_)
  refine asr (lr _) rfl ?_
  refine sq_nil (aw_ret ?_)
  exact retQ_pure (v := .raw _) rfl rfl (Less.eq (by rw [lasts_len (by omega)]))
 ·
  have c1' := c1
  try simp only [qq] at c1'
  have hlen : l.length = ls.length := by omega
  refine aw_skip (aw_seq (aw_seq (aw_region ?_)))
  refine asr (lr _) rfl ?_
  refine sq_nil (aw_block ?_)
  refine aw_loopk (ι := { k : Nat // k ≤ l.length ∧ ∀ i, (h : i < l.length) → i < k → lsBad p l ls i h = false }) [1, 2, 3] (fun i => [(7, I i.1)]) (fun H i => H) (fun i => l.length - i.1) (⟨0, Nat.zero_le _, by omega⟩) ⟨lr _, lr _, lr _, lr _, trivial⟩ rfl ?_
  rintro ⟨k, hk, hok⟩
  dsimp only [keepS, St.put, sget, slotsOf, List.map_cons, List.map_nil, List.cons_append, List.nil_append, List.length_cons, List.length_nil, Nat.reduceBEq, Nat.reduceAdd, cond_true, cond_false]
  refine aw_seq (aw_seq (aw_region ?_))
  refine mvr (lr _) rfl ?_
  refine sq_ev rfl (ev_mv (v := .sl _ _) (lr _)) ?_
  refine sq_ev rfl (ev_len_map sl34 (lr _)) ?_
  refine sq_ev rfl (ev_lss (lr _) (lr _)) ?_
  refine sq_nil ?_
  refine aw_cond (lr _) (fun c2 => ?_) (fun c2 => ?_)
  ·
   have c2' := c2
   try simp only [qq] at c2'
   have hi' : k < l.length := by omega
   have hlt := cv.rng _ (List.getElem_mem hi')
   have he := scn_eq hlt
   have hil : k < ls.length := by omega
   have hgd : ls.getD k 0 = ls[k] := getD_at hil 0
   refine aw_skip (aw_seq (aw_block (aw_seq ?_)))
   refine aw_draw 24 mo (by kernel_rfl) ?_
   refine dr_ev rfl (ev_mv (v := .sl _ _) (lr _)) ?_
   refine dr_ev rfl (ev_mv (v := .raw _) (lr _)) ?_
   refine dr_ev rfl (ev_index_map sl34 (lr _) (lr _) rfl (by omega)) ?_
   refine dr_ev rfl (ev_load_i (lr _) ty3 rfl) ?_
   refine dr_ev rfl (ev_fieldAddr fo27_3 (lr _)) ?_
   refine dr_ev rfl (ev_load (lr _) rfl ty25 rfl) ?_
   refine dr_ev rfl (ev_mv (v := .sl _ _) (lr _)) ?_
   refine dr_ev rfl (ev_mv (v := .raw _) (lr _)) ?_
   refine dr_ev rfl (ev_index_map sl34 (lr _) (lr _) rfl (by omega)) ?_
   refine dr_ev rfl (ev_load_i (lr _) ty3 rfl) ?_
   refine dr_ev rfl (ev_index_map sl25 (lr _) (lr _) rfl (by omega)) ?_
   refine dr_ev rfl (ev_fieldAddr_i fo84_1 (lr _)) ?_
   refine dr_ev rfl (ev_load_i (lr _) ty3 rfl) ?_
   refine dr_ev rfl (ev_fieldAddr fo27_3 (lr _)) ?_
   refine dr_ev rfl (ev_load (lr _) rfl ty25 rfl) ?_
   refine dr_ev rfl (ev_mv (v := .sl _ _) (lr _)) ?_
   refine dr_ev rfl (ev_mv (v := .raw _) (lr _)) ?_
   refine dr_ev rfl (ev_index_map sl34 (lr _) (lr _) rfl (by omega)) ?_
   refine dr_ev rfl (ev_load_i (lr _) ty3 rfl) ?_
   refine dr_ev rfl (ev_index_map sl25 (lr _) (lr _) rfl (by omega)) ?_
   refine dr_ev rfl (ev_fieldAddr_i fo84_2 (lr _)) ?_
   refine dr_ev rfl (ev_load_i (lr _) ty3 rfl) ?_
   refine dr_ev rfl (ev_call en89 (lr _) (in_pure _ _ _) ⟨lr _, lr _, lr _, trivial⟩) ?_
   refine dr_ev rfl (ev_not (lr _)) ?_
   refine dr_end (sq_nil ?_)
   refine aw_cond (lr _) (fun c3 => ?_) (fun c3 => ?_)
   ·
    have c3' := c3
    try simp only [qq] at c3'
    refine aw_seq (aw_region ?_)
    refine asr (lr _) rfl ?_
    refine sq_nil (aw_ret ?_)
    exact retQ_pure (v := .raw _) rfl rfl (Less.eq (by rw [lasts_bad hi' (by simp only [lsBad, hgd, he] at c3' ⊢; simpa using c3')]))
   ·
    have c3' := c3
    try simp only [qq] at c3'
    refine aw_skip (aw_region ?_)
    refine mvr (lr _) rfl ?_
    refine sq_ev rfl (ev_add (lr _) (lr _) (wr (by omega) (by omega))) ?_
    refine asr (lr _) rfl ?_
    refine sq_nil ?_
    have hgood : lsBad p l ls k (by omega) = false := by simp only [lsBad, hgd, he] at c3' ⊢; simpa using c3'
    exact ⟨⟨k + 1, by omega, fun i h hi => (by by_cases e : i = k; (subst e; exact hgood); exact hok i h (by omega))⟩, by simp only; omega, Sub.slots ⟨lr _, lr _, lr _, lr _, trivial⟩⟩
  ·
   have c2' := c2
   try simp only [qq] at c2'
   refine aw_exit (aw_seq (aw_region ?_))
   refine asr (lr _) rfl ?_
   refine sq_nil (aw_ret ?_)
   exact retQ_pure (v := .raw _) rfl rfl (Less.eq (by rw [lasts_end hlen hk c2' hok]))

set_option maxHeartbeats 1000000 in
/-- kelir/kelirref03.End -/
theorem rend_pure (p : Pl) (l : List Nat) (ls : List Int) (k : Int) (gp : GP p) (cv : CV p l) (hls : l.length = ls.length) (hb : ∀ x ∈ ls, 0 ≤ x ∧ x ≤ 10000) : APure Tryz.prog 61 [plan p, nats l, ints ls, I k] (I (endR p l ls k)) := by
 refine apure_of (rs := [.tmp 8]) Tryz.func61 rfl rfl (Nat.le_of_ble_eq_true rfl) (by simp [AV.pureL, AV.pureB, AV.pureE, pureE_map]) (rfl) fun e0 he0 => ?_
 refine aw_seq (aw_region ?_)
 refine sq_box rfl (lr _) rfl ?_
 refine asr (lr _) rfl ?_
 refine sq_nil (aw_seq (aw_region ?_))
 refine sq_ev rfl (ev_fieldAddr fo27_0 (lr _)) ?_
 refine sq_ev rfl (ev_load (lr _) rfl ty3 rfl) ?_
 refine asr (lr _) rfl ?_
 refine sq_nil (aw_seq (aw_seq (aw_region ?_)))
 refine asr (lr _) rfl ?_
 refine sq_nil (aw_block ?_)
 refine aw_loopk (ι := { i : Nat // i ≤ l.length }) [1, 2, 3, 4] (fun i => [(10, I i.1), (9, I (endI p l ls k i.1))]) (fun H i => H) (fun i => l.length - i.1) (⟨0, Nat.zero_le _⟩) ⟨lr _, lr _, lr _, lr _, lr _, lr _, trivial⟩ rfl ?_
 rintro ⟨i, hi⟩
 dsimp only [keepS, St.put, sget, slotsOf, List.map_cons, List.map_nil, List.cons_append, List.nil_append, List.length_cons, List.length_nil, Nat.reduceBEq, Nat.reduceAdd, cond_true, cond_false]
 have hbd := endI_bd gp hls hb k i hi
 have hcl := cv.len
 refine aw_seq (aw_seq (aw_region ?_))
 refine mvr (lr _) rfl ?_
 refine sq_ev rfl (ev_mv (v := .sl _ _) (lr _)) ?_
 refine sq_ev rfl (ev_len_map sl34 (lr _)) ?_
 refine sq_ev rfl (ev_lss (lr _) (lr _)) ?_
 refine sq_nil ?_
 refine aw_cond (lr _) (fun c1 => ?_) (fun c1 => ?_)
 ·
  have c1' := c1
  try simp only [qq] at c1'
  have hi' : i < l.length := by omega
  have hlt := cv.rng _ (List.getElem_mem hi')
  have he := scn_eq hlt
  have hil : i < ls.length := by omega
  have hgd : ls.getD i 0 = ls[i] := getD_at hil 0
  have hgl : l.getD i 0 = l[i] := getD_at hi' 0
  have hbv := hb _ (List.getElem_mem hil)
  refine aw_skip (aw_seq (aw_block (aw_seq ?_)))
  refine aw_draw 11 mo (by kernel_rfl) ?_
  refine dr_ev rfl (ev_fieldAddr fo27_3 (lr _)) ?_
  refine dr_ev rfl (ev_load (lr _) rfl ty25 rfl) ?_
  refine dr_ev rfl (ev_mv (v := .sl _ _) (lr _)) ?_
  refine dr_ev rfl (ev_mv (v := .raw _) (lr _)) ?_
  refine dr_ev rfl (ev_index_map sl34 (lr _) (lr _) rfl (by omega)) ?_
  refine dr_ev rfl (ev_load_i (lr _) ty3 rfl) ?_
  refine dr_ev rfl (ev_index_map sl25 (lr _) (lr _) rfl (by omega)) ?_
  refine dr_ev rfl (ev_fieldAddr_i fo84_0 (lr _)) ?_
  refine dr_ev rfl (ev_load_i (lr _) ty3 rfl) ?_
  refine dr_ev rfl (ev_mv (v := .raw _) (lr _)) ?_
  refine dr_ev rfl (ev_leq (lr _) (lr _)) ?_
  refine dr_end (sq_nil ?_)
  refine aw_cond (lr _) (fun c2 => ?_) (fun c2 => ?_)
  ·
   have c2' := c2
   try simp only [qq] at c2'
   have eE : endI p l ls k i + ls[i] = endI p l ls k (i + 1) := by rw [endI, hgd, hgl, he, if_pos c2']
   refine aw_region ?_
   refine mvr (lr _) rfl ?_
   refine sq_ev rfl (ev_mv (v := .sl _ _) (lr _)) ?_
   refine mvr (lr _) rfl ?_
   refine sq_ev rfl (ev_index_map sl34 (lr _) (lr _) rfl (by omega)) ?_
   refine sq_ev rfl (ev_load_i (lr _) ty3 rfl) ?_
   refine sq_ev rfl (ev_add (lr _) (lr _) (wr (by omega) (by omega))) ?_
   refine asr (lr _) rfl ?_
   refine sq_nil (aw_region ?_)
   refine mvr (lr _) rfl ?_
   refine sq_ev rfl (ev_add (lr _) (lr _) (wr (by omega) (by omega))) ?_
   refine asr (lr _) rfl ?_
   refine sq_nil ?_
   exact ⟨⟨i + 1, by omega⟩, by simp only; omega, Sub.slots ⟨lr _, (by exact less_int eE), lr _, lr _, lr _, lr _, trivial⟩⟩
  ·
   have c2' := c2
   try simp only [qq] at c2'
   have eE : endI p l ls k i = endI p l ls k (i + 1) := by rw [endI, hgd, hgl, he, if_neg c2']; omega
   refine aw_skip (aw_region ?_)
   refine mvr (lr _) rfl ?_
   refine sq_ev rfl (ev_add (lr _) (lr _) (wr (by omega) (by omega))) ?_
   refine asr (lr _) rfl ?_
   refine sq_nil ?_
   exact ⟨⟨i + 1, by omega⟩, by simp only; omega, Sub.slots ⟨lr _, (by exact less_int eE), lr _, lr _, lr _, lr _, trivial⟩⟩
 ·
  have c1' := c1
  try simp only [qq] at c1'
  obtain rfl : i = l.length := by omega
  refine aw_exit (aw_seq (aw_region ?_))
  refine mvr (lr _) rfl ?_
  refine asr (lr _) rfl ?_
  refine sq_nil (aw_ret ?_)
  exact retQ_pure (v := .raw _) rfl rfl (Less.eq (by rfl))

set_option maxHeartbeats 1000000 in
/-- kelir/kelirref03.Fits -/
theorem rfits_pure (p : Pl) (l : List Nat) (ls : List Int) (gp : GP p) (cv : CV p l) (hls : l.length = ls.length) (hb : ∀ x ∈ ls, 0 ≤ x ∧ x ≤ 10000) : APure Tryz.prog 79 [plan p, nats l, ints ls] (B (rfits p l ls)) := by
 refine apure_of (rs := [.tmp 6]) Tryz.func79 rfl rfl (Nat.le_of_ble_eq_true rfl) (by simp [AV.pureL, AV.pureB, AV.pureE, pureE_map]) (rfl) fun e0 he0 => ?_
 refine aw_seq (aw_region ?_)
 refine sq_box rfl (lr _) rfl ?_
 refine asr (lr _) rfl ?_
 refine sq_nil (aw_seq (aw_seq (aw_region ?_)))
 refine asr (lr _) rfl ?_
 refine sq_nil (aw_block ?_)
 refine aw_loopk (ι := { k : Nat // k ≤ 3 ∧ ∀ i, (h : i < 3) → i < k → rfBad p l ls i h = false }) [1, 2, 3] (fun i => [(7, I i.1)]) (fun H i => H) (fun i => 3 - i.1) (⟨0, Nat.zero_le _, by omega⟩) ⟨lr _, lr _, lr _, lr _, trivial⟩ rfl ?_
 rintro ⟨k, hk, hok⟩
 dsimp only [keepS, St.put, sget, slotsOf, List.map_cons, List.map_nil, List.cons_append, List.nil_append, List.length_cons, List.length_nil, Nat.reduceBEq, Nat.reduceAdd, cond_true, cond_false]
 refine aw_seq (aw_seq (aw_region ?_))
 refine mvr (lr _) rfl ?_
 refine sq_ev rfl (ev_lss (lr _) (lr _)) ?_
 refine sq_nil ?_
 refine aw_cond (lr _) (fun c1 => ?_) (fun c1 => ?_)
 ·
  have c1' := c1
  try simp only [qq] at c1'
  have hk3 : k < 3 := by omega
  refine aw_skip (aw_seq (aw_block (aw_seq (aw_region ?_))))
  refine sq_ev rfl (ev_load_agg (lr _) rfl ty27 rfl) ?_
  refine mvr (lr _) rfl ?_
  refine sq_ev rfl (ev_call en39 (lr _) (rwindow_pure p k hk3) ⟨lr _, lr _, trivial⟩) ?_
  refine sq_alloc rfl z23 ?_
  refine sq_store rfl (lr _) (lr _) rfl rfl ty23 rfl rfl ?_
  refine sq_nil (aw_seq ?_)
  refine aw_draw 11 mo (by kernel_rfl) ?_
  refine dr_ev rfl (ev_load_agg (lr _) rfl ty27 rfl) ?_
  refine dr_ev rfl (ev_mv (v := .sl _ _) (lr _)) ?_
  refine dr_ev rfl (ev_mv (v := .sl _ _) (lr _)) ?_
  refine dr_ev rfl (ev_mv (v := .raw _) (lr _)) ?_
  refine dr_ev rfl (ev_call en61 (lr _) (rend_pure p l ls k gp cv hls hb) ⟨lr _, lr _, lr _, lr _, trivial⟩) ?_
  refine dr_ev rfl (ev_fieldAddr fo23_0 (lr _)) ?_
  refine dr_ev rfl (ev_load (lr _) rfl ty3 rfl) ?_
  refine dr_ev rfl (ev_fieldAddr fo23_1 (lr _)) ?_
  refine dr_ev rfl (ev_load (lr _) rfl ty3 rfl) ?_
  refine dr_ev rfl (ev_call en89 (lr _) (in_pure _ _ _) ⟨lr _, lr _, lr _, trivial⟩) ?_
  refine dr_ev rfl (ev_not (lr _)) ?_
  refine dr_end (sq_nil ?_)
  refine aw_cond (lr _) (fun c2 => ?_) (fun c2 => ?_)
  ·
   have c2' := c2
   try simp only [qq] at c2'
   refine aw_seq (aw_region ?_)
   refine asr (lr _) rfl ?_
   refine sq_nil (aw_ret ?_)
   exact retQ_pure (v := .raw _) rfl rfl (Less.eq (by rw [rfits, okAll_bad (i := k) (by omega) (by first | (simp [rfBad, *]; done) | (simp_all [rfBad]; done))]))
  ·
   have c2' := c2
   try simp only [qq] at c2'
   refine aw_skip (aw_region ?_)
   refine mvr (lr _) rfl ?_
   refine sq_ev rfl (ev_add (lr _) (lr _) (wr (by omega) (by omega))) ?_
   refine asr (lr _) rfl ?_
   refine sq_nil ?_
   have hgood : rfBad p l ls k (by omega) = false := by first | (simp [rfBad, *]; done) | (simp_all [rfBad]; done)
   exact ⟨⟨k + 1, by omega, fun i h hi => (by by_cases e : i = k; (subst e; exact hgood); exact hok i h (by omega))⟩, by simp only; omega, Sub.fin 1 ⟨lr _, lr _, lr _, lr _, trivial⟩ rfl (by simp [slotsIn, objsIn, sget, keepS, AObj.inB, AV.inB, AV.inL, AV.inE, inE_map, inE_ints, inE_sc, -List.map_append, -List.map_take, -List.map_map]) (by simp [slotsIn, objsIn, sget, keepS, AObj.inB, AV.inB, AV.inL, AV.inE, inE_map, inE_ints, inE_sc, -List.map_append, -List.map_take, -List.map_map]) (by simp [he0])⟩
 ·
  have c1' := c1
  try simp only [qq] at c1'
  refine aw_exit (aw_seq (aw_region ?_))
  refine asr (lr _) rfl ?_
  refine sq_nil (aw_ret ?_)
  exact retQ_pure (v := .raw _) rfl rfl (Less.eq (by rw [rfits, okAll_end hk c1' hok]))


end Go.Proofs.YtjghdbdiejaacaaGreatDoor

namespace Go.Proofs.YtjghdbdiejaacaaGreatDoor
open Go Go.Ab Ni


theorem slim_no {l : List Int} (h : ¬ l.length ≤ 12) : APure Tryz.prog 45 [ints l] (B false) := by have := rslim_pure l; simpa [h] using this
theorem slim_yes {l : List Int} (h : l.length ≤ 12) : APure Tryz.prog 45 [ints l] (B true) := by have := rslim_pure l; simpa [h] using this
theorem ints_up (l : List Nat) : ints (up l) = nats l := by simp only [ints, eup]
theorem slim_yesN {l : List Nat} (h : l.length ≤ 12) : APure Tryz.prog 45 [nats l] (B true) := by have := slim_yes (l := up l) (by simpa [up] using h); rwa [ints_up] at this
end Go.Proofs.YtjghdbdiejaacaaGreatDoor

namespace Go.Proofs.YtjghdbdiejaacaaGreatDoor
open Go Go.Ab Ni
theorem un4 : Tryz.prog.underlying 4 = some .bool := by kernel_rfl

theorem ck_no {p : Pl} (hs : p.scenes.length ≤ 12) (h : PlOK p = false) : APure Tryz.prog 75 [plan p] (I 2) := by have := nCheck_pure p (by omega); simpa [h] using this
theorem ck_yes {p : Pl} (hs : p.scenes.length ≤ 12) (h : PlOK p = true) : APure Tryz.prog 75 [plan p] (I 0) := by have := nCheck_pure p (by omega); simpa [h] using this
theorem al_no {p : Pl} {l : List Int} (hs : p.scenes.length ≤ 12) (hl : l.length ≤ 12) (h : ¬ (PlOK p = true ∧ Ris p l = true)) : APure Tryz.prog 76 [plan p, ints l] (.tup [B false, I 2]) := by
  have := nAllowed_pure p l (by omega) (by omega); unfold allowedAV at this; rwa [if_neg h] at this
theorem al_yes {p : Pl} {l : List Int} (hs : p.scenes.length ≤ 12) (hl : l.length ≤ 12) (h : PlOK p = true) (k : Ris p l = true) : APure Tryz.prog 76 [plan p, ints l] (.tup [B (isCh p l), I 0]) := by
  have := nAllowed_pure p l (by omega) (by omega); unfold allowedAV at this; rwa [if_pos ⟨h, k⟩] at this
theorem ft_no {p : Pl} {l ls : List Int} (hs : p.scenes.length ≤ 12) (hl : l.length ≤ 12) (h : chosenB p l = false) : APure Tryz.prog 59 [plan p, ints l, ints ls] (.tup [B false, I 2]) := by
  have := nFits_pure p l ls (by omega) (by omega); unfold nfitsAV at this; rwa [if_neg (by simp [h])] at this
theorem ft_noL {p : Pl} {l : List Nat} {ls : List Int} (hs : p.scenes.length ≤ 12) (hl : l.length ≤ 12) (h : lastsP p l ls = false) : APure Tryz.prog 59 [plan p, nats l, ints ls] (.tup [B false, I 2]) := by
  have := nFits_pure p (up l) ls (by omega) (by simp [up]; omega); unfold nfitsAV at this; rwa [if_neg (by simp [dn_up, h]), ints_up] at this
theorem ft_yes {p : Pl} {l : List Nat} {ls : List Int} (hs : p.scenes.length ≤ 12) (hl : l.length ≤ 12) (hc : chosenB p (up l) = true) (h : lastsP p l ls = true) : APure Tryz.prog 59 [plan p, nats l, ints ls] (.tup [B (canP (pFF p l ls) l), I 0]) := by
  have := nFits_pure p (up l) ls (by omega) (by simp [up]; omega); unfold nfitsAV at this; rwa [if_pos ⟨hc, by rw [dn_up]; exact h⟩, ints_up, dn_up] at this
theorem cn_no {p : Pl} {l : List Int} (hs : p.scenes.length ≤ 12) (hl : l.length ≤ 12) (h : chosenB p l = false) : APure Tryz.prog 55 [plan p, ints l] (.tup [B false, I 2]) := by
  have := nCan_pure p l (by omega) (by omega); unfold canAV at this; rwa [if_neg (by simp [h])] at this
theorem cn_yes {p : Pl} {l : List Nat} (hs : p.scenes.length ≤ 12) (hl : l.length ≤ 12) (hc : chosenB p (up l) = true) : APure Tryz.prog 55 [plan p, nats l] (.tup [B (canP p l), I 0]) := by
  have := nCan_pure p (up l) (by omega) (by simp [up]; omega); unfold canAV at this; rwa [if_pos hc, ints_up, dn_up] at this
theorem can_pureP {p : Pl} {l : List Nat} (gp : GP p) (wp : WP p) (cv : CV p l) : APure Tryz.prog 48 [plan p, nats l] (B (canP p l)) := by rw [canP_can wp cv]; exact can_pure p l gp cv
theorem ri_pure {p : Pl} {l : List Int} {b : Bool} (hs : p.scenes.length ≤ 12) (hl : l.length ≤ 12) (h : Ris p l = b) : APure Tryz.prog 77 [plan p, ints l] (B b) := by subst h; exact rising_pure p l (by omega) (by omega)
theorem ic_pure {p : Pl} {l : List Int} {b : Bool} (hs : p.scenes.length ≤ 12) (hl : l.length ≤ 12) (h : isCh p l = b) : APure Tryz.prog 78 [plan p, ints l] (B b) := by subst h; exact choice_pure p l (by omega) (by omega)
theorem ri_pureN {p : Pl} {l : List Nat} {b : Bool} (hs : p.scenes.length ≤ 12) (hl : l.length ≤ 12) (h : Ris p (up l) = b) : APure Tryz.prog 77 [plan p, nats l] (B b) := by have := ri_pure (l := up l) hs (by simpa [up] using hl) h; rwa [ints_up] at this
theorem ic_pureN {p : Pl} {l : List Nat} {b : Bool} (hs : p.scenes.length ≤ 12) (hl : l.length ≤ 12) (h : isCh p (up l) = b) : APure Tryz.prog 78 [plan p, nats l] (B b) := by have := ic_pure (l := up l) hs (by simpa [up] using hl) h; rwa [ints_up] at this
theorem al_yesN {p : Pl} {l : List Nat} (hs : p.scenes.length ≤ 12) (hl : l.length ≤ 12) (h : PlOK p = true) (k : Ris p (up l) = true) (hc : isCh p (up l) = true) : APure Tryz.prog 76 [plan p, nats l] (.tup [B true, I 0]) := by
  have := al_yes (l := up l) hs (by simpa [up] using hl) h k; rwa [ints_up, hc] at this
theorem rft_pure {p : Pl} {l : List Nat} {ls : List Int} (ok : PlOK p = true) (cv : CV p l) (inc : l.Pairwise (· < ·)) (h : lastsP p l ls = true) : APure Tryz.prog 79 [plan p, nats l, ints ls] (B (canP (pFF p l ls) l)) := by
  obtain ⟨gp, wp⟩ := gp_of_ok ok
  obtain ⟨g1, g2, g3⟩ := pF_ok gp wp cv h l.length (Nat.le_refl _)
  have := rfits_pure p l ls gp cv (lasts_at h).1 (lasts_bds gp cv h)
  rw [← fits_iff gp wp cv inc h (parts_ok ok cv)] at this
  have e : canP (pFF p l ls) l = can (pFF p l ls) l := canP_can g2 g3
  rw [e]; exact this
set_option maxHeartbeats 4000000 in
/-- kelir/kelirlaw03.NightFits -/
theorem law18_long (p : Pl) (l ls : List Int) (hs : ¬ p.scenes.length ≤ 12) : APure Tryz.prog 18 [plan p, ints l, ints ls] (B true) := by
  refine apure_of (rs := [.tmp 6]) Tryz.func18 rfl rfl (Nat.le_of_ble_eq_true rfl) (by simp [AV.pureL, AV.pureB, AV.pureE, pureE_map]) (rfl) fun e0 he0 => ?_
  refine aw_seq (aw_region ?_)
  refine sq_box rfl (lr _) rfl ?_
  refine asr (lr _) rfl ?_
  refine sq_nil (aw_seq (aw_seq (aw_region ?_)))
  refine sq_ev rfl (ev_load_agg (lr _) rfl ty27 rfl) ?_
  refine sq_ev rfl (ev_call en20 (lr _) (short_no hs) ⟨lr _, trivial⟩) ?_
  refine sq_ev rfl (ev_not (lr _)) ?_
  refine mvr (lr _) rfl ?_
  refine sq_split 17 (lr _) (fun g1 => ?_) (fun g1 => ?_)
  · skip
    have g1' := g1
    try simp only [qq] at g1'
    refine sq_no rfl rfl (less_b g1) rfl rfl ?_
    refine sq_no rfl rfl (less_b g1) rfl rfl ?_
    refine sq_no rfl rfl (less_b g1) rfl rfl ?_
    refine sq_ev rfl (ev_pickT (v := .raw _) (less_b g1) (lr _)) ?_
    refine mvr (lr _) rfl ?_
    refine sq_no rfl rfl (lr _) rfl rfl ?_
    refine sq_no rfl rfl (lr _) rfl rfl ?_
    refine sq_no rfl rfl (lr _) rfl rfl ?_
    refine sq_ev rfl (ev_pickT (v := .raw _) (lr _) (lr _)) ?_
    refine sq_nil ?_
    refine aw_true (lr _) ?_
    refine aw_seq (aw_region ?_)
    refine sq_ev rfl (ev_call en21 (lr _) (known_pure) trivial) ?_
    refine asr (lr _) rfl ?_
    refine sq_nil (aw_ret ?_)
    exact retQ_pure (v := .raw _) rfl rfl (lr _)
  · skip
    have g1' := g1
    try simp only [qq] at g1'
    first | exact absurd g1 (by decide) | (exfalso; simp at g1; done) | (exfalso; simp at g1; omega)

set_option maxHeartbeats 4000000 in
/-- kelir/kelirlaw03.NightFits -/
theorem law18_slim (p : Pl) (l ls : List Int) (hs : p.scenes.length ≤ 12) (hl : ¬ l.length ≤ 12) : APure Tryz.prog 18 [plan p, ints l, ints ls] (B true) := by
 refine apure_of (rs := [.tmp 6]) Tryz.func18 rfl rfl (Nat.le_of_ble_eq_true rfl) (by simp [AV.pureL, AV.pureB, AV.pureE, pureE_map]) (rfl) fun e0 he0 => ?_
 refine aw_seq (aw_region ?_)
 refine sq_box rfl (lr _) rfl ?_
 refine asr (lr _) rfl ?_
 refine sq_nil (aw_seq (aw_seq (aw_region ?_)))
 refine sq_ev rfl (ev_load_agg (lr _) rfl ty27 rfl) ?_
 refine sq_ev rfl (ev_call en20 (lr _) (short_yes hs) ⟨lr _, trivial⟩) ?_
 refine sq_ev rfl (ev_not (lr _)) ?_
 refine mvr (lr _) rfl ?_
 refine sq_split 17 (lr _) (fun g1 => ?_) (fun g1 => ?_)
 ·
  have g1' := g1
  try simp only [qq] at g1'
  first | exact absurd g1 (by decide) | (exfalso; simp at g1; done) | (exfalso; simp at g1; omega)
 ·
  have g1' := g1
  try simp only [qq] at g1'
  refine sq_yes rfl rfl (less_b g1) rfl (ev_mv (v := .sl _ _) (lr _)) ?_
  refine sq_yes rfl rfl (less_b g1) rfl (ev_call en45 (lr _) (slim_no hl) ⟨lr _, trivial⟩) ?_
  refine sq_yes rfl rfl (less_b g1) rfl (ev_not (lr _)) ?_
  refine sq_ev rfl (ev_pickF (v := .raw _) (less_b g1) (lr _)) ?_
  refine mvr (lr _) rfl ?_
  refine sq_split 22 (lr _) (fun g2 => ?_) (fun g2 => ?_)
  ·
   have g2' := g2
   try simp only [qq] at g2'
   refine sq_no rfl rfl (less_b g2) rfl rfl ?_
   refine sq_no rfl rfl (less_b g2) rfl rfl ?_
   refine sq_no rfl rfl (less_b g2) rfl rfl ?_
   refine sq_ev rfl (ev_pickT (v := .raw _) (less_b g2) (lr _)) ?_
   refine sq_nil ?_
   refine aw_true (lr _) ?_
   refine aw_seq (aw_region ?_)
   refine sq_ev rfl (ev_call en21 (lr _) (known_pure) trivial) ?_
   refine asr (lr _) rfl ?_
   refine sq_nil (aw_ret ?_)
   exact retQ_pure (v := .raw _) rfl rfl (lr _)
  ·
   have g2' := g2
   try simp only [qq] at g2'
   first | exact absurd g2 (by decide) | (exfalso; simp at g2; done) | (exfalso; simp at g2; omega)

set_option maxHeartbeats 4000000 in
/-- kelir/kelirlaw03.NightFits -/
theorem law18_slims (p : Pl) (l ls : List Int) (hs : p.scenes.length ≤ 12) (hl : l.length ≤ 12) (hls : ¬ ls.length ≤ 12) : APure Tryz.prog 18 [plan p, ints l, ints ls] (B true) := by
 refine apure_of (rs := [.tmp 6]) Tryz.func18 rfl rfl (Nat.le_of_ble_eq_true rfl) (by simp [AV.pureL, AV.pureB, AV.pureE, pureE_map]) (rfl) fun e0 he0 => ?_
 refine aw_seq (aw_region ?_)
 refine sq_box rfl (lr _) rfl ?_
 refine asr (lr _) rfl ?_
 refine sq_nil (aw_seq (aw_seq (aw_region ?_)))
 refine sq_ev rfl (ev_load_agg (lr _) rfl ty27 rfl) ?_
 refine sq_ev rfl (ev_call en20 (lr _) (short_yes hs) ⟨lr _, trivial⟩) ?_
 refine sq_ev rfl (ev_not (lr _)) ?_
 refine mvr (lr _) rfl ?_
 refine sq_split 17 (lr _) (fun g1 => ?_) (fun g1 => ?_)
 ·
  have g1' := g1
  try simp only [qq] at g1'
  first | exact absurd g1 (by decide) | (exfalso; simp at g1; done) | (exfalso; simp at g1; omega)
 ·
  have g1' := g1
  try simp only [qq] at g1'
  refine sq_yes rfl rfl (less_b g1) rfl (ev_mv (v := .sl _ _) (lr _)) ?_
  refine sq_yes rfl rfl (less_b g1) rfl (ev_call en45 (lr _) (slim_yes hl) ⟨lr _, trivial⟩) ?_
  refine sq_yes rfl rfl (less_b g1) rfl (ev_not (lr _)) ?_
  refine sq_ev rfl (ev_pickF (v := .raw _) (less_b g1) (lr _)) ?_
  refine mvr (lr _) rfl ?_
  refine sq_split 22 (lr _) (fun g2 => ?_) (fun g2 => ?_)
  ·
   have g2' := g2
   try simp only [qq] at g2'
   first | exact absurd g2 (by decide) | (exfalso; simp at g2; done) | (exfalso; simp at g2; omega)
  ·
   have g2' := g2
   try simp only [qq] at g2'
   refine sq_yes rfl rfl (less_b g2) rfl (ev_mv (v := .sl _ _) (lr _)) ?_
   refine sq_yes rfl rfl (less_b g2) rfl (ev_call en45 (lr _) (slim_no hls) ⟨lr _, trivial⟩) ?_
   refine sq_yes rfl rfl (less_b g2) rfl (ev_not (lr _)) ?_
   refine sq_ev rfl (ev_pickF (v := .raw _) (less_b g2) (lr _)) ?_
   refine sq_nil ?_
   refine aw_cond (lr _) (fun c3 => ?_) (fun c3 => ?_)
   ·
    have c3' := c3
    try simp only [qq] at c3'
    refine aw_seq (aw_region ?_)
    refine sq_ev rfl (ev_call en21 (lr _) (known_pure) trivial) ?_
    refine asr (lr _) rfl ?_
    refine sq_nil (aw_ret ?_)
    exact retQ_pure (v := .raw _) rfl rfl (lr _)
   ·
    have c3' := c3
    try simp only [qq] at c3'
    first | exact absurd c3 (by decide) | (exfalso; simp at c3; done) | (exfalso; simp at c3; omega)

set_option maxHeartbeats 4000000 in
/-- kelir/kelirlaw03.NightFits -/
theorem law18_bad (p : Pl) (l ls : List Int) (hs : p.scenes.length ≤ 12) (hl : l.length ≤ 12) (hls : ls.length ≤ 12) (hk : PlOK p = false) : APure Tryz.prog 18 [plan p, ints l, ints ls] (B true) := by
 refine apure_of (rs := [.tmp 6]) Tryz.func18 rfl rfl (Nat.le_of_ble_eq_true rfl) (by simp [AV.pureL, AV.pureB, AV.pureE, pureE_map]) (rfl) fun e0 he0 => ?_
 refine aw_seq (aw_region ?_)
 refine sq_box rfl (lr _) rfl ?_
 refine asr (lr _) rfl ?_
 refine sq_nil (aw_seq (aw_seq (aw_region ?_)))
 refine sq_ev rfl (ev_load_agg (lr _) rfl ty27 rfl) ?_
 refine sq_ev rfl (ev_call en20 (lr _) (short_yes hs) ⟨lr _, trivial⟩) ?_
 refine sq_ev rfl (ev_not (lr _)) ?_
 refine mvr (lr _) rfl ?_
 refine sq_split 17 (lr _) (fun g1 => ?_) (fun g1 => ?_)
 ·
  have g1' := g1
  try simp only [qq] at g1'
  first | exact absurd g1 (by decide) | (exfalso; simp at g1; done) | (exfalso; simp at g1; omega)
 ·
  have g1' := g1
  try simp only [qq] at g1'
  refine sq_yes rfl rfl (less_b g1) rfl (ev_mv (v := .sl _ _) (lr _)) ?_
  refine sq_yes rfl rfl (less_b g1) rfl (ev_call en45 (lr _) (slim_yes hl) ⟨lr _, trivial⟩) ?_
  refine sq_yes rfl rfl (less_b g1) rfl (ev_not (lr _)) ?_
  refine sq_ev rfl (ev_pickF (v := .raw _) (less_b g1) (lr _)) ?_
  refine mvr (lr _) rfl ?_
  refine sq_split 22 (lr _) (fun g2 => ?_) (fun g2 => ?_)
  ·
   have g2' := g2
   try simp only [qq] at g2'
   first | exact absurd g2 (by decide) | (exfalso; simp at g2; done) | (exfalso; simp at g2; omega)
  ·
   have g2' := g2
   try simp only [qq] at g2'
   refine sq_yes rfl rfl (less_b g2) rfl (ev_mv (v := .sl _ _) (lr _)) ?_
   refine sq_yes rfl rfl (less_b g2) rfl (ev_call en45 (lr _) (slim_yes hls) ⟨lr _, trivial⟩) ?_
   refine sq_yes rfl rfl (less_b g2) rfl (ev_not (lr _)) ?_
   refine sq_ev rfl (ev_pickF (v := .raw _) (less_b g2) (lr _)) ?_
   refine sq_nil ?_
   refine aw_cond (lr _) (fun c3 => ?_) (fun c3 => ?_)
   ·
    have c3' := c3
    try simp only [qq] at c3'
    first | exact absurd c3 (by decide) | (exfalso; simp at c3; done) | (exfalso; simp at c3; omega)
   ·
    have c3' := c3
    try simp only [qq] at c3'
    refine aw_skip (aw_seq (aw_region ?_))
    refine sq_ev rfl (ev_load_agg (lr _) rfl ty27 rfl) ?_
    refine sq_ev rfl (ev_call en75 (lr _) (ck_no hs hk) ⟨lr _, trivial⟩) ?_
    refine asr (lr _) rfl ?_
    refine sq_nil (aw_seq (aw_region ?_))
    refine sq_ev rfl (ev_load_agg (lr _) rfl ty27 rfl) ?_
    refine sq_ev rfl (ev_mv (v := .sl _ _) (lr _)) ?_
    refine sq_ev rfl (ev_call en76 (lr _) (al_no hs hl (by simp [hk])) ⟨lr _, lr _, trivial⟩) ?_
    refine sq_ev rfl (ev_mv (v := .tup _) (lr _)) ?_
    refine sq_ev rfl (ev_extract (lr _) rfl) ?_
    refine sq_ev rfl (ev_extract (lr _) rfl) ?_
    refine asr (lr _) rfl ?_
    refine asr (lr _) rfl ?_
    refine sq_nil (aw_seq (aw_region ?_))
    refine sq_ev rfl (ev_load_agg (lr _) rfl ty27 rfl) ?_
    refine sq_ev rfl (ev_mv (v := .sl _ _) (lr _)) ?_
    refine sq_ev rfl (ev_mv (v := .sl _ _) (lr _)) ?_
    refine sq_ev rfl (ev_call en59 (lr _) (ft_no hs hl (by simp [chosenB, hk])) ⟨lr _, lr _, lr _, trivial⟩) ?_
    refine sq_ev rfl (ev_mv (v := .tup _) (lr _)) ?_
    refine sq_ev rfl (ev_extract (lr _) rfl) ?_
    refine sq_ev rfl (ev_extract (lr _) rfl) ?_
    refine asr (lr _) rfl ?_
    refine asr (lr _) rfl ?_
    refine sq_nil (aw_seq (aw_region ?_))
    refine sq_ev rfl (ev_load_agg (lr _) rfl ty27 rfl) ?_
    refine sq_ev rfl (ev_mv (v := .sl _ _) (lr _)) ?_
    refine sq_ev rfl (ev_call en55 (lr _) (cn_no hs hl (by simp [chosenB, hk])) ⟨lr _, lr _, trivial⟩) ?_
    refine sq_ev rfl (ev_mv (v := .tup _) (lr _)) ?_
    refine sq_ev rfl (ev_extract (lr _) rfl) ?_
    refine sq_ev rfl (ev_extract (lr _) rfl) ?_
    refine asr (lr _) rfl ?_
    refine asr (lr _) rfl ?_
    refine sq_nil (aw_seq (aw_seq (aw_region ?_)))
    refine sq_ev rfl (ev_load_agg (lr _) rfl ty27 rfl) ?_
    refine sq_ev rfl (ev_call en24 (lr _) (plan_no hs hk) ⟨lr _, trivial⟩) ?_
    refine sq_ev rfl (ev_not (lr _)) ?_
    refine mvr (lr _) rfl ?_
    refine sq_split 52 (lr _) (fun g4 => ?_) (fun g4 => ?_)
    ·
     have g4' := g4
     try simp only [qq] at g4'
     refine sq_no rfl rfl (less_b g4) rfl rfl ?_
     refine sq_no rfl rfl (less_b g4) rfl rfl ?_
     refine sq_no rfl rfl (less_b g4) rfl rfl ?_
     refine sq_no rfl rfl (less_b g4) rfl rfl ?_
     refine sq_ev rfl (ev_pickT (v := .raw _) (less_b g4) (lr _)) ?_
     refine sq_nil ?_
     refine aw_true (lr _) ?_
     refine aw_seq (aw_region ?_)
     refine mvr (lr _) rfl ?_
     refine sq_ev rfl (ev_eql (lr _) (lr _)) ?_
     refine sq_ev rfl (ev_load_agg (lr _) rfl ty27 rfl) ?_
     refine sq_ev rfl (ev_call en24 (lr _) (plan_no hs hk) ⟨lr _, trivial⟩) ?_
     refine sq_ev rfl (ev_eqlB un4 (lr _) (lr _)) ?_
     refine mvr (lr _) rfl ?_
     refine sq_split 63 (lr _) (fun g5 => ?_) (fun g5 => ?_)
     ·
      have g5' := g5
      try simp only [qq] at g5'
      refine sq_yes rfl rfl (less_b g5) rfl (ev_mv (v := .raw _) (lr _)) ?_
      refine sq_yes rfl rfl (less_b g5) rfl (ev_eql (lr _) (lr _)) ?_
      refine sq_yes rfl rfl (less_b g5) rfl (ev_mv (v := .raw _) (lr _)) ?_
      refine sq_split 66 (lr _) (fun g6 => ?_) (fun g6 => ?_)
      ·
       have g6' := g6
       try simp only [qq] at g6'
       first | exact absurd g6 (by decide) | (exfalso; simp at g6; done) | (exfalso; simp at g6; omega)
      ·
       have g6' := g6
       try simp only [qq] at g6'
       refine sq_yes rfl rfl (less_b g6) rfl (ev_mv (v := .raw _) (lr _)) ?_
       refine sq_yes rfl rfl (less_b g6) rfl (ev_eql (lr _) (lr _)) ?_
       refine sq_yes rfl rfl (less_b g5) rfl (ev_pickF (v := .raw _) (less_b g6) (lr _)) ?_
       refine sq_ev rfl (ev_pickT (v := .raw _) (less_b g5) (lr _)) ?_
       refine mvr (lr _) rfl ?_
       refine sq_split 71 (lr _) (fun g7 => ?_) (fun g7 => ?_)
       ·
        have g7' := g7
        try simp only [qq] at g7'
        refine sq_yes rfl rfl (less_b g7) rfl (ev_mv (v := .raw _) (lr _)) ?_
        refine sq_yes rfl rfl (less_b g7) rfl (ev_eql (lr _) (lr _)) ?_
        refine sq_ev rfl (ev_pickT (v := .raw _) (less_b g7) (lr _)) ?_
        refine mvr (lr _) rfl ?_
        refine sq_split 75 (lr _) (fun g8 => ?_) (fun g8 => ?_)
        ·
         have g8' := g8
         try simp only [qq] at g8'
         refine sq_yes rfl rfl (less_b g8) rfl (ev_mv (v := .raw _) (lr _)) ?_
         refine sq_yes rfl rfl (less_b g8) rfl (ev_not (lr _)) ?_
         refine sq_ev rfl (ev_pickT (v := .raw _) (less_b g8) (lr _)) ?_
         refine mvr (lr _) rfl ?_
         refine sq_split 79 (lr _) (fun g9 => ?_) (fun g9 => ?_)
         ·
          have g9' := g9
          try simp only [qq] at g9'
          refine sq_yes rfl rfl (less_b g9) rfl (ev_mv (v := .raw _) (lr _)) ?_
          refine sq_yes rfl rfl (less_b g9) rfl (ev_eql (lr _) (lr _)) ?_
          refine sq_ev rfl (ev_pickT (v := .raw _) (less_b g9) (lr _)) ?_
          refine mvr (lr _) rfl ?_
          refine sq_split 83 (lr _) (fun g10 => ?_) (fun g10 => ?_)
          ·
           have g10' := g10
           try simp only [qq] at g10'
           refine sq_yes rfl rfl (less_b g10) rfl (ev_mv (v := .raw _) (lr _)) ?_
           refine sq_yes rfl rfl (less_b g10) rfl (ev_not (lr _)) ?_
           refine sq_ev rfl (ev_pickT (v := .raw _) (less_b g10) (lr _)) ?_
           refine mvr (lr _) rfl ?_
           refine sq_split 87 (lr _) (fun g11 => ?_) (fun g11 => ?_)
           ·
            have g11' := g11
            try simp only [qq] at g11'
            refine sq_yes rfl rfl (less_b g11) rfl (ev_mv (v := .raw _) (lr _)) ?_
            refine sq_yes rfl rfl (less_b g11) rfl (ev_eql (lr _) (lr _)) ?_
            refine sq_ev rfl (ev_pickT (v := .raw _) (less_b g11) (lr _)) ?_
            refine mvr (lr _) rfl ?_
            refine sq_split 91 (lr _) (fun g12 => ?_) (fun g12 => ?_)
            ·
             have g12' := g12
             try simp only [qq] at g12'
             refine sq_yes rfl rfl (less_b g12) rfl (ev_mv (v := .raw _) (lr _)) ?_
             refine sq_yes rfl rfl (less_b g12) rfl (ev_not (lr _)) ?_
             refine sq_ev rfl (ev_pickT (v := .raw _) (less_b g12) (lr _)) ?_
             refine mvr (lr _) rfl ?_
             refine sq_split 95 (lr _) (fun g13 => ?_) (fun g13 => ?_)
             ·
              have g13' := g13
              try simp only [qq] at g13'
              refine sq_yes rfl rfl (less_b g13) rfl (ev_call en21 (lr _) (known_pure) trivial) ?_
              refine sq_ev rfl (ev_pickT (v := .raw _) (less_b g13) (lr _)) ?_
              refine asr (lr _) rfl ?_
              refine sq_nil (aw_ret ?_)
              exact retQ_pure (v := .raw _) rfl rfl (lr _)
             ·
              have g13' := g13
              try simp only [qq] at g13'
              first | exact absurd g13 (by decide) | (exfalso; simp at g13; done) | (exfalso; simp at g13; omega)
            ·
             have g12' := g12
             try simp only [qq] at g12'
             first | exact absurd g12 (by decide) | (exfalso; simp at g12; done) | (exfalso; simp at g12; omega)
           ·
            have g11' := g11
            try simp only [qq] at g11'
            first | exact absurd g11 (by decide) | (exfalso; simp at g11; done) | (exfalso; simp at g11; omega)
          ·
           have g10' := g10
           try simp only [qq] at g10'
           first | exact absurd g10 (by decide) | (exfalso; simp at g10; done) | (exfalso; simp at g10; omega)
         ·
          have g9' := g9
          try simp only [qq] at g9'
          first | exact absurd g9 (by decide) | (exfalso; simp at g9; done) | (exfalso; simp at g9; omega)
        ·
         have g8' := g8
         try simp only [qq] at g8'
         first | exact absurd g8 (by decide) | (exfalso; simp at g8; done) | (exfalso; simp at g8; omega)
       ·
        have g7' := g7
        try simp only [qq] at g7'
        first | exact absurd g7 (by decide) | (exfalso; simp at g7; done) | (exfalso; simp at g7; omega)
     ·
      have g5' := g5
      try simp only [qq] at g5'
      first | exact absurd g5 (by decide) | (exfalso; simp at g5; done) | (exfalso; simp at g5; omega)
    ·
     have g4' := g4
     try simp only [qq] at g4'
     first | exact absurd g4 (by decide) | (exfalso; simp at g4; done) | (exfalso; simp at g4; omega)

set_option maxHeartbeats 4000000 in
/-- kelir/kelirlaw03.NightFits -/
theorem law18_ris (p : Pl) (l ls : List Int) (hs : p.scenes.length ≤ 12) (hl : l.length ≤ 12) (hls : ls.length ≤ 12) (hk : PlOK p = true) (hr : Ris p l = false) : APure Tryz.prog 18 [plan p, ints l, ints ls] (B true) := by
 refine apure_of (rs := [.tmp 6]) Tryz.func18 rfl rfl (Nat.le_of_ble_eq_true rfl) (by simp [AV.pureL, AV.pureB, AV.pureE, pureE_map]) (rfl) fun e0 he0 => ?_
 refine aw_seq (aw_region ?_)
 refine sq_box rfl (lr _) rfl ?_
 refine asr (lr _) rfl ?_
 refine sq_nil (aw_seq (aw_seq (aw_region ?_)))
 refine sq_ev rfl (ev_load_agg (lr _) rfl ty27 rfl) ?_
 refine sq_ev rfl (ev_call en20 (lr _) (short_yes hs) ⟨lr _, trivial⟩) ?_
 refine sq_ev rfl (ev_not (lr _)) ?_
 refine mvr (lr _) rfl ?_
 refine sq_split 17 (lr _) (fun g1 => ?_) (fun g1 => ?_)
 ·
  have g1' := g1
  try simp only [qq] at g1'
  first | exact absurd g1 (by decide) | (exfalso; simp at g1; done) | (exfalso; simp at g1; omega)
 ·
  have g1' := g1
  try simp only [qq] at g1'
  refine sq_yes rfl rfl (less_b g1) rfl (ev_mv (v := .sl _ _) (lr _)) ?_
  refine sq_yes rfl rfl (less_b g1) rfl (ev_call en45 (lr _) (slim_yes hl) ⟨lr _, trivial⟩) ?_
  refine sq_yes rfl rfl (less_b g1) rfl (ev_not (lr _)) ?_
  refine sq_ev rfl (ev_pickF (v := .raw _) (less_b g1) (lr _)) ?_
  refine mvr (lr _) rfl ?_
  refine sq_split 22 (lr _) (fun g2 => ?_) (fun g2 => ?_)
  ·
   have g2' := g2
   try simp only [qq] at g2'
   first | exact absurd g2 (by decide) | (exfalso; simp at g2; done) | (exfalso; simp at g2; omega)
  ·
   have g2' := g2
   try simp only [qq] at g2'
   refine sq_yes rfl rfl (less_b g2) rfl (ev_mv (v := .sl _ _) (lr _)) ?_
   refine sq_yes rfl rfl (less_b g2) rfl (ev_call en45 (lr _) (slim_yes hls) ⟨lr _, trivial⟩) ?_
   refine sq_yes rfl rfl (less_b g2) rfl (ev_not (lr _)) ?_
   refine sq_ev rfl (ev_pickF (v := .raw _) (less_b g2) (lr _)) ?_
   refine sq_nil ?_
   refine aw_cond (lr _) (fun c3 => ?_) (fun c3 => ?_)
   ·
    have c3' := c3
    try simp only [qq] at c3'
    first | exact absurd c3 (by decide) | (exfalso; simp at c3; done) | (exfalso; simp at c3; omega)
   ·
    have c3' := c3
    try simp only [qq] at c3'
    refine aw_skip (aw_seq (aw_region ?_))
    refine sq_ev rfl (ev_load_agg (lr _) rfl ty27 rfl) ?_
    refine sq_ev rfl (ev_call en75 (lr _) (ck_yes hs hk) ⟨lr _, trivial⟩) ?_
    refine asr (lr _) rfl ?_
    refine sq_nil (aw_seq (aw_region ?_))
    refine sq_ev rfl (ev_load_agg (lr _) rfl ty27 rfl) ?_
    refine sq_ev rfl (ev_mv (v := .sl _ _) (lr _)) ?_
    refine sq_ev rfl (ev_call en76 (lr _) (al_no hs hl (by simp [hr])) ⟨lr _, lr _, trivial⟩) ?_
    refine sq_ev rfl (ev_mv (v := .tup _) (lr _)) ?_
    refine sq_ev rfl (ev_extract (lr _) rfl) ?_
    refine sq_ev rfl (ev_extract (lr _) rfl) ?_
    refine asr (lr _) rfl ?_
    refine asr (lr _) rfl ?_
    refine sq_nil (aw_seq (aw_region ?_))
    refine sq_ev rfl (ev_load_agg (lr _) rfl ty27 rfl) ?_
    refine sq_ev rfl (ev_mv (v := .sl _ _) (lr _)) ?_
    refine sq_ev rfl (ev_mv (v := .sl _ _) (lr _)) ?_
    refine sq_ev rfl (ev_call en59 (lr _) (ft_no hs hl (by simp [chosenB, hr])) ⟨lr _, lr _, lr _, trivial⟩) ?_
    refine sq_ev rfl (ev_mv (v := .tup _) (lr _)) ?_
    refine sq_ev rfl (ev_extract (lr _) rfl) ?_
    refine sq_ev rfl (ev_extract (lr _) rfl) ?_
    refine asr (lr _) rfl ?_
    refine asr (lr _) rfl ?_
    refine sq_nil (aw_seq (aw_region ?_))
    refine sq_ev rfl (ev_load_agg (lr _) rfl ty27 rfl) ?_
    refine sq_ev rfl (ev_mv (v := .sl _ _) (lr _)) ?_
    refine sq_ev rfl (ev_call en55 (lr _) (cn_no hs hl (by simp [chosenB, hr])) ⟨lr _, lr _, trivial⟩) ?_
    refine sq_ev rfl (ev_mv (v := .tup _) (lr _)) ?_
    refine sq_ev rfl (ev_extract (lr _) rfl) ?_
    refine sq_ev rfl (ev_extract (lr _) rfl) ?_
    refine asr (lr _) rfl ?_
    refine asr (lr _) rfl ?_
    refine sq_nil (aw_seq (aw_seq (aw_region ?_)))
    refine sq_ev rfl (ev_load_agg (lr _) rfl ty27 rfl) ?_
    refine sq_ev rfl (ev_call en24 (lr _) (plan_yes hs hk) ⟨lr _, trivial⟩) ?_
    refine sq_ev rfl (ev_not (lr _)) ?_
    refine mvr (lr _) rfl ?_
    refine sq_split 52 (lr _) (fun g4 => ?_) (fun g4 => ?_)
    ·
     have g4' := g4
     try simp only [qq] at g4'
     first | exact absurd g4 (by decide) | (exfalso; simp at g4; done) | (exfalso; simp at g4; omega)
    ·
     have g4' := g4
     try simp only [qq] at g4'
     refine sq_yes rfl rfl (less_b g4) rfl (ev_load_agg (lr _) rfl ty27 rfl) ?_
     refine sq_yes rfl rfl (less_b g4) rfl (ev_mv (v := .sl _ _) (lr _)) ?_
     refine sq_yes rfl rfl (less_b g4) rfl (ev_call en77 (lr _) (ri_pure hs hl hr) ⟨lr _, lr _, trivial⟩) ?_
     refine sq_yes rfl rfl (less_b g4) rfl (ev_not (lr _)) ?_
     refine sq_ev rfl (ev_pickF (v := .raw _) (less_b g4) (lr _)) ?_
     refine sq_nil ?_
     refine aw_cond (lr _) (fun c5 => ?_) (fun c5 => ?_)
     ·
      have c5' := c5
      try simp only [qq] at c5'
      refine aw_seq (aw_region ?_)
      refine mvr (lr _) rfl ?_
      refine sq_ev rfl (ev_eql (lr _) (lr _)) ?_
      refine sq_ev rfl (ev_load_agg (lr _) rfl ty27 rfl) ?_
      refine sq_ev rfl (ev_call en24 (lr _) (plan_yes hs hk) ⟨lr _, trivial⟩) ?_
      refine sq_ev rfl (ev_eqlB un4 (lr _) (lr _)) ?_
      refine mvr (lr _) rfl ?_
      refine sq_split 63 (lr _) (fun g6 => ?_) (fun g6 => ?_)
      ·
       have g6' := g6
       try simp only [qq] at g6'
       refine sq_yes rfl rfl (less_b g6) rfl (ev_mv (v := .raw _) (lr _)) ?_
       refine sq_yes rfl rfl (less_b g6) rfl (ev_eql (lr _) (lr _)) ?_
       refine sq_yes rfl rfl (less_b g6) rfl (ev_mv (v := .raw _) (lr _)) ?_
       refine sq_split 66 (lr _) (fun g7 => ?_) (fun g7 => ?_)
       ·
        have g7' := g7
        try simp only [qq] at g7'
        refine sq_no rfl rfl (less_b g7) rfl rfl ?_
        refine sq_no rfl rfl (less_b g7) rfl rfl ?_
        refine sq_yes rfl rfl (less_b g6) rfl (ev_pickT (v := .raw _) (less_b g7) (lr _)) ?_
        refine sq_ev rfl (ev_pickT (v := .raw _) (less_b g6) (lr _)) ?_
        refine mvr (lr _) rfl ?_
        refine sq_yes rfl rfl (lr _) rfl (ev_mv (v := .raw _) (lr _)) ?_
        refine sq_yes rfl rfl (lr _) rfl (ev_eql (lr _) (lr _)) ?_
        refine sq_ev rfl (ev_pickT (v := .raw _) (lr _) (lr _)) ?_
        refine mvr (lr _) rfl ?_
        refine sq_split 75 (lr _) (fun g8 => ?_) (fun g8 => ?_)
        ·
         have g8' := g8
         try simp only [qq] at g8'
         refine sq_yes rfl rfl (less_b g8) rfl (ev_mv (v := .raw _) (lr _)) ?_
         refine sq_yes rfl rfl (less_b g8) rfl (ev_not (lr _)) ?_
         refine sq_ev rfl (ev_pickT (v := .raw _) (less_b g8) (lr _)) ?_
         refine mvr (lr _) rfl ?_
         refine sq_split 79 (lr _) (fun g9 => ?_) (fun g9 => ?_)
         ·
          have g9' := g9
          try simp only [qq] at g9'
          refine sq_yes rfl rfl (less_b g9) rfl (ev_mv (v := .raw _) (lr _)) ?_
          refine sq_yes rfl rfl (less_b g9) rfl (ev_eql (lr _) (lr _)) ?_
          refine sq_ev rfl (ev_pickT (v := .raw _) (less_b g9) (lr _)) ?_
          refine mvr (lr _) rfl ?_
          refine sq_split 83 (lr _) (fun g10 => ?_) (fun g10 => ?_)
          ·
           have g10' := g10
           try simp only [qq] at g10'
           refine sq_yes rfl rfl (less_b g10) rfl (ev_mv (v := .raw _) (lr _)) ?_
           refine sq_yes rfl rfl (less_b g10) rfl (ev_not (lr _)) ?_
           refine sq_ev rfl (ev_pickT (v := .raw _) (less_b g10) (lr _)) ?_
           refine mvr (lr _) rfl ?_
           refine sq_split 87 (lr _) (fun g11 => ?_) (fun g11 => ?_)
           ·
            have g11' := g11
            try simp only [qq] at g11'
            refine sq_yes rfl rfl (less_b g11) rfl (ev_mv (v := .raw _) (lr _)) ?_
            refine sq_yes rfl rfl (less_b g11) rfl (ev_eql (lr _) (lr _)) ?_
            refine sq_ev rfl (ev_pickT (v := .raw _) (less_b g11) (lr _)) ?_
            refine mvr (lr _) rfl ?_
            refine sq_split 91 (lr _) (fun g12 => ?_) (fun g12 => ?_)
            ·
             have g12' := g12
             try simp only [qq] at g12'
             refine sq_yes rfl rfl (less_b g12) rfl (ev_mv (v := .raw _) (lr _)) ?_
             refine sq_yes rfl rfl (less_b g12) rfl (ev_not (lr _)) ?_
             refine sq_ev rfl (ev_pickT (v := .raw _) (less_b g12) (lr _)) ?_
             refine mvr (lr _) rfl ?_
             refine sq_split 95 (lr _) (fun g13 => ?_) (fun g13 => ?_)
             ·
              have g13' := g13
              try simp only [qq] at g13'
              refine sq_yes rfl rfl (less_b g13) rfl (ev_call en21 (lr _) (known_pure) trivial) ?_
              refine sq_ev rfl (ev_pickT (v := .raw _) (less_b g13) (lr _)) ?_
              refine asr (lr _) rfl ?_
              refine sq_nil (aw_ret ?_)
              exact retQ_pure (v := .raw _) rfl rfl (lr _)
             ·
              have g13' := g13
              try simp only [qq] at g13'
              first | exact absurd g13 (by decide) | (exfalso; simp at g13; done) | (exfalso; simp at g13; omega)
            ·
             have g12' := g12
             try simp only [qq] at g12'
             first | exact absurd g12 (by decide) | (exfalso; simp at g12; done) | (exfalso; simp at g12; omega)
           ·
            have g11' := g11
            try simp only [qq] at g11'
            first | exact absurd g11 (by decide) | (exfalso; simp at g11; done) | (exfalso; simp at g11; omega)
          ·
           have g10' := g10
           try simp only [qq] at g10'
           first | exact absurd g10 (by decide) | (exfalso; simp at g10; done) | (exfalso; simp at g10; omega)
         ·
          have g9' := g9
          try simp only [qq] at g9'
          first | exact absurd g9 (by decide) | (exfalso; simp at g9; done) | (exfalso; simp at g9; omega)
        ·
         have g8' := g8
         try simp only [qq] at g8'
         first | exact absurd g8 (by decide) | (exfalso; simp at g8; done) | (exfalso; simp at g8; omega)
       ·
        have g7' := g7
        try simp only [qq] at g7'
        first | exact absurd g7 (by decide) | (exfalso; simp at g7; done) | (exfalso; simp at g7; omega)
      ·
       have g6' := g6
       try simp only [qq] at g6'
       first | exact absurd g6 (by decide) | (exfalso; simp at g6; done) | (exfalso; simp at g6; omega)
     ·
      have c5' := c5
      try simp only [qq] at c5'
      first | exact absurd c5 (by decide) | (exfalso; simp at c5; done) | (exfalso; simp at c5; omega)

set_option maxHeartbeats 4000000 in
/-- kelir/kelirlaw03.NightFits -/
theorem law18_ch (p : Pl) (l ls : List Int) (hs : p.scenes.length ≤ 12) (hl : l.length ≤ 12) (hls : ls.length ≤ 12) (hk : PlOK p = true) (hr : Ris p l = true) (hc : isCh p l = false) : APure Tryz.prog 18 [plan p, ints l, ints ls] (B true) := by
 refine apure_of (rs := [.tmp 6]) Tryz.func18 rfl rfl (Nat.le_of_ble_eq_true rfl) (by simp [AV.pureL, AV.pureB, AV.pureE, pureE_map]) (rfl) fun e0 he0 => ?_
 have hal := al_yes hs hl hk hr
 rw [hc] at hal
 refine aw_seq (aw_region ?_)
 refine sq_box rfl (lr _) rfl ?_
 refine asr (lr _) rfl ?_
 refine sq_nil (aw_seq (aw_seq (aw_region ?_)))
 refine sq_ev rfl (ev_load_agg (lr _) rfl ty27 rfl) ?_
 refine sq_ev rfl (ev_call en20 (lr _) (short_yes hs) ⟨lr _, trivial⟩) ?_
 refine sq_ev rfl (ev_not (lr _)) ?_
 refine mvr (lr _) rfl ?_
 refine sq_split 17 (lr _) (fun g1 => ?_) (fun g1 => ?_)
 ·
  have g1' := g1
  try simp only [qq] at g1'
  first | exact absurd g1 (by decide) | (exfalso; simp at g1; done) | (exfalso; simp at g1; omega)
 ·
  have g1' := g1
  try simp only [qq] at g1'
  refine sq_yes rfl rfl (less_b g1) rfl (ev_mv (v := .sl _ _) (lr _)) ?_
  refine sq_yes rfl rfl (less_b g1) rfl (ev_call en45 (lr _) (slim_yes hl) ⟨lr _, trivial⟩) ?_
  refine sq_yes rfl rfl (less_b g1) rfl (ev_not (lr _)) ?_
  refine sq_ev rfl (ev_pickF (v := .raw _) (less_b g1) (lr _)) ?_
  refine mvr (lr _) rfl ?_
  refine sq_split 22 (lr _) (fun g2 => ?_) (fun g2 => ?_)
  ·
   have g2' := g2
   try simp only [qq] at g2'
   first | exact absurd g2 (by decide) | (exfalso; simp at g2; done) | (exfalso; simp at g2; omega)
  ·
   have g2' := g2
   try simp only [qq] at g2'
   refine sq_yes rfl rfl (less_b g2) rfl (ev_mv (v := .sl _ _) (lr _)) ?_
   refine sq_yes rfl rfl (less_b g2) rfl (ev_call en45 (lr _) (slim_yes hls) ⟨lr _, trivial⟩) ?_
   refine sq_yes rfl rfl (less_b g2) rfl (ev_not (lr _)) ?_
   refine sq_ev rfl (ev_pickF (v := .raw _) (less_b g2) (lr _)) ?_
   refine sq_nil ?_
   refine aw_cond (lr _) (fun c3 => ?_) (fun c3 => ?_)
   ·
    have c3' := c3
    try simp only [qq] at c3'
    first | exact absurd c3 (by decide) | (exfalso; simp at c3; done) | (exfalso; simp at c3; omega)
   ·
    have c3' := c3
    try simp only [qq] at c3'
    refine aw_skip (aw_seq (aw_region ?_))
    refine sq_ev rfl (ev_load_agg (lr _) rfl ty27 rfl) ?_
    refine sq_ev rfl (ev_call en75 (lr _) (ck_yes hs hk) ⟨lr _, trivial⟩) ?_
    refine asr (lr _) rfl ?_
    refine sq_nil (aw_seq (aw_region ?_))
    refine sq_ev rfl (ev_load_agg (lr _) rfl ty27 rfl) ?_
    refine sq_ev rfl (ev_mv (v := .sl _ _) (lr _)) ?_
    refine sq_ev rfl (ev_call en76 (lr _) (hal) ⟨lr _, lr _, trivial⟩) ?_
    refine sq_ev rfl (ev_mv (v := .tup _) (lr _)) ?_
    refine sq_ev rfl (ev_extract (lr _) rfl) ?_
    refine sq_ev rfl (ev_extract (lr _) rfl) ?_
    refine asr (lr _) rfl ?_
    refine asr (lr _) rfl ?_
    refine sq_nil (aw_seq (aw_region ?_))
    refine sq_ev rfl (ev_load_agg (lr _) rfl ty27 rfl) ?_
    refine sq_ev rfl (ev_mv (v := .sl _ _) (lr _)) ?_
    refine sq_ev rfl (ev_mv (v := .sl _ _) (lr _)) ?_
    refine sq_ev rfl (ev_call en59 (lr _) (ft_no hs hl (by simp [chosenB, hc])) ⟨lr _, lr _, lr _, trivial⟩) ?_
    refine sq_ev rfl (ev_mv (v := .tup _) (lr _)) ?_
    refine sq_ev rfl (ev_extract (lr _) rfl) ?_
    refine sq_ev rfl (ev_extract (lr _) rfl) ?_
    refine asr (lr _) rfl ?_
    refine asr (lr _) rfl ?_
    refine sq_nil (aw_seq (aw_region ?_))
    refine sq_ev rfl (ev_load_agg (lr _) rfl ty27 rfl) ?_
    refine sq_ev rfl (ev_mv (v := .sl _ _) (lr _)) ?_
    refine sq_ev rfl (ev_call en55 (lr _) (cn_no hs hl (by simp [chosenB, hc])) ⟨lr _, lr _, trivial⟩) ?_
    refine sq_ev rfl (ev_mv (v := .tup _) (lr _)) ?_
    refine sq_ev rfl (ev_extract (lr _) rfl) ?_
    refine sq_ev rfl (ev_extract (lr _) rfl) ?_
    refine asr (lr _) rfl ?_
    refine asr (lr _) rfl ?_
    refine sq_nil (aw_seq (aw_seq (aw_region ?_)))
    refine sq_ev rfl (ev_load_agg (lr _) rfl ty27 rfl) ?_
    refine sq_ev rfl (ev_call en24 (lr _) (plan_yes hs hk) ⟨lr _, trivial⟩) ?_
    refine sq_ev rfl (ev_not (lr _)) ?_
    refine mvr (lr _) rfl ?_
    refine sq_split 52 (lr _) (fun g4 => ?_) (fun g4 => ?_)
    ·
     have g4' := g4
     try simp only [qq] at g4'
     first | exact absurd g4 (by decide) | (exfalso; simp at g4; done) | (exfalso; simp at g4; omega)
    ·
     have g4' := g4
     try simp only [qq] at g4'
     refine sq_yes rfl rfl (less_b g4) rfl (ev_load_agg (lr _) rfl ty27 rfl) ?_
     refine sq_yes rfl rfl (less_b g4) rfl (ev_mv (v := .sl _ _) (lr _)) ?_
     refine sq_yes rfl rfl (less_b g4) rfl (ev_call en77 (lr _) (ri_pure hs hl hr) ⟨lr _, lr _, trivial⟩) ?_
     refine sq_yes rfl rfl (less_b g4) rfl (ev_not (lr _)) ?_
     refine sq_ev rfl (ev_pickF (v := .raw _) (less_b g4) (lr _)) ?_
     refine sq_nil ?_
     refine aw_cond (lr _) (fun c5 => ?_) (fun c5 => ?_)
     ·
      have c5' := c5
      try simp only [qq] at c5'
      first | exact absurd c5 (by decide) | (exfalso; simp at c5; done) | (exfalso; simp at c5; omega)
     ·
      have c5' := c5
      try simp only [qq] at c5'
      refine aw_skip (aw_seq (aw_seq (aw_region ?_)))
      refine mvr (lr _) rfl ?_
      refine sq_ev rfl (ev_neq (lr _) (lr _)) ?_
      refine mvr (lr _) rfl ?_
      refine sq_split 100 (lr _) (fun g6 => ?_) (fun g6 => ?_)
      ·
       have g6' := g6
       try simp only [qq] at g6'
       first | exact absurd g6 (by decide) | (exfalso; simp at g6; done) | (exfalso; simp at g6; omega)
      ·
       have g6' := g6
       try simp only [qq] at g6'
       refine sq_yes rfl rfl (less_b g6) rfl (ev_mv (v := .raw _) (lr _)) ?_
       refine sq_yes rfl rfl (less_b g6) rfl (ev_neq (lr _) (lr _)) ?_
       refine sq_ev rfl (ev_pickF (v := .raw _) (less_b g6) (lr _)) ?_
       refine mvr (lr _) rfl ?_
       refine sq_split 104 (lr _) (fun g7 => ?_) (fun g7 => ?_)
       ·
        have g7' := g7
        try simp only [qq] at g7'
        first | exact absurd g7 (by decide) | (exfalso; simp at g7; done) | (exfalso; simp at g7; omega)
       ·
        have g7' := g7
        try simp only [qq] at g7'
        refine sq_yes rfl rfl (less_b g7) rfl (ev_mv (v := .raw _) (lr _)) ?_
        refine sq_yes rfl rfl (less_b g7) rfl (ev_load_agg (lr _) rfl ty27 rfl) ?_
        refine sq_yes rfl rfl (less_b g7) rfl (ev_mv (v := .sl _ _) (lr _)) ?_
        refine sq_yes rfl rfl (less_b g7) rfl (ev_call en78 (lr _) (ic_pure hs hl hc) ⟨lr _, lr _, trivial⟩) ?_
        refine sq_yes rfl rfl (less_b g7) rfl (ev_neqB un4 (lr _) (lr _)) ?_
        refine sq_ev rfl (ev_pickF (v := .raw _) (less_b g7) (lr _)) ?_
        refine sq_nil ?_
        refine aw_cond (lr _) (fun c8 => ?_) (fun c8 => ?_)
        ·
         have c8' := c8
         try simp only [qq] at c8'
         first | exact absurd c8 (by decide) | (exfalso; simp at c8; done) | (exfalso; simp at c8; omega)
        ·
         have c8' := c8
         try simp only [qq] at c8'
         refine aw_skip (aw_seq (aw_seq (aw_region ?_)))
         refine mvr (lr _) rfl ?_
         refine sq_ev rfl (ev_not (lr _)) ?_
         refine sq_nil ?_
         refine aw_cond (lr _) (fun c9 => ?_) (fun c9 => ?_)
         ·
          have c9' := c9
          try simp only [qq] at c9'
          refine aw_seq (aw_region ?_)
          refine mvr (lr _) rfl ?_
          refine sq_ev rfl (ev_eql (lr _) (lr _)) ?_
          refine mvr (lr _) rfl ?_
          refine sq_split 115 (lr _) (fun g10 => ?_) (fun g10 => ?_)
          ·
           have g10' := g10
           try simp only [qq] at g10'
           refine sq_yes rfl rfl (less_b g10) rfl (ev_mv (v := .raw _) (lr _)) ?_
           refine sq_yes rfl rfl (less_b g10) rfl (ev_not (lr _)) ?_
           refine sq_ev rfl (ev_pickT (v := .raw _) (less_b g10) (lr _)) ?_
           refine mvr (lr _) rfl ?_
           refine sq_split 119 (lr _) (fun g11 => ?_) (fun g11 => ?_)
           ·
            have g11' := g11
            try simp only [qq] at g11'
            refine sq_yes rfl rfl (less_b g11) rfl (ev_mv (v := .raw _) (lr _)) ?_
            refine sq_yes rfl rfl (less_b g11) rfl (ev_eql (lr _) (lr _)) ?_
            refine sq_ev rfl (ev_pickT (v := .raw _) (less_b g11) (lr _)) ?_
            refine mvr (lr _) rfl ?_
            refine sq_split 123 (lr _) (fun g12 => ?_) (fun g12 => ?_)
            ·
             have g12' := g12
             try simp only [qq] at g12'
             refine sq_yes rfl rfl (less_b g12) rfl (ev_mv (v := .raw _) (lr _)) ?_
             refine sq_yes rfl rfl (less_b g12) rfl (ev_not (lr _)) ?_
             refine sq_ev rfl (ev_pickT (v := .raw _) (less_b g12) (lr _)) ?_
             refine mvr (lr _) rfl ?_
             refine sq_split 127 (lr _) (fun g13 => ?_) (fun g13 => ?_)
             ·
              have g13' := g13
              try simp only [qq] at g13'
              refine sq_yes rfl rfl (less_b g13) rfl (ev_call en21 (lr _) (known_pure) trivial) ?_
              refine sq_ev rfl (ev_pickT (v := .raw _) (less_b g13) (lr _)) ?_
              refine asr (lr _) rfl ?_
              refine sq_nil (aw_ret ?_)
              exact retQ_pure (v := .raw _) rfl rfl (lr _)
             ·
              have g13' := g13
              try simp only [qq] at g13'
              first | exact absurd g13 (by decide) | (exfalso; simp at g13; done) | (exfalso; simp at g13; omega)
            ·
             have g12' := g12
             try simp only [qq] at g12'
             first | exact absurd g12 (by decide) | (exfalso; simp at g12; done) | (exfalso; simp at g12; omega)
           ·
            have g11' := g11
            try simp only [qq] at g11'
            first | exact absurd g11 (by decide) | (exfalso; simp at g11; done) | (exfalso; simp at g11; omega)
          ·
           have g10' := g10
           try simp only [qq] at g10'
           first | exact absurd g10 (by decide) | (exfalso; simp at g10; done) | (exfalso; simp at g10; omega)
         ·
          have c9' := c9
          try simp only [qq] at c9'
          first | exact absurd c9 (by decide) | (exfalso; simp at c9; done) | (exfalso; simp at c9; omega)

set_option maxHeartbeats 4000000 in
/-- kelir/kelirlaw03.NightFits -/
theorem law18_last (p : Pl) (l : List Nat) (ls : List Int) (hs : p.scenes.length ≤ 12) (hl : l.length ≤ 12) (hls : ls.length ≤ 12) (hk : PlOK p = true) (hr : Ris p (up l) = true) (hc : isCh p (up l) = true) (gp : GP p) (wp : WP p) (cv : CV p l) (hL : lastsP p l ls = false) : APure Tryz.prog 18 [plan p, nats l, ints ls] (B true) := by
 refine apure_of (rs := [.tmp 6]) Tryz.func18 rfl rfl (Nat.le_of_ble_eq_true rfl) (by simp [AV.pureL, AV.pureB, AV.pureE, pureE_map]) (rfl) fun e0 he0 => ?_
 have hch : chosenB p (up l) = true := by rw [chosenB, hr, hc, hk]; rfl
 have hla := rlasts_pure p l ls cv (by omega)
 rw [hL] at hla
 refine aw_seq (aw_region ?_)
 refine sq_box rfl (lr _) rfl ?_
 refine asr (lr _) rfl ?_
 refine sq_nil (aw_seq (aw_seq (aw_region ?_)))
 refine sq_ev rfl (ev_load_agg (lr _) rfl ty27 rfl) ?_
 refine sq_ev rfl (ev_call en20 (lr _) (short_yes hs) ⟨lr _, trivial⟩) ?_
 refine sq_ev rfl (ev_not (lr _)) ?_
 refine mvr (lr _) rfl ?_
 refine sq_split 17 (lr _) (fun g1 => ?_) (fun g1 => ?_)
 ·
  have g1' := g1
  try simp only [qq] at g1'
  first | exact absurd g1 (by decide) | (exfalso; simp at g1; done) | (exfalso; simp at g1; omega)
 ·
  have g1' := g1
  try simp only [qq] at g1'
  refine sq_yes rfl rfl (less_b g1) rfl (ev_mv (v := .sl _ _) (lr _)) ?_
  refine sq_yes rfl rfl (less_b g1) rfl (ev_call en45 (lr _) (slim_yesN hl) ⟨lr _, trivial⟩) ?_
  refine sq_yes rfl rfl (less_b g1) rfl (ev_not (lr _)) ?_
  refine sq_ev rfl (ev_pickF (v := .raw _) (less_b g1) (lr _)) ?_
  refine mvr (lr _) rfl ?_
  refine sq_split 22 (lr _) (fun g2 => ?_) (fun g2 => ?_)
  ·
   have g2' := g2
   try simp only [qq] at g2'
   first | exact absurd g2 (by decide) | (exfalso; simp at g2; done) | (exfalso; simp at g2; omega)
  ·
   have g2' := g2
   try simp only [qq] at g2'
   refine sq_yes rfl rfl (less_b g2) rfl (ev_mv (v := .sl _ _) (lr _)) ?_
   refine sq_yes rfl rfl (less_b g2) rfl (ev_call en45 (lr _) (slim_yes hls) ⟨lr _, trivial⟩) ?_
   refine sq_yes rfl rfl (less_b g2) rfl (ev_not (lr _)) ?_
   refine sq_ev rfl (ev_pickF (v := .raw _) (less_b g2) (lr _)) ?_
   refine sq_nil ?_
   refine aw_cond (lr _) (fun c3 => ?_) (fun c3 => ?_)
   ·
    have c3' := c3
    try simp only [qq] at c3'
    first | exact absurd c3 (by decide) | (exfalso; simp at c3; done) | (exfalso; simp at c3; omega)
   ·
    have c3' := c3
    try simp only [qq] at c3'
    refine aw_skip (aw_seq (aw_region ?_))
    refine sq_ev rfl (ev_load_agg (lr _) rfl ty27 rfl) ?_
    refine sq_ev rfl (ev_call en75 (lr _) (ck_yes hs hk) ⟨lr _, trivial⟩) ?_
    refine asr (lr _) rfl ?_
    refine sq_nil (aw_seq (aw_region ?_))
    refine sq_ev rfl (ev_load_agg (lr _) rfl ty27 rfl) ?_
    refine sq_ev rfl (ev_mv (v := .sl _ _) (lr _)) ?_
    refine sq_ev rfl (ev_call en76 (lr _) (al_yesN hs hl hk hr hc) ⟨lr _, lr _, trivial⟩) ?_
    refine sq_ev rfl (ev_mv (v := .tup _) (lr _)) ?_
    refine sq_ev rfl (ev_extract (lr _) rfl) ?_
    refine sq_ev rfl (ev_extract (lr _) rfl) ?_
    refine asr (lr _) rfl ?_
    refine asr (lr _) rfl ?_
    refine sq_nil (aw_seq (aw_region ?_))
    refine sq_ev rfl (ev_load_agg (lr _) rfl ty27 rfl) ?_
    refine sq_ev rfl (ev_mv (v := .sl _ _) (lr _)) ?_
    refine sq_ev rfl (ev_mv (v := .sl _ _) (lr _)) ?_
    refine sq_ev rfl (ev_call en59 (lr _) (ft_noL hs hl hL) ⟨lr _, lr _, lr _, trivial⟩) ?_
    refine sq_ev rfl (ev_mv (v := .tup _) (lr _)) ?_
    refine sq_ev rfl (ev_extract (lr _) rfl) ?_
    refine sq_ev rfl (ev_extract (lr _) rfl) ?_
    refine asr (lr _) rfl ?_
    refine asr (lr _) rfl ?_
    refine sq_nil (aw_seq (aw_region ?_))
    refine sq_ev rfl (ev_load_agg (lr _) rfl ty27 rfl) ?_
    refine sq_ev rfl (ev_mv (v := .sl _ _) (lr _)) ?_
    refine sq_ev rfl (ev_call en55 (lr _) (cn_yes hs hl hch) ⟨lr _, lr _, trivial⟩) ?_
    refine sq_ev rfl (ev_mv (v := .tup _) (lr _)) ?_
    refine sq_ev rfl (ev_extract (lr _) rfl) ?_
    refine sq_ev rfl (ev_extract (lr _) rfl) ?_
    refine asr (lr _) rfl ?_
    refine asr (lr _) rfl ?_
    refine sq_nil (aw_seq (aw_seq (aw_region ?_)))
    refine sq_ev rfl (ev_load_agg (lr _) rfl ty27 rfl) ?_
    refine sq_ev rfl (ev_call en24 (lr _) (plan_yes hs hk) ⟨lr _, trivial⟩) ?_
    refine sq_ev rfl (ev_not (lr _)) ?_
    refine mvr (lr _) rfl ?_
    refine sq_split 52 (lr _) (fun g4 => ?_) (fun g4 => ?_)
    ·
     have g4' := g4
     try simp only [qq] at g4'
     first | exact absurd g4 (by decide) | (exfalso; simp at g4; done) | (exfalso; simp at g4; omega)
    ·
     have g4' := g4
     try simp only [qq] at g4'
     refine sq_yes rfl rfl (less_b g4) rfl (ev_load_agg (lr _) rfl ty27 rfl) ?_
     refine sq_yes rfl rfl (less_b g4) rfl (ev_mv (v := .sl _ _) (lr _)) ?_
     refine sq_yes rfl rfl (less_b g4) rfl (ev_call en77 (lr _) (ri_pureN hs hl hr) ⟨lr _, lr _, trivial⟩) ?_
     refine sq_yes rfl rfl (less_b g4) rfl (ev_not (lr _)) ?_
     refine sq_ev rfl (ev_pickF (v := .raw _) (less_b g4) (lr _)) ?_
     refine sq_nil ?_
     refine aw_cond (lr _) (fun c5 => ?_) (fun c5 => ?_)
     ·
      have c5' := c5
      try simp only [qq] at c5'
      first | exact absurd c5 (by decide) | (exfalso; simp at c5; done) | (exfalso; simp at c5; omega)
     ·
      have c5' := c5
      try simp only [qq] at c5'
      refine aw_skip (aw_seq (aw_seq (aw_region ?_)))
      refine mvr (lr _) rfl ?_
      refine sq_ev rfl (ev_neq (lr _) (lr _)) ?_
      refine mvr (lr _) rfl ?_
      refine sq_split 100 (lr _) (fun g6 => ?_) (fun g6 => ?_)
      ·
       have g6' := g6
       try simp only [qq] at g6'
       first | exact absurd g6 (by decide) | (exfalso; simp at g6; done) | (exfalso; simp at g6; omega)
      ·
       have g6' := g6
       try simp only [qq] at g6'
       refine sq_yes rfl rfl (less_b g6) rfl (ev_mv (v := .raw _) (lr _)) ?_
       refine sq_yes rfl rfl (less_b g6) rfl (ev_neq (lr _) (lr _)) ?_
       refine sq_ev rfl (ev_pickF (v := .raw _) (less_b g6) (lr _)) ?_
       refine mvr (lr _) rfl ?_
       refine sq_split 104 (lr _) (fun g7 => ?_) (fun g7 => ?_)
       ·
        have g7' := g7
        try simp only [qq] at g7'
        first | exact absurd g7 (by decide) | (exfalso; simp at g7; done) | (exfalso; simp at g7; omega)
       ·
        have g7' := g7
        try simp only [qq] at g7'
        refine sq_yes rfl rfl (less_b g7) rfl (ev_mv (v := .raw _) (lr _)) ?_
        refine sq_yes rfl rfl (less_b g7) rfl (ev_load_agg (lr _) rfl ty27 rfl) ?_
        refine sq_yes rfl rfl (less_b g7) rfl (ev_mv (v := .sl _ _) (lr _)) ?_
        refine sq_yes rfl rfl (less_b g7) rfl (ev_call en78 (lr _) (ic_pureN hs hl hc) ⟨lr _, lr _, trivial⟩) ?_
        refine sq_yes rfl rfl (less_b g7) rfl (ev_neqB un4 (lr _) (lr _)) ?_
        refine sq_ev rfl (ev_pickF (v := .raw _) (less_b g7) (lr _)) ?_
        refine sq_nil ?_
        refine aw_cond (lr _) (fun c8 => ?_) (fun c8 => ?_)
        ·
         have c8' := c8
         try simp only [qq] at c8'
         first | exact absurd c8 (by decide) | (exfalso; simp at c8; done) | (exfalso; simp at c8; omega)
        ·
         have c8' := c8
         try simp only [qq] at c8'
         refine aw_skip (aw_seq (aw_seq (aw_region ?_)))
         refine mvr (lr _) rfl ?_
         refine sq_ev rfl (ev_not (lr _)) ?_
         refine sq_nil ?_
         refine aw_cond (lr _) (fun c9 => ?_) (fun c9 => ?_)
         ·
          have c9' := c9
          try simp only [qq] at c9'
          first | exact absurd c9 (by decide) | (exfalso; simp at c9; done) | (exfalso; simp at c9; omega)
         ·
          have c9' := c9
          try simp only [qq] at c9'
          refine aw_skip (aw_seq (aw_seq (aw_region ?_)))
          refine mvr (lr _) rfl ?_
          refine sq_ev rfl (ev_neq (lr _) (lr _)) ?_
          refine mvr (lr _) rfl ?_
          refine sq_split 132 (lr _) (fun g10 => ?_) (fun g10 => ?_)
          ·
           have g10' := g10
           try simp only [qq] at g10'
           first | exact absurd g10 (by decide) | (exfalso; simp at g10; done) | (exfalso; simp at g10; omega)
          ·
           have g10' := g10
           try simp only [qq] at g10'
           refine sq_yes rfl rfl (less_b g10) rfl (ev_mv (v := .raw _) (lr _)) ?_
           refine sq_yes rfl rfl (less_b g10) rfl (ev_load_agg (lr _) rfl ty27 rfl) ?_
           refine sq_yes rfl rfl (less_b g10) rfl (ev_mv (v := .sl _ _) (lr _)) ?_
           refine sq_yes rfl rfl (less_b g10) rfl (ev_call en48 (lr _) (can_pureP gp wp cv) ⟨lr _, lr _, trivial⟩) ?_
           refine sq_yes rfl rfl (less_b g10) rfl (ev_neqB un4 (lr _) (lr _)) ?_
           refine sq_ev rfl (ev_pickF (v := .raw _) (less_b g10) (lr _)) ?_
           refine sq_nil ?_
           refine aw_cond (lr _) (fun c11 => ?_) (fun c11 => ?_)
           ·
            have c11' := c11
            try simp only [qq] at c11'
            first | exact absurd c11 (by decide) | (exfalso; simp at c11; done) | (exfalso; simp at c11; omega)
           ·
            have c11' := c11
            try simp only [qq] at c11'
            refine aw_skip (aw_seq (aw_seq (aw_region ?_)))
            refine sq_ev rfl (ev_load_agg (lr _) rfl ty27 rfl) ?_
            refine sq_ev rfl (ev_mv (v := .sl _ _) (lr _)) ?_
            refine sq_ev rfl (ev_mv (v := .sl _ _) (lr _)) ?_
            refine sq_ev rfl (ev_call en58 (lr _) (hla) ⟨lr _, lr _, lr _, trivial⟩) ?_
            refine sq_ev rfl (ev_not (lr _)) ?_
            refine sq_nil ?_
            refine aw_cond (lr _) (fun c12 => ?_) (fun c12 => ?_)
            ·
             have c12' := c12
             try simp only [qq] at c12'
             refine aw_seq (aw_region ?_)
             refine mvr (lr _) rfl ?_
             refine sq_ev rfl (ev_eql (lr _) (lr _)) ?_
             refine mvr (lr _) rfl ?_
             refine sq_split 146 (lr _) (fun g13 => ?_) (fun g13 => ?_)
             ·
              have g13' := g13
              try simp only [qq] at g13'
              refine sq_yes rfl rfl (less_b g13) rfl (ev_mv (v := .raw _) (lr _)) ?_
              refine sq_yes rfl rfl (less_b g13) rfl (ev_not (lr _)) ?_
              refine sq_ev rfl (ev_pickT (v := .raw _) (less_b g13) (lr _)) ?_
              refine mvr (lr _) rfl ?_
              refine sq_split 150 (lr _) (fun g14 => ?_) (fun g14 => ?_)
              ·
               have g14' := g14
               try simp only [qq] at g14'
               refine sq_yes rfl rfl (less_b g14) rfl (ev_call en21 (lr _) (known_pure) trivial) ?_
               refine sq_ev rfl (ev_pickT (v := .raw _) (less_b g14) (lr _)) ?_
               refine asr (lr _) rfl ?_
               refine sq_nil (aw_ret ?_)
               exact retQ_pure (v := .raw _) rfl rfl (lr _)
              ·
               have g14' := g14
               try simp only [qq] at g14'
               first | exact absurd g14 (by decide) | (exfalso; simp at g14; done) | (exfalso; simp at g14; omega)
             ·
              have g13' := g13
              try simp only [qq] at g13'
              first | exact absurd g13 (by decide) | (exfalso; simp at g13; done) | (exfalso; simp at g13; omega)
            ·
             have c12' := c12
             try simp only [qq] at c12'
             first | exact absurd c12 (by decide) | (exfalso; simp at c12; done) | (exfalso; simp at c12; omega)

set_option maxHeartbeats 4000000 in
/-- kelir/kelirlaw03.NightFits -/
theorem law18_fits (p : Pl) (l : List Nat) (ls : List Int) (hs : p.scenes.length ≤ 12) (hl : l.length ≤ 12) (hls : ls.length ≤ 12) (hk : PlOK p = true) (hr : Ris p (up l) = true) (hc : isCh p (up l) = true) (gp : GP p) (wp : WP p) (cv : CV p l) (hL : lastsP p l ls = true) : APure Tryz.prog 18 [plan p, nats l, ints ls] (B true) := by
 refine apure_of (rs := [.tmp 6]) Tryz.func18 rfl rfl (Nat.le_of_ble_eq_true rfl) (by simp [AV.pureL, AV.pureB, AV.pureE, pureE_map]) (rfl) fun e0 he0 => ?_
 have hch : chosenB p (up l) = true := by rw [chosenB, hr, hc, hk]; rfl
 have hla := rlasts_pure p l ls cv (by omega)
 rw [hL] at hla
 refine aw_seq (aw_region ?_)
 refine sq_box rfl (lr _) rfl ?_
 refine asr (lr _) rfl ?_
 refine sq_nil (aw_seq (aw_seq (aw_region ?_)))
 refine sq_ev rfl (ev_load_agg (lr _) rfl ty27 rfl) ?_
 refine sq_ev rfl (ev_call en20 (lr _) (short_yes hs) ⟨lr _, trivial⟩) ?_
 refine sq_ev rfl (ev_not (lr _)) ?_
 refine mvr (lr _) rfl ?_
 refine sq_split 17 (lr _) (fun g1 => ?_) (fun g1 => ?_)
 ·
  have g1' := g1
  try simp only [qq] at g1'
  first | exact absurd g1 (by decide) | (exfalso; simp at g1; done) | (exfalso; simp at g1; omega)
 ·
  have g1' := g1
  try simp only [qq] at g1'
  refine sq_yes rfl rfl (less_b g1) rfl (ev_mv (v := .sl _ _) (lr _)) ?_
  refine sq_yes rfl rfl (less_b g1) rfl (ev_call en45 (lr _) (slim_yesN hl) ⟨lr _, trivial⟩) ?_
  refine sq_yes rfl rfl (less_b g1) rfl (ev_not (lr _)) ?_
  refine sq_ev rfl (ev_pickF (v := .raw _) (less_b g1) (lr _)) ?_
  refine mvr (lr _) rfl ?_
  refine sq_split 22 (lr _) (fun g2 => ?_) (fun g2 => ?_)
  ·
   have g2' := g2
   try simp only [qq] at g2'
   first | exact absurd g2 (by decide) | (exfalso; simp at g2; done) | (exfalso; simp at g2; omega)
  ·
   have g2' := g2
   try simp only [qq] at g2'
   refine sq_yes rfl rfl (less_b g2) rfl (ev_mv (v := .sl _ _) (lr _)) ?_
   refine sq_yes rfl rfl (less_b g2) rfl (ev_call en45 (lr _) (slim_yes hls) ⟨lr _, trivial⟩) ?_
   refine sq_yes rfl rfl (less_b g2) rfl (ev_not (lr _)) ?_
   refine sq_ev rfl (ev_pickF (v := .raw _) (less_b g2) (lr _)) ?_
   refine sq_nil ?_
   refine aw_cond (lr _) (fun c3 => ?_) (fun c3 => ?_)
   ·
    have c3' := c3
    try simp only [qq] at c3'
    first | exact absurd c3 (by decide) | (exfalso; simp at c3; done) | (exfalso; simp at c3; omega)
   ·
    have c3' := c3
    try simp only [qq] at c3'
    refine aw_skip (aw_seq (aw_region ?_))
    refine sq_ev rfl (ev_load_agg (lr _) rfl ty27 rfl) ?_
    refine sq_ev rfl (ev_call en75 (lr _) (ck_yes hs hk) ⟨lr _, trivial⟩) ?_
    refine asr (lr _) rfl ?_
    refine sq_nil (aw_seq (aw_region ?_))
    refine sq_ev rfl (ev_load_agg (lr _) rfl ty27 rfl) ?_
    refine sq_ev rfl (ev_mv (v := .sl _ _) (lr _)) ?_
    refine sq_ev rfl (ev_call en76 (lr _) (al_yesN hs hl hk hr hc) ⟨lr _, lr _, trivial⟩) ?_
    refine sq_ev rfl (ev_mv (v := .tup _) (lr _)) ?_
    refine sq_ev rfl (ev_extract (lr _) rfl) ?_
    refine sq_ev rfl (ev_extract (lr _) rfl) ?_
    refine asr (lr _) rfl ?_
    refine asr (lr _) rfl ?_
    refine sq_nil (aw_seq (aw_region ?_))
    refine sq_ev rfl (ev_load_agg (lr _) rfl ty27 rfl) ?_
    refine sq_ev rfl (ev_mv (v := .sl _ _) (lr _)) ?_
    refine sq_ev rfl (ev_mv (v := .sl _ _) (lr _)) ?_
    refine sq_ev rfl (ev_call en59 (lr _) (ft_yes hs hl hch hL) ⟨lr _, lr _, lr _, trivial⟩) ?_
    refine sq_ev rfl (ev_mv (v := .tup _) (lr _)) ?_
    refine sq_ev rfl (ev_extract (lr _) rfl) ?_
    refine sq_ev rfl (ev_extract (lr _) rfl) ?_
    refine asr (lr _) rfl ?_
    refine asr (lr _) rfl ?_
    refine sq_nil (aw_seq (aw_region ?_))
    refine sq_ev rfl (ev_load_agg (lr _) rfl ty27 rfl) ?_
    refine sq_ev rfl (ev_mv (v := .sl _ _) (lr _)) ?_
    refine sq_ev rfl (ev_call en55 (lr _) (cn_yes hs hl hch) ⟨lr _, lr _, trivial⟩) ?_
    refine sq_ev rfl (ev_mv (v := .tup _) (lr _)) ?_
    refine sq_ev rfl (ev_extract (lr _) rfl) ?_
    refine sq_ev rfl (ev_extract (lr _) rfl) ?_
    refine asr (lr _) rfl ?_
    refine asr (lr _) rfl ?_
    refine sq_nil (aw_seq (aw_seq (aw_region ?_)))
    refine sq_ev rfl (ev_load_agg (lr _) rfl ty27 rfl) ?_
    refine sq_ev rfl (ev_call en24 (lr _) (plan_yes hs hk) ⟨lr _, trivial⟩) ?_
    refine sq_ev rfl (ev_not (lr _)) ?_
    refine mvr (lr _) rfl ?_
    refine sq_split 52 (lr _) (fun g4 => ?_) (fun g4 => ?_)
    ·
     have g4' := g4
     try simp only [qq] at g4'
     first | exact absurd g4 (by decide) | (exfalso; simp at g4; done) | (exfalso; simp at g4; omega)
    ·
     have g4' := g4
     try simp only [qq] at g4'
     refine sq_yes rfl rfl (less_b g4) rfl (ev_load_agg (lr _) rfl ty27 rfl) ?_
     refine sq_yes rfl rfl (less_b g4) rfl (ev_mv (v := .sl _ _) (lr _)) ?_
     refine sq_yes rfl rfl (less_b g4) rfl (ev_call en77 (lr _) (ri_pureN hs hl hr) ⟨lr _, lr _, trivial⟩) ?_
     refine sq_yes rfl rfl (less_b g4) rfl (ev_not (lr _)) ?_
     refine sq_ev rfl (ev_pickF (v := .raw _) (less_b g4) (lr _)) ?_
     refine sq_nil ?_
     refine aw_cond (lr _) (fun c5 => ?_) (fun c5 => ?_)
     ·
      have c5' := c5
      try simp only [qq] at c5'
      first | exact absurd c5 (by decide) | (exfalso; simp at c5; done) | (exfalso; simp at c5; omega)
     ·
      have c5' := c5
      try simp only [qq] at c5'
      refine aw_skip (aw_seq (aw_seq (aw_region ?_)))
      refine mvr (lr _) rfl ?_
      refine sq_ev rfl (ev_neq (lr _) (lr _)) ?_
      refine mvr (lr _) rfl ?_
      refine sq_split 100 (lr _) (fun g6 => ?_) (fun g6 => ?_)
      ·
       have g6' := g6
       try simp only [qq] at g6'
       first | exact absurd g6 (by decide) | (exfalso; simp at g6; done) | (exfalso; simp at g6; omega)
      ·
       have g6' := g6
       try simp only [qq] at g6'
       refine sq_yes rfl rfl (less_b g6) rfl (ev_mv (v := .raw _) (lr _)) ?_
       refine sq_yes rfl rfl (less_b g6) rfl (ev_neq (lr _) (lr _)) ?_
       refine sq_ev rfl (ev_pickF (v := .raw _) (less_b g6) (lr _)) ?_
       refine mvr (lr _) rfl ?_
       refine sq_split 104 (lr _) (fun g7 => ?_) (fun g7 => ?_)
       ·
        have g7' := g7
        try simp only [qq] at g7'
        first | exact absurd g7 (by decide) | (exfalso; simp at g7; done) | (exfalso; simp at g7; omega)
       ·
        have g7' := g7
        try simp only [qq] at g7'
        refine sq_yes rfl rfl (less_b g7) rfl (ev_mv (v := .raw _) (lr _)) ?_
        refine sq_yes rfl rfl (less_b g7) rfl (ev_load_agg (lr _) rfl ty27 rfl) ?_
        refine sq_yes rfl rfl (less_b g7) rfl (ev_mv (v := .sl _ _) (lr _)) ?_
        refine sq_yes rfl rfl (less_b g7) rfl (ev_call en78 (lr _) (ic_pureN hs hl hc) ⟨lr _, lr _, trivial⟩) ?_
        refine sq_yes rfl rfl (less_b g7) rfl (ev_neqB un4 (lr _) (lr _)) ?_
        refine sq_ev rfl (ev_pickF (v := .raw _) (less_b g7) (lr _)) ?_
        refine sq_nil ?_
        refine aw_cond (lr _) (fun c8 => ?_) (fun c8 => ?_)
        ·
         have c8' := c8
         try simp only [qq] at c8'
         first | exact absurd c8 (by decide) | (exfalso; simp at c8; done) | (exfalso; simp at c8; omega)
        ·
         have c8' := c8
         try simp only [qq] at c8'
         refine aw_skip (aw_seq (aw_seq (aw_region ?_)))
         refine mvr (lr _) rfl ?_
         refine sq_ev rfl (ev_not (lr _)) ?_
         refine sq_nil ?_
         refine aw_cond (lr _) (fun c9 => ?_) (fun c9 => ?_)
         ·
          have c9' := c9
          try simp only [qq] at c9'
          first | exact absurd c9 (by decide) | (exfalso; simp at c9; done) | (exfalso; simp at c9; omega)
         ·
          have c9' := c9
          try simp only [qq] at c9'
          refine aw_skip (aw_seq (aw_seq (aw_region ?_)))
          refine mvr (lr _) rfl ?_
          refine sq_ev rfl (ev_neq (lr _) (lr _)) ?_
          refine mvr (lr _) rfl ?_
          refine sq_split 132 (lr _) (fun g10 => ?_) (fun g10 => ?_)
          ·
           have g10' := g10
           try simp only [qq] at g10'
           first | exact absurd g10 (by decide) | (exfalso; simp at g10; done) | (exfalso; simp at g10; omega)
          ·
           have g10' := g10
           try simp only [qq] at g10'
           refine sq_yes rfl rfl (less_b g10) rfl (ev_mv (v := .raw _) (lr _)) ?_
           refine sq_yes rfl rfl (less_b g10) rfl (ev_load_agg (lr _) rfl ty27 rfl) ?_
           refine sq_yes rfl rfl (less_b g10) rfl (ev_mv (v := .sl _ _) (lr _)) ?_
           refine sq_yes rfl rfl (less_b g10) rfl (ev_call en48 (lr _) (can_pureP gp wp cv) ⟨lr _, lr _, trivial⟩) ?_
           refine sq_yes rfl rfl (less_b g10) rfl (ev_neqB un4 (lr _) (lr _)) ?_
           refine sq_ev rfl (ev_pickF (v := .raw _) (less_b g10) (lr _)) ?_
           refine sq_nil ?_
           refine aw_cond (lr _) (fun c11 => ?_) (fun c11 => ?_)
           ·
            have c11' := c11
            try simp only [qq] at c11'
            first | exact absurd c11 (by decide) | (exfalso; simp at c11; done) | (exfalso; simp at c11; omega)
           ·
            have c11' := c11
            try simp only [qq] at c11'
            refine aw_skip (aw_seq (aw_seq (aw_region ?_)))
            refine sq_ev rfl (ev_load_agg (lr _) rfl ty27 rfl) ?_
            refine sq_ev rfl (ev_mv (v := .sl _ _) (lr _)) ?_
            refine sq_ev rfl (ev_mv (v := .sl _ _) (lr _)) ?_
            refine sq_ev rfl (ev_call en58 (lr _) (hla) ⟨lr _, lr _, lr _, trivial⟩) ?_
            refine sq_ev rfl (ev_not (lr _)) ?_
            refine sq_nil ?_
            refine aw_cond (lr _) (fun c12 => ?_) (fun c12 => ?_)
            ·
             have c12' := c12
             try simp only [qq] at c12'
             first | exact absurd c12 (by decide) | (exfalso; simp at c12; done) | (exfalso; simp at c12; omega)
            ·
             have c12' := c12
             try simp only [qq] at c12'
             refine aw_skip (aw_seq (aw_region ?_))
             refine mvr (lr _) rfl ?_
             refine sq_ev rfl (ev_eql (lr _) (lr _)) ?_
             refine mvr (lr _) rfl ?_
             refine sq_split 155 (lr _) (fun g13 => ?_) (fun g13 => ?_)
             ·
              have g13' := g13
              try simp only [qq] at g13'
              refine sq_yes rfl rfl (less_b g13) rfl (ev_mv (v := .raw _) (lr _)) ?_
              refine sq_yes rfl rfl (less_b g13) rfl (ev_load_agg (lr _) rfl ty27 rfl) ?_
              refine sq_yes rfl rfl (less_b g13) rfl (ev_mv (v := .sl _ _) (lr _)) ?_
              refine sq_yes rfl rfl (less_b g13) rfl (ev_mv (v := .sl _ _) (lr _)) ?_
              refine sq_yes rfl rfl (less_b g13) rfl (ev_call en79 (lr _) (rft_pure hk cv (ris_inc hr) hL) ⟨lr _, lr _, lr _, trivial⟩) ?_
              refine sq_yes rfl rfl (less_b g13) rfl (ev_eqlB un4 (lr _) (lr _)) ?_
              refine sq_ev rfl (ev_pickT (v := .raw _) (less_b g13) (lr _)) ?_
              refine mvr (lr _) rfl ?_
              refine sq_split 163 (lr _) (fun g14 => ?_) (fun g14 => ?_)
              ·
               have g14' := g14
               try simp only [qq] at g14'
               refine sq_yes rfl rfl (less_b g14) rfl (ev_call en21 (lr _) (known_pure) trivial) ?_
               refine sq_ev rfl (ev_pickT (v := .raw _) (less_b g14) (lr _)) ?_
               refine asr (lr _) rfl ?_
               refine sq_nil (aw_ret ?_)
               exact retQ_pure (v := .raw _) rfl rfl (lr _)
              ·
               have g14' := g14
               try simp only [qq] at g14'
               first | exact absurd g14 (by decide) | (exfalso; simp at g14; done) | (exfalso; simp at g14; omega)
             ·
              have g13' := g13
              try simp only [qq] at g13'
              first | exact absurd g13 (by decide) | (exfalso; simp at g13; done) | (exfalso; simp at g13; omega)

/-- **NightFits returns true.** -/
theorem law18 (p : Pl) (l ls : List Int) : APure Tryz.prog 18 [plan p, ints l, ints ls] (B true) := by
  by_cases hs : p.scenes.length ≤ 12
  · by_cases hl : l.length ≤ 12
    · by_cases hls : ls.length ≤ 12
      · cases hk : PlOK p with
        | false => exact law18_bad p l ls hs hl hls hk
        | true =>
          cases hr : Ris p l with
          | false => exact law18_ris p l ls hs hl hls hk hr
          | true =>
            cases hc : isCh p l with
            | false => exact law18_ch p l ls hs hl hls hk hr hc
            | true =>
              obtain ⟨l', rfl, cv, gp, wp⟩ := chosen_up (p := p) (l := l) (by rw [chosenB, hc, hr, hk]; rfl)
              rw [ints_up]
              have hl' : l'.length ≤ 12 := by simpa [up] using hl
              cases hL : lastsP p l' ls with
              | false => exact law18_last p l' ls hs hl' hls hk hr hc gp wp cv hL
              | true => exact law18_fits p l' ls hs hl' hls hk hr hc gp wp cv hL
      · exact law18_slims p l ls hs hl hls
    · exact law18_slim p l ls hs hl
  · exact law18_long p l ls hs

end Go.Proofs.YtjghdbdiejaacaaGreatDoor
