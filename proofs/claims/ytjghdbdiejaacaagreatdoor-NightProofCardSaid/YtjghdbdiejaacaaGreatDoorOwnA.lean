/-
  A part of the proof: conditions: none beyond each theorem's own.
-/
import Derived.Test.YtjghdbdiejaacaaGreatDoorSpecA
import Derived.Test.YtjghdbdiejaacaaGreatDoorLogicC
import Derived.KernelRfl
import Derived.Lib.LaidTab
import Derived.Lib.ItoaNum
import Derived.Test.YtjghdbdiejaacaaGreatDoorProg
import Derived.Test.YtjghdbdiejaacaaGreatDoorWalkA
import Derived.Test.YtjghdbdiejaacaaGreatDoorWalkF
import Derived.Test.YtjghdbdiejaacaaGreatDoorWalkG
import Derived.Test.YtjghdbdiejaacaaGreatDoorLogicD
import Derived.Test.YtjghdbdiejaacaaGreatDoorLogicA
import Derived.Test.YtjghdbdiejaacaaGreatDoorLogicB
import Derived.Test.YtjghdbdiejaacaaGreatDoorShelf
import Derived.Test.YtjghdbdiejaacaaGreatDoorWalkB
import Derived.Test.YtjghdbdiejaacaaGreatDoorWalkC
import Derived.Test.YtjghdbdiejaacaaGreatDoorWalkD
import Derived.Test.YtjghdbdiejaacaaGreatDoorWalkE
import Derived.Test.YtjghdbdiejaacaaGreatDoorRow
set_option linter.all false
namespace Ni

theorem has_yes {l : List Int} {n : Int} {k : Nat} (h : k < l.length) (e : l[k] = n) : has l n = true := by
  simp only [has, decide_eq_true_eq]; exact e ▸ List.getElem_mem h
theorem has_no {l : List Int} {n : Int} {k : Nat} (hn : ¬ (k : Int) < l.length) (h : ∀ i, (h : i < l.length) → i < k → l[i] ≠ n) : has l n = false := by
  simp only [has, decide_eq_false_iff_not]
  intro hm
  obtain ⟨j, hj, e⟩ := List.getElem_of_mem hm
  exact h j hj (by omega) e
theorem ssum_take {f : Nat → Int} {c : Nat → Bool} {l : List Nat} {k : Nat} (h : k < l.length) : ssum f c (l.take (k + 1)) = ssum f c (l.take k) + (if c l[k] = true then f l[k] else 0) := by
  unfold ssum
  rw [List.take_succ_eq_append_getElem h, List.filter_append, List.map_append, List.sum_append]
  by_cases hc : c l[k] = true <;> simp [hc]
end Ni

namespace Ni

theorem ssum_cons (f : Nat → Int) (c : Nat → Bool) (x : Nat) (l : List Nat) : ssum f c (x :: l) = (if c x = true then f x else 0) + ssum f c l := by
  unfold ssum; rw [List.filter_cons]; split
  · simp
  · simp
theorem ssum_split {f : Nat → Int} {c c1 c2 : Nat → Bool} : ∀ {l : List Nat}, (∀ x ∈ l, c x = (c1 x || c2 x) ∧ (c1 x && c2 x) = false) → ssum f c l = ssum f c1 l + ssum f c2 l
  | [], _ => rfl
  | x :: l, h => by
    have ih := ssum_split (f := f) (l := l) fun y hy => h y (List.mem_cons_of_mem _ hy)
    obtain ⟨h1, h2⟩ := h x (by simp)
    rw [ssum_cons, ssum_cons, ssum_cons, ih, h1]
    generalize c1 x = u at h2 ⊢
    generalize c2 x = v at h2 ⊢
    cases u <;> cases v <;> simp at h2 ⊢ <;> omega
section
variable {p : Pl} {l : List Nat}
theorem fw1 : fw p l 1 = (max (p.beg + pl p l 0) p.s0l, min (p.beg + ph p l 0) p.s0h) := rfl
theorem fw2 : fw p l 2 = (max ((fw p l 1).1 + pl p l 1) p.s1l, min ((fw p l 1).2 + ph p l 1) p.s1h) := rfl
end

section
variable {p : Pl} {l : List Nat} (wp : WP p) (cv : CV p l) (hc : can p l = true)
include wp cv hc
end
end Ni

namespace Ni

def lsBad (p : Pl) (l : List Nat) (ls : List Int) (i : Nat) (h : i < l.length) : Bool := !inn (ls.getD i 0) (scn p l[i]).least (scn p l[i]).most
/-- whether there is a length for each scene of a choice -/
def lastsP (p : Pl) (l : List Nat) (ls : List Int) : Bool := decide (l.length = ls.length) && okAll l.length (lsBad p l ls)
/-- the plan in which the first scenes of a choice have one length alone -/
def pF (p : Pl) (l : List Nat) (ls : List Int) : Nat → Pl
  | 0 => p
  | i + 1 => fixP (pF p l ls i) (l.getD i 0) (ls.getD i 0)
def pFF (p : Pl) (l : List Nat) (ls : List Int) : Pl := pF p l ls l.length
/-- when a part ends -/
def endI (p : Pl) (l : List Nat) (ls : List Int) (k : Int) : Nat → Int
  | 0 => p.beg
  | i + 1 => endI p l ls k i + (if (scn p (l.getD i 0)).part ≤ k then ls.getD i 0 else 0)
def endR (p : Pl) (l : List Nat) (ls : List Int) (k : Int) : Int := endI p l ls k l.length
def rfBad (p : Pl) (l : List Nat) (ls : List Int) (k : Nat) (_ : k < 3) : Bool := !inn (endR p l ls k) (wl p k) (wh p k)
def rfits (p : Pl) (l : List Nat) (ls : List Int) : Bool := okAll 3 (rfBad p l ls)
theorem getD_at {α : Type} {l : List α} {i : Nat} (h : i < l.length) (d : α) : l.getD i d = l[i] := by rw [List.getD_eq_getElem?_getD, List.getElem?_eq_getElem h]; rfl
theorem lasts_at {p : Pl} {l : List Nat} {ls : List Int} (h : lastsP p l ls = true) : l.length = ls.length ∧ ∀ i (hi : i < l.length), (scn p l[i]).least ≤ ls.getD i 0 ∧ ls.getD i 0 ≤ (scn p l[i]).most := by
  simp only [lastsP, Bool.and_eq_true, decide_eq_true_eq, okAll_iff] at h
  refine ⟨h.1, fun i hi => ?_⟩
  have := h.2 i hi
  simpa [lsBad, inn] using this
theorem scn_fix {p : Pl} {k x : Nat} {n : Int} (h : k < p.scenes.length) : scn (fixP p k n) x = if x = k then fixS (scn p k) n else scn p x := by
  unfold scn fixP
  simp only [List.getD_eq_getElem?_getD, List.getElem?_set]
  by_cases e : x = k
  · subst e; simp [h, scn_eq h]
  · rw [if_neg (fun h => e h.symm), if_neg e]
theorem pF_fields (p : Pl) (l : List Nat) (ls : List Int) : ∀ i, (pF p l ls i).beg = p.beg ∧ (∀ k, wl (pF p l ls i) k = wl p k) ∧ (∀ k, wh (pF p l ls i) k = wh p k) ∧ (pF p l ls i).scenes.length = p.scenes.length
  | 0 => ⟨rfl, fun _ => rfl, fun _ => rfl, rfl⟩
  | i + 1 => by
    obtain ⟨h1, h2, h3, h4⟩ := pF_fields p l ls i
    exact ⟨h1, h2, h3, by simp only [pF]; rw [fixP_len]; exact h4⟩
theorem pF_part {p : Pl} {l : List Nat} {ls : List Int} (cv : CV p l) : ∀ i, i ≤ l.length → ∀ x, (scn (pF p l ls i) x).part = (scn p x).part
  | 0, _, _ => rfl
  | i + 1, hi, x => by
    have ih := pF_part (ls := ls) cv i (by omega)
    have hl : l.getD i 0 < (pF p l ls i).scenes.length := by rw [(pF_fields p l ls i).2.2.2, getD_at (by omega)]; exact cv.rng _ (List.getElem_mem _)
    simp only [pF, scn_fix hl]
    split
    · rename_i e; subst e; simp only [fixS]; exact ih _
    · exact ih x
theorem pF_len {p : Pl} {l : List Nat} {ls : List Int} (cv : CV p l) (inc : l.Pairwise (· < ·)) : ∀ i, i ≤ l.length → ∀ j (hj : j < l.length), j < i → (scn (pF p l ls i) l[j]).least = ls.getD j 0 ∧ (scn (pF p l ls i) l[j]).most = ls.getD j 0
  | 0, _, j, _, h => by omega
  | i + 1, hi, j, hj, h => by
    have hl : l.getD i 0 < (pF p l ls i).scenes.length := by rw [(pF_fields p l ls i).2.2.2, getD_at (by omega)]; exact cv.rng _ (List.getElem_mem _)
    simp only [pF, scn_fix hl]
    by_cases e : j = i
    · subst e
      rw [if_pos (getD_at hj 0).symm]; exact ⟨rfl, rfl⟩
    · have hne : l[j] ≠ l.getD i 0 := by
        rw [getD_at (by omega)]
        have := List.pairwise_iff_getElem.1 inc j i hj (by omega) (by omega)
        omega
      rw [if_neg hne]
      exact pF_len cv inc i (by omega) j hj (by omega)
theorem pF_ok {p : Pl} {l : List Nat} {ls : List Int} (gp : GP p) (wp : WP p) (cv : CV p l) (h : lastsP p l ls = true) : ∀ i, i ≤ l.length → GP (pF p l ls i) ∧ WP (pF p l ls i) ∧ CV (pF p l ls i) l
  | 0, _ => ⟨gp, wp, cv⟩
  | i + 1, hi => by
    obtain ⟨h1, h2, h3⟩ := pF_ok gp wp cv h i (by omega)
    have hv := (lasts_at h).2 i (by omega)
    have a1 := gp.least (cv.rng _ (List.getElem_mem (show i < l.length by omega)))
    have a2 := gp.most (cv.rng _ (List.getElem_mem (show i < l.length by omega)))
    exact ⟨fixP_gp h1 _ (by omega), fixP_wp h2 _ _, fixP_cv h3 _ _⟩
section
variable {p : Pl} {l : List Nat} {ls : List Int} (gp : GP p) (wp : WP p) (cv : CV p l) (inc : l.Pairwise (· < ·)) (h : lastsP p l ls = true) (hp : ∀ x ∈ l, 0 ≤ (scn p x).part ∧ (scn p x).part ≤ 2)
abbrev sL (p : Pl) (l : List Nat) (ls : List Int) (k : Int) : Int := ssum (fun x => (scn (pFF p l ls) x).least) (fun x => decide ((scn p x).part = k)) l
include cv inc
theorem pl_sL (k : Nat) : pl (pFF p l ls) l k = sL p l ls k ∧ ph (pFF p l ls) l k = sL p l ls k := by
  have e : (fun x => inPart (pFF p l ls) k x) = (fun x => decide ((scn p x).part = k)) := by
    funext x; unfold inPart pFF; rw [pF_part cv _ (Nat.le_refl _)]
  constructor
  · show lsum _ (ofP _ l k) = _
    unfold lsum leasts ofP sL ssum
    rw [show inPart (pFF p l ls) k = fun x => decide ((scn p x).part = k) from e]
  · show hsum _ (ofP _ l k) = _
    unfold hsum mosts ofP sL ssum
    rw [show inPart (pFF p l ls) k = fun x => decide ((scn p x).part = k) from e]
    refine congrArg List.sum (List.map_congr_left fun x hx => ?_)
    obtain ⟨j, hj, rfl⟩ := List.getElem_of_mem (List.mem_filter.1 hx).1
    obtain ⟨h1, h2⟩ := pF_len (ls := ls) cv inc l.length (Nat.le_refl _) j hj hj
    exact h2.trans h1.symm
theorem endI_ssum (k : Int) : ∀ i, i ≤ l.length → endI p l ls k i = p.beg + ssum (fun x => (scn (pFF p l ls) x).least) (fun x => decide ((scn p x).part ≤ k)) (l.take i)
  | 0, _ => by simp [endI, ssum]
  | i + 1, hi => by
    rw [endI, endI_ssum k i (by omega), ssum_take (by omega), getD_at (by omega) 0]
    obtain ⟨h1, h2⟩ := pF_len (ls := ls) cv inc l.length (Nat.le_refl _) i (by omega) (by omega)
    have h1 : (scn (pFF p l ls) l[i]).least = ls.getD i 0 := h1
    by_cases c : (scn p l[i]).part ≤ k
    · rw [if_pos c, if_pos (by simpa using c), h1]; omega
    · rw [if_neg c, if_neg (by simpa using c)]; omega
theorem endR_ssum (k : Int) : endR p l ls k = p.beg + ssum (fun x => (scn (pFF p l ls) x).least) (fun x => decide ((scn p x).part ≤ k)) l := by
  have := endI_ssum (ls := ls) cv inc k l.length (Nat.le_refl _)
  rwa [List.take_length] at this
include hp
theorem endR_eq : endR p l ls 0 = p.beg + sL p l ls 0 ∧ endR p l ls 1 = p.beg + sL p l ls 0 + sL p l ls 1 ∧ endR p l ls 2 = p.beg + sL p l ls 0 + sL p l ls 1 + sL p l ls 2 := by
  have key : ∀ k : Int, ssum (fun x => (scn (pFF p l ls) x).least) (fun x => decide ((scn p x).part ≤ k + 1)) l = ssum (fun x => (scn (pFF p l ls) x).least) (fun x => decide ((scn p x).part ≤ k)) l + sL p l ls (k + 1) := fun k => by
    refine ssum_split fun x hx => ⟨?_, ?_⟩
    · rw [Bool.eq_iff_iff]; simp only [Bool.or_eq_true, decide_eq_true_eq]; omega
    · rw [Bool.and_eq_false_iff]; simp only [decide_eq_false_iff_not]; omega
  have hm : ssum (fun x => (scn (pFF p l ls) x).least) (fun x => decide ((scn p x).part ≤ -1)) l = 0 := by
    unfold ssum
    rw [List.filter_eq_nil_iff.2 (fun x hx => by have := hp x hx; simp; omega)]; rfl
  have k0 := key (-1); have k1 := key 0; have k2 := key 1
  rw [hm] at k0
  refine ⟨?_, ?_, ?_⟩
  · rw [endR_ssum cv inc]; simp only [Int.reduceNeg, Int.reduceAdd] at k0; omega
  · rw [endR_ssum cv inc]; simp only [Int.reduceNeg, Int.reduceAdd] at k0 k1; omega
  · rw [endR_ssum cv inc]; simp only [Int.reduceNeg, Int.reduceAdd] at k0 k1 k2; omega
include gp wp h
/-- a programme fits just if its parts end in their windows -/
theorem fits_iff : can (pFF p l ls) l = rfits p l ls := by
  obtain ⟨g1, g2, g3⟩ := pF_ok gp wp cv h l.length (Nat.le_refl _)
  obtain ⟨q1, q2, q3, q4⟩ := pF_fields p l ls l.length
  have q1 : (pFF p l ls).beg = p.beg := q1
  obtain ⟨s0, t0⟩ := pl_sL (ls := ls) cv inc 0
  obtain ⟨s1, t1⟩ := pl_sL (ls := ls) cv inc 1
  obtain ⟨s2, t2⟩ := pl_sL (ls := ls) cv inc 2
  obtain ⟨e0, e1, e2⟩ := endR_eq (ls := ls) cv inc hp
  have w0 : (pFF p l ls).s0l = wl p 0 := q2 0
  have w0' : (pFF p l ls).s0h = wh p 0 := q3 0
  have w1 : (pFF p l ls).s1l = wl p 1 := q2 1
  have w1' : (pFF p l ls).s1h = wh p 1 := q3 1
  have w2 : (pFF p l ls).dl = wl p 2 := q2 2
  have w2' : (pFF p l ls).dh = wh p 2 := q3 2
  have z0 : ((0 : Nat) : Int) = 0 := rfl
  have z1 : ((1 : Nat) : Int) = 1 := rfl
  have z2 : ((2 : Nat) : Int) = 2 := rfl
  rw [z0] at s0 t0; rw [z1] at s1 t1; rw [z2] at s2 t2
  rw [Bool.eq_iff_iff]
  refine (can_fit g2 g3).trans ?_
  unfold rfits
  rw [okAll_iff]
  constructor
  · rintro ⟨a, b, c, h1, h2, h3, h4, h5, h6, h7, h8, h9, h10, h11, h12⟩ k hk
    change (pFF p l ls).s0l ≤ a at h1; change a ≤ (pFF p l ls).s0h at h2; change (pFF p l ls).s1l ≤ b at h3; change b ≤ (pFF p l ls).s1h at h4; change (pFF p l ls).dl ≤ c at h5; change c ≤ (pFF p l ls).dh at h6
    change pl (pFF p l ls) l 0 ≤ a - (pFF p l ls).beg at h7; change a - (pFF p l ls).beg ≤ ph (pFF p l ls) l 0 at h8
    change pl (pFF p l ls) l 1 ≤ b - a at h9; change b - a ≤ ph (pFF p l ls) l 1 at h10; change pl (pFF p l ls) l 2 ≤ c - b at h11; change c - b ≤ ph (pFF p l ls) l 2 at h12
    unfold rfBad inn
    rcases k with _ | _ | _ | k
    · simp only [z0, Bool.not_eq_false', Bool.and_eq_true, decide_eq_true_eq]; omega
    · simp only [Nat.zero_add, z1, Bool.not_eq_false', Bool.and_eq_true, decide_eq_true_eq]; omega
    · simp only [Nat.zero_add, Nat.reduceAdd, z2, Bool.not_eq_false', Bool.and_eq_true, decide_eq_true_eq]; omega
    · omega
  · intro hk
    have k0 := hk 0 (by omega); have k1 := hk 1 (by omega); have k2 := hk 2 (by omega)
    simp only [rfBad, inn, z0, z1, z2, Bool.not_eq_false', Bool.and_eq_true, decide_eq_true_eq] at k0 k1 k2
    refine ⟨endR p l ls 0, endR p l ls 1, endR p l ls 2, ?_⟩
    show Fit (pFF p l ls) l _ _ _
    constructor <;> omega
end
end Ni

namespace Ni

theorem ris_inc {p : Pl} {l : List Nat} (h : Ris p (up l) = true) : l.Pairwise (· < ·) := by
  unfold Ris at h
  rw [okAll_iff] at h
  have hl : (up l).length = l.length := by simp [up]
  have hs : ∀ i (h1 : i < l.length) (h2 : 0 < i), l[i - 1] < l[i] := fun i h1 h2 => by
    have := h i (by rw [hl]; exact h1)
    simp only [risBad, Bool.or_eq_false_iff, Bool.and_eq_false_iff, decide_eq_false_iff_not] at this
    have e : ∀ j (hj : j < l.length), (up l)[j]'(by rw [hl]; exact hj) = (l[j] : Int) := fun j hj => by simp [up]
    have h3 := this.2
    rw [e i h1, e (i - 1) (by omega)] at h3
    omega
  have step : ∀ d i (h1 : i + d + 1 < l.length), l[i] < l[i + d + 1] := by
    intro d
    induction d with
    | zero => intro i h1; have := hs (i + 1) h1 (by omega); simpa using this
    | succ d ih =>
      intro i h1
      have a := ih i (by omega)
      have b := hs (i + (d + 1) + 1) h1 (by omega)
      simp only [Nat.add_sub_cancel] at b
      have e : i + (d + 1) = i + d + 1 := by omega
      simp only [e] at b
      exact Nat.lt_trans a b
  refine List.pairwise_iff_getElem.2 fun i j h1 h2 h3 => ?_
  obtain ⟨d, rfl⟩ : ∃ d, j = i + d + 1 := ⟨j - i - 1, by omega⟩
  exact step d i h2
end Ni

namespace Ni
section
variable {p : Pl} {l : List Nat} {ls : List Int} (gp : GP p) (wp : WP p) (cv : CV p l) (inc : l.Pairwise (· < ·)) (h : lastsP p l ls = true) (hp : ∀ x ∈ l, 0 ≤ (scn p x).part ∧ (scn p x).part ≤ 2)
include cv inc h
theorem pFF_bd : ∀ x ∈ l, (scn p x).least ≤ (scn (pFF p l ls) x).least ∧ (scn (pFF p l ls) x).least ≤ (scn p x).most := fun x hx => by
  obtain ⟨j, hj, rfl⟩ := List.getElem_of_mem hx
  obtain ⟨h1, _⟩ := pF_len (ls := ls) cv inc l.length (Nat.le_refl _) j hj hj
  have h1 : (scn (pFF p l ls) l[j]).least = ls.getD j 0 := h1
  rw [h1]; exact (lasts_at h).2 j hj
theorem sL_bd (k : Nat) : pl p l k ≤ sL p l ls k ∧ sL p l ls k ≤ ph p l k := by
  have e : (fun x => inPart p k x) = (fun x => decide ((scn p x).part = k)) := rfl
  constructor
  · show lsum p (ofP p l k) ≤ _
    unfold lsum leasts ofP sL ssum
    exact sum_le fun x hx => (pFF_bd cv inc h x (List.mem_filter.1 hx).1).1
  · show _ ≤ hsum p (ofP p l k)
    unfold hsum mosts ofP sL ssum
    exact sum_le fun x hx => (pFF_bd cv inc h x (List.mem_filter.1 hx).1).2
include hp
/-- the ends of the parts, with the bounds of what lies between them -/
theorem ends_bd : (pl p l 0 ≤ endR p l ls 0 - p.beg ∧ endR p l ls 0 - p.beg ≤ ph p l 0) ∧ (pl p l 1 ≤ endR p l ls 1 - endR p l ls 0 ∧ endR p l ls 1 - endR p l ls 0 ≤ ph p l 1) ∧ (pl p l 2 ≤ endR p l ls 2 - endR p l ls 1 ∧ endR p l ls 2 - endR p l ls 1 ≤ ph p l 2) := by
  obtain ⟨e0, e1, e2⟩ := endR_eq (ls := ls) cv inc hp
  have b0 := sL_bd cv inc h 0; have b1 := sL_bd cv inc h 1; have b2 := sL_bd cv inc h 2
  simp only [Int.natCast_zero, show ((1 : Nat) : Int) = 1 from rfl, show ((2 : Nat) : Int) = 2 from rfl] at b0 b1 b2
  omega
/-- the hours of a programme that fits -/
theorem fit_of (hf : rfits p l ls = true) : Fit p l (endR p l ls 0) (endR p l ls 1) (endR p l ls 2) := by
  obtain ⟨b0, b1, b2⟩ := ends_bd cv inc h hp
  unfold rfits at hf
  rw [okAll_iff] at hf
  have k0 := hf 0 (by omega); have k1 := hf 1 (by omega); have k2 := hf 2 (by omega)
  have z0 : ((0 : Nat) : Int) = 0 := rfl
  have z1 : ((1 : Nat) : Int) = 1 := rfl
  have z2 : ((2 : Nat) : Int) = 2 := rfl
  simp only [rfBad, inn, z0, z1, z2, Bool.not_eq_false', Bool.and_eq_true, decide_eq_true_eq] at k0 k1 k2
  have w0 : wl p 0 = p.s0l := rfl
  have w0' : wh p 0 = p.s0h := rfl
  have w1 : wl p 1 = p.s1l := rfl
  have w1' : wh p 1 = p.s1h := rfl
  have w2 : wl p 2 = p.dl := rfl
  have w2' : wh p 2 = p.dh := rfl
  constructor <;> omega
include wp
theorem can_of (hf : rfits p l ls = true) : can p l = true := (can_fit wp cv).2 ⟨_, _, _, fit_of cv inc h hp hf⟩
/-- the part that fails ends on the side that is told, if those before it end in their windows -/
theorem fail_side {k : Nat} {f : Int} (hff : ffail p l = some (k, f)) (hw : ∀ j, j < k → wl p j ≤ endR p l ls j ∧ endR p l ls j ≤ wh p j) : k < 3 ∧ ((f = 1 ∧ endR p l ls k < wl p k) ∨ (f = 2 ∧ wh p k < endR p l ls k)) := by
  obtain ⟨b0, b1, b2⟩ := ends_bd cv inc h hp
  have side : ∀ {j : Nat} {e s : Int}, flt p l j ≠ 0 → (fw p l j).1 ≤ s → s ≤ (fw p l j).2 → pl p l j ≤ e - s → e - s ≤ ph p l j → (flt p l j = 1 ∧ e < wl p j) ∨ (flt p l j = 2 ∧ wh p j < e) := by
    intro j e s hz h1 h2 h3 h4
    unfold flt at hz ⊢
    split
    · left; exact ⟨rfl, by omega⟩
    · split
      · right; exact ⟨rfl, by omega⟩
      · rename_i g1 g2; rw [if_neg g1, if_neg g2] at hz; exact absurd rfl hz
  have z0 : ((0 : Nat) : Int) = 0 := rfl
  have z1 : ((1 : Nat) : Int) = 1 := rfl
  have z2 : ((2 : Nat) : Int) = 2 := rfl
  have w0 : wl p 0 = p.s0l := rfl
  have w0' : wh p 0 = p.s0h := rfl
  have w1 : wl p 1 = p.s1l := rfl
  have w1' : wh p 1 = p.s1h := rfl
  have f0 : fw p l 0 = (p.beg, p.beg) := rfl
  unfold ffail at hff
  split at hff
  · rename_i g0
    simp only [Option.some.injEq, Prod.mk.injEq] at hff
    obtain ⟨rfl, rfl⟩ := hff
    exact ⟨by omega, side g0 (Int.le_refl _) (Int.le_refl _) b0.1 b0.2⟩
  · split at hff
    · rename_i g0 g1
      simp only [Option.some.injEq, Prod.mk.injEq] at hff
      obtain ⟨rfl, rfl⟩ := hff
      have q0 := hw 0 (by omega)
      rw [z0, w0, w0'] at q0
      refine ⟨by omega, side g1 (s := endR p l ls 0) ?_ ?_ b1.1 b1.2⟩
      · rw [fw1]; simp only; omega
      · rw [fw1]; simp only; omega
    · split at hff
      · rename_i g0 g1 g2
        simp only [Option.some.injEq, Prod.mk.injEq] at hff
        obtain ⟨rfl, rfl⟩ := hff
        have q0 := hw 0 (by omega); have q1 := hw 1 (by omega)
        rw [z0, w0, w0'] at q0; rw [z1, w1, w1'] at q1
        refine ⟨by omega, side g2 (s := endR p l ls 1) ?_ ?_ b2.1 b2.2⟩
        · rw [fw2, fw1]; simp only; omega
        · rw [fw2, fw1]; simp only; omega
      · cases hff
end
end Ni

namespace Go.Proofs.YtjghdbdiejaacaaGreatDoor
open Go Go.Ab Ni
theorem en35 : Ent Tryz.prog 35 := Ent.of Tryz.func35 (by kernel_rfl) rfl
theorem en62 : Ent Tryz.prog 62 := Ent.of Tryz.func62 (by kernel_rfl) rfl
theorem en89 : Ent Tryz.prog 89 := Ent.of Tryz.func89 (by kernel_rfl) rfl
theorem en90 : Ent Tryz.prog 90 := Ent.of Tryz.func90 (by kernel_rfl) rfl
theorem en91 : Ent Tryz.prog 91 := Ent.of Tryz.func91 (by kernel_rfl) rfl
set_option maxHeartbeats 400000 in
/-- kelir/kelirref03.in -/
theorem in_pure (n lo hi : Int) : APure Tryz.prog 89 [I n, I lo, I hi] (B (inn n lo hi)) := by
 refine apure_of (rs := [.tmp 6]) Tryz.func89 rfl rfl (Nat.le_of_ble_eq_true rfl) (by simp [AV.pureL, AV.pureB, AV.pureE, pureE_map]) (rfl) fun e0 he0 => ?_
 refine aw_seq (aw_region ?_)
 refine asr (lr _) rfl ?_
 refine sq_nil (aw_seq (aw_region ?_))
 refine mvr (lr _) rfl ?_
 refine mvr (lr _) rfl ?_
 refine sq_ev rfl (ev_geq (lr _) (lr _)) ?_
 refine mvr (lr _) rfl ?_
 refine sq_split 10 (lr _) (fun g1 => ?_) (fun g1 => ?_)
 ·
  have g1' := g1
  try simp only [qq] at g1'
  refine sq_yes rfl rfl (less_b g1) rfl (ev_mv (v := .raw _) (lr _)) ?_
  refine sq_yes rfl rfl (less_b g1) rfl (ev_mv (v := .raw _) (lr _)) ?_
  refine sq_yes rfl rfl (less_b g1) rfl (ev_leq (lr _) (lr _)) ?_
  refine sq_ev rfl (ev_pickT (v := .raw _) (less_b g1) (lr _)) ?_
  refine asr (lr _) rfl ?_
  refine sq_nil (aw_ret ?_)
  exact retQ_pure (v := .raw _) rfl rfl (Less.eq (by simp [inn, *]))
 ·
  have g1' := g1
  try simp only [qq] at g1'
  refine sq_no rfl rfl (less_b g1) rfl rfl ?_
  refine sq_no rfl rfl (less_b g1) rfl rfl ?_
  refine sq_no rfl rfl (less_b g1) rfl rfl ?_
  refine sq_ev rfl (ev_pickF (v := .raw _) (less_b g1) (lr _)) ?_
  refine asr (lr _) rfl ?_
  refine sq_nil (aw_ret ?_)
  exact retQ_pure (v := .raw _) rfl rfl (Less.eq (by simp [inn, *]))

set_option maxHeartbeats 400000 in
/-- kelir/kelirref03.window -/
theorem window_pure (lo hi : Int) : APure Tryz.prog 90 [.agg [I lo, I hi]] (B (wnd lo hi)) := by
 refine apure_of (rs := [.tmp 2]) Tryz.func90 rfl rfl (Nat.le_of_ble_eq_true rfl) (by simp [AV.pureL, AV.pureB, AV.pureE, pureE_map]) (rfl) fun e0 he0 => ?_
 refine aw_seq (aw_region ?_)
 refine sq_box rfl (lr _) rfl ?_
 refine asr (lr _) rfl ?_
 refine sq_nil (aw_seq (aw_region ?_))
 refine sq_ev rfl (ev_fieldAddr fo23_0 (lr _)) ?_
 refine sq_ev rfl (ev_load (lr _) rfl ty3 rfl) ?_
 refine sq_ev rfl (ev_call en89 (lr _) (in_pure _ _ _) ⟨lr _, lr _, lr _, trivial⟩) ?_
 refine mvr (lr _) rfl ?_
 refine sq_split 6 (lr _) (fun g1 => ?_) (fun g1 => ?_)
 ·
  have g1' := g1
  try simp only [qq] at g1'
  refine sq_yes rfl rfl (less_b g1) rfl (ev_fieldAddr fo23_1 (lr _)) ?_
  refine sq_yes rfl rfl (less_b g1) rfl (ev_load (lr _) rfl ty3 rfl) ?_
  refine sq_yes rfl rfl (less_b g1) rfl (ev_fieldAddr fo23_0 (lr _)) ?_
  refine sq_yes rfl rfl (less_b g1) rfl (ev_load (lr _) rfl ty3 rfl) ?_
  refine sq_yes rfl rfl (less_b g1) rfl (ev_call en89 (lr _) (in_pure _ _ _) ⟨lr _, lr _, lr _, trivial⟩) ?_
  refine sq_ev rfl (ev_pickT (v := .raw _) (less_b g1) (lr _)) ?_
  refine mvr (lr _) rfl ?_
  refine sq_split 13 (lr _) (fun g2 => ?_) (fun g2 => ?_)
  ·
   have g2' := g2
   try simp only [qq] at g2'
   simp only [inn, Bool.and_eq_true, decide_eq_true_eq] at g1' g2'
   refine sq_yes rfl rfl (less_b g2) rfl (ev_fieldAddr fo23_1 (lr _)) ?_
   refine sq_yes rfl rfl (less_b g2) rfl (ev_load (lr _) rfl ty3 rfl) ?_
   refine sq_yes rfl rfl (less_b g2) rfl (ev_fieldAddr fo23_0 (lr _)) ?_
   refine sq_yes rfl rfl (less_b g2) rfl (ev_load (lr _) rfl ty3 rfl) ?_
   refine sq_yes rfl rfl (less_b g2) rfl (ev_sub (lr _) (lr _) (wr (by omega) (by omega))) ?_
   refine sq_yes rfl rfl (less_b g2) rfl (ev_leq (lr _) (lr _)) ?_
   refine sq_ev rfl (ev_pickT (v := .raw _) (less_b g2) (lr _)) ?_
   refine asr (lr _) rfl ?_
   refine sq_nil (aw_ret ?_)
   exact retQ_pure (v := .raw _) rfl rfl (Less.eq (by simp [wnd, *]))
  ·
   have g2' := g2
   try simp only [qq] at g2'
   refine sq_no rfl rfl (less_b g2) rfl rfl ?_
   refine sq_no rfl rfl (less_b g2) rfl rfl ?_
   refine sq_no rfl rfl (less_b g2) rfl rfl ?_
   refine sq_no rfl rfl (less_b g2) rfl rfl ?_
   refine sq_no rfl rfl (less_b g2) rfl rfl ?_
   refine sq_no rfl rfl (less_b g2) rfl rfl ?_
   refine sq_ev rfl (ev_pickF (v := .raw _) (less_b g2) (lr _)) ?_
   refine asr (lr _) rfl ?_
   refine sq_nil (aw_ret ?_)
   exact retQ_pure (v := .raw _) rfl rfl (Less.eq (by simp [wnd, *]))
 ·
  have g1' := g1
  try simp only [qq] at g1'
  refine sq_no rfl rfl (less_b g1) rfl rfl ?_
  refine sq_no rfl rfl (less_b g1) rfl rfl ?_
  refine sq_no rfl rfl (less_b g1) rfl rfl ?_
  refine sq_no rfl rfl (less_b g1) rfl rfl ?_
  refine sq_no rfl rfl (less_b g1) rfl rfl ?_
  refine sq_ev rfl (ev_pickF (v := .raw _) (less_b g1) (lr _)) ?_
  refine mvr (lr _) rfl ?_
  refine sq_no rfl rfl (lr _) rfl rfl ?_
  refine sq_no rfl rfl (lr _) rfl rfl ?_
  refine sq_no rfl rfl (lr _) rfl rfl ?_
  refine sq_no rfl rfl (lr _) rfl rfl ?_
  refine sq_no rfl rfl (lr _) rfl rfl ?_
  refine sq_no rfl rfl (lr _) rfl rfl ?_
  refine sq_ev rfl (ev_pickF (v := .raw _) (lr _) (lr _)) ?_
  refine asr (lr _) rfl ?_
  refine sq_nil (aw_ret ?_)
  exact retQ_pure (v := .raw _) rfl rfl (Less.eq (by simp [wnd, *]))

set_option maxHeartbeats 2000000 in
/-- kelir/kelirref03.scenes -/
theorem scenes_pure (p : Pl) (hl : p.scenes.length ≤ 1000000) : APure Tryz.prog 91 [plan p] (B (decide (ScOK p.scenes))) := by
 refine apure_of (rs := [.tmp 2]) Tryz.func91 rfl rfl (Nat.le_of_ble_eq_true rfl) (by simp [AV.pureL, AV.pureB, AV.pureE, pureE_map]) (rfl) fun e0 he0 => ?_
 refine aw_seq (aw_region ?_)
 refine sq_box rfl (lr _) rfl ?_
 refine asr (lr _) rfl ?_
 refine sq_nil (aw_seq (aw_region ?_))
 refine asr (lr _) rfl ?_
 refine sq_nil (aw_seq (aw_seq (aw_region ?_)))
 refine asr (lr _) rfl ?_
 refine sq_nil (aw_block ?_)
 refine aw_loopk (ι := { k : Nat // k ≤ p.scenes.length ∧ ∀ i, (h : i < p.scenes.length) → i < k → scBad p.scenes i h = false }) [1] (fun i => [(3, I (loosies (p.scenes.take i.1))), (4, I i.1)]) (fun H i => H) (fun i => p.scenes.length - i.1) (⟨0, Nat.zero_le _, by omega⟩) ⟨lr _, lr _, lr _, trivial⟩ rfl ?_
 rintro ⟨k, hk, hok⟩
 dsimp only [keepS, St.put, sget, slotsOf, List.map_cons, List.map_nil, List.cons_append, List.nil_append, List.length_cons, List.length_nil, Nat.reduceBEq, Nat.reduceAdd, cond_true, cond_false]
 have hlo := loosies_le (p.scenes.take k)
 have hlt := List.length_take_le k p.scenes
 refine aw_seq (aw_seq (aw_region ?_))
 refine mvr (lr _) rfl ?_
 refine sq_ev rfl (ev_fieldAddr fo27_3 (lr _)) ?_
 refine sq_ev rfl (ev_load (lr _) rfl ty25 rfl) ?_
 refine sq_ev rfl (ev_len_map sl25 (lr _)) ?_
 refine sq_ev rfl (ev_lss (lr _) (lr _)) ?_
 refine sq_nil ?_
 refine aw_cond (lr _) (fun c1 => ?_) (fun c1 => ?_)
 ·
  have c1' := c1
  try simp only [qq] at c1'
  refine aw_skip (aw_seq (aw_block (aw_seq (aw_region ?_))))
  refine sq_ev rfl (ev_fieldAddr fo27_3 (lr _)) ?_
  refine sq_ev rfl (ev_load (lr _) rfl ty25 rfl) ?_
  refine mvr (lr _) rfl ?_
  refine sq_ev rfl (ev_index_map sl25 (lr _) (lr _) rfl (by omega)) ?_
  refine sq_ev rfl (ev_load_agg_i (lr _) ty84 (Nat.le_of_ble_eq_true rfl)) ?_
  refine sq_alloc rfl z84 ?_
  refine sq_store rfl (lr _) (lr _) rfl rfl ty84 rfl rfl ?_
  refine sq_nil (aw_seq (aw_seq ?_))
  refine aw_draw 50 mo (by kernel_rfl) ?_
  refine dr_ev rfl (ev_fieldAddr fo84_0 (lr _)) ?_
  refine dr_ev rfl (ev_load (lr _) rfl ty3 rfl) ?_
  refine dr_ev rfl (ev_call en89 (lr _) (in_pure _ _ _) ⟨lr _, lr _, lr _, trivial⟩) ?_
  refine dr_ev rfl (ev_not (lr _)) ?_
  refine dr_ev rfl (ev_mv (v := .raw _) (lr _)) ?_
  refine dr_split 22 (lr _) (fun g2 => ?_) (fun g2 => ?_)
  ·
   have g2' := g2
   try simp only [qq] at g2'
   refine dr_no rfl rfl (less_b g2) rfl rfl ?_
   refine dr_no rfl rfl (less_b g2) rfl rfl ?_
   refine dr_no rfl rfl (less_b g2) rfl rfl ?_
   refine dr_no rfl rfl (lr _) rfl rfl ?_
   refine dr_no rfl rfl (lr _) rfl rfl ?_
   refine dr_no rfl rfl (lr _) rfl rfl ?_
   refine dr_no rfl rfl (lr _) rfl rfl ?_
   refine dr_no rfl rfl (lr _) rfl rfl ?_
   refine dr_no rfl rfl (lr _) rfl rfl ?_
   refine dr_no rfl rfl (lr _) rfl rfl ?_
   refine dr_no rfl rfl (lr _) rfl rfl ?_
   refine dr_no rfl rfl (lr _) rfl rfl ?_
   refine dr_no rfl rfl (lr _) rfl rfl ?_
   refine dr_no rfl rfl (less_b g2) rfl rfl ?_
   refine dr_ev rfl (ev_pickT (v := .raw _) (less_b g2) (lr _)) ?_
   refine dr_ev rfl (ev_mv (v := .raw _) (lr _)) ?_
   refine dr_no rfl rfl (lr _) rfl rfl ?_
   refine dr_no rfl rfl (lr _) rfl rfl ?_
   refine dr_no rfl rfl (lr _) rfl rfl ?_
   refine dr_no rfl rfl (lr _) rfl rfl ?_
   refine dr_ev rfl (ev_pickT (v := .raw _) (lr _) (lr _)) ?_
   refine dr_ev rfl (ev_mv (v := .raw _) (lr _)) ?_
   refine dr_no rfl rfl (lr _) rfl rfl ?_
   refine dr_no rfl rfl (lr _) rfl rfl ?_
   refine dr_no rfl rfl (lr _) rfl rfl ?_
   refine dr_no rfl rfl (lr _) rfl rfl ?_
   refine dr_no rfl rfl (lr _) rfl rfl ?_
   refine dr_no rfl rfl (lr _) rfl rfl ?_
   refine dr_ev rfl (ev_pickT (v := .raw _) (lr _) (lr _)) ?_
   refine dr_ev rfl (ev_mv (v := .raw _) (lr _)) ?_
   refine dr_no rfl rfl (lr _) rfl rfl ?_
   refine dr_no rfl rfl (lr _) rfl rfl ?_
   refine dr_no rfl rfl (lr _) rfl rfl ?_
   refine dr_no rfl rfl (lr _) rfl rfl ?_
   refine dr_no rfl rfl (lr _) rfl rfl ?_
   refine dr_no rfl rfl (lr _) rfl rfl ?_
   refine dr_no rfl rfl (lr _) rfl rfl ?_
   refine dr_no rfl rfl (lr _) rfl rfl ?_
   refine dr_ev rfl (ev_pickT (v := .raw _) (lr _) (lr _)) ?_
   refine dr_ev rfl (ev_mv (v := .raw _) (lr _)) ?_
   refine dr_no rfl rfl (lr _) rfl rfl ?_
   refine dr_no rfl rfl (lr _) rfl rfl ?_
   refine dr_no rfl rfl (lr _) rfl rfl ?_
   refine dr_no rfl rfl (lr _) rfl rfl ?_
   refine dr_ev rfl (ev_pickT (v := .raw _) (lr _) (lr _)) ?_
   refine dr_end (sq_nil ?_)
   refine aw_true (lr _) ?_
   refine aw_seq (aw_region ?_)
   refine asr (lr _) rfl ?_
   refine sq_nil (aw_ret ?_)
   exact retQ_pure (v := .raw _) rfl rfl (Less.eq (by rw [scOK_bad (i := k) (by omega) (by simp [scBad, *])]))
  ·
   have g2' := g2
   try simp only [qq] at g2'
   refine dr_yes rfl rfl (less_b g2) rfl (ev_mv (v := .raw _) (lr _)) ?_
   refine dr_yes rfl rfl (less_b g2) rfl (ev_gtr (lr _) (lr _)) ?_
   refine dr_yes rfl rfl (less_b g2) rfl (ev_mv (v := .raw _) (lr _)) ?_
   refine dr_split 25 (lr _) (fun g3 => ?_) (fun g3 => ?_)
   ·
    have g3' := g3
    try simp only [qq] at g3'
    have g3n : 0 < k := by omega
    refine dr_yes rfl rfl (less_b g3) rfl (ev_fieldAddr fo84_0 (lr _)) ?_
    refine dr_yes rfl rfl (less_b g3) rfl (ev_load (lr _) rfl ty3 rfl) ?_
    refine dr_yes rfl rfl (less_b g3) rfl (ev_fieldAddr fo27_3 (lr _)) ?_
    refine dr_yes rfl rfl (less_b g3) rfl (ev_load (lr _) rfl ty25 rfl) ?_
    refine dr_yes rfl rfl (less_b g3) rfl (ev_mv (v := .raw _) (lr _)) ?_
    refine dr_yes rfl rfl (less_b g3) rfl (ev_sub (lr _) (lr _) (wr (by omega) (by omega))) ?_
    refine dr_yes rfl rfl (less_b g3) rfl (ev_index_map sl25 (lr _) (lr _) (show ((k : Int) - 1) = ((k - 1 : Nat) : Int) by omega) (by omega)) ?_
    refine dr_yes rfl rfl (less_b g3) rfl (ev_fieldAddr_i fo84_0 (lr _)) ?_
    refine dr_yes rfl rfl (less_b g3) rfl (ev_load_i (lr _) ty3 rfl) ?_
    refine dr_yes rfl rfl (less_b g3) rfl (ev_lss (lr _) (lr _)) ?_
    refine dr_yes rfl rfl (less_b g2) rfl (ev_pickT (v := .raw _) (less_b g3) (lr _)) ?_
    refine dr_ev rfl (ev_pickF (v := .raw _) (less_b g2) (lr _)) ?_
    refine dr_ev rfl (ev_mv (v := .raw _) (lr _)) ?_
    refine dr_split 38 (lr _) (fun g4 => ?_) (fun g4 => ?_)
    ·
     have g4' := g4
     try simp only [qq] at g4'
     refine dr_no rfl rfl (less_b g4) rfl rfl ?_
     refine dr_no rfl rfl (less_b g4) rfl rfl ?_
     refine dr_no rfl rfl (less_b g4) rfl rfl ?_
     refine dr_no rfl rfl (less_b g4) rfl rfl ?_
     refine dr_ev rfl (ev_pickT (v := .raw _) (less_b g4) (lr _)) ?_
     refine dr_ev rfl (ev_mv (v := .raw _) (lr _)) ?_
     refine dr_no rfl rfl (lr _) rfl rfl ?_
     refine dr_no rfl rfl (lr _) rfl rfl ?_
     refine dr_no rfl rfl (lr _) rfl rfl ?_
     refine dr_no rfl rfl (lr _) rfl rfl ?_
     refine dr_no rfl rfl (lr _) rfl rfl ?_
     refine dr_no rfl rfl (lr _) rfl rfl ?_
     refine dr_ev rfl (ev_pickT (v := .raw _) (lr _) (lr _)) ?_
     refine dr_ev rfl (ev_mv (v := .raw _) (lr _)) ?_
     refine dr_no rfl rfl (lr _) rfl rfl ?_
     refine dr_no rfl rfl (lr _) rfl rfl ?_
     refine dr_no rfl rfl (lr _) rfl rfl ?_
     refine dr_no rfl rfl (lr _) rfl rfl ?_
     refine dr_no rfl rfl (lr _) rfl rfl ?_
     refine dr_no rfl rfl (lr _) rfl rfl ?_
     refine dr_no rfl rfl (lr _) rfl rfl ?_
     refine dr_no rfl rfl (lr _) rfl rfl ?_
     refine dr_ev rfl (ev_pickT (v := .raw _) (lr _) (lr _)) ?_
     refine dr_ev rfl (ev_mv (v := .raw _) (lr _)) ?_
     refine dr_no rfl rfl (lr _) rfl rfl ?_
     refine dr_no rfl rfl (lr _) rfl rfl ?_
     refine dr_no rfl rfl (lr _) rfl rfl ?_
     refine dr_no rfl rfl (lr _) rfl rfl ?_
     refine dr_ev rfl (ev_pickT (v := .raw _) (lr _) (lr _)) ?_
     refine dr_end (sq_nil ?_)
     refine aw_true (lr _) ?_
     refine aw_seq (aw_region ?_)
     refine asr (lr _) rfl ?_
     refine sq_nil (aw_ret ?_)
     exact retQ_pure (v := .raw _) rfl rfl (Less.eq (by rw [scOK_bad (i := k) (by omega) (by simp [scBad, *])]))
    ·
     have g4' := g4
     try simp only [qq] at g4'
     refine dr_yes rfl rfl (less_b g4) rfl (ev_fieldAddr fo84_1 (lr _)) ?_
     refine dr_yes rfl rfl (less_b g4) rfl (ev_load (lr _) rfl ty3 rfl) ?_
     refine dr_yes rfl rfl (less_b g4) rfl (ev_call en89 (lr _) (in_pure _ _ _) ⟨lr _, lr _, lr _, trivial⟩) ?_
     refine dr_yes rfl rfl (less_b g4) rfl (ev_not (lr _)) ?_
     refine dr_ev rfl (ev_pickF (v := .raw _) (less_b g4) (lr _)) ?_
     refine dr_ev rfl (ev_mv (v := .raw _) (lr _)) ?_
     refine dr_split 44 (lr _) (fun g5 => ?_) (fun g5 => ?_)
     ·
      have g5' := g5
      try simp only [qq] at g5'
      refine dr_no rfl rfl (less_b g5) rfl rfl ?_
      refine dr_no rfl rfl (less_b g5) rfl rfl ?_
      refine dr_no rfl rfl (less_b g5) rfl rfl ?_
      refine dr_no rfl rfl (less_b g5) rfl rfl ?_
      refine dr_no rfl rfl (less_b g5) rfl rfl ?_
      refine dr_no rfl rfl (less_b g5) rfl rfl ?_
      refine dr_ev rfl (ev_pickT (v := .raw _) (less_b g5) (lr _)) ?_
      refine dr_ev rfl (ev_mv (v := .raw _) (lr _)) ?_
      refine dr_no rfl rfl (lr _) rfl rfl ?_
      refine dr_no rfl rfl (lr _) rfl rfl ?_
      refine dr_no rfl rfl (lr _) rfl rfl ?_
      refine dr_no rfl rfl (lr _) rfl rfl ?_
      refine dr_no rfl rfl (lr _) rfl rfl ?_
      refine dr_no rfl rfl (lr _) rfl rfl ?_
      refine dr_no rfl rfl (lr _) rfl rfl ?_
      refine dr_no rfl rfl (lr _) rfl rfl ?_
      refine dr_ev rfl (ev_pickT (v := .raw _) (lr _) (lr _)) ?_
      refine dr_ev rfl (ev_mv (v := .raw _) (lr _)) ?_
      refine dr_no rfl rfl (lr _) rfl rfl ?_
      refine dr_no rfl rfl (lr _) rfl rfl ?_
      refine dr_no rfl rfl (lr _) rfl rfl ?_
      refine dr_no rfl rfl (lr _) rfl rfl ?_
      refine dr_ev rfl (ev_pickT (v := .raw _) (lr _) (lr _)) ?_
      refine dr_end (sq_nil ?_)
      refine aw_true (lr _) ?_
      refine aw_seq (aw_region ?_)
      refine asr (lr _) rfl ?_
      refine sq_nil (aw_ret ?_)
      exact retQ_pure (v := .raw _) rfl rfl (Less.eq (by rw [scOK_bad (i := k) (by omega) (by simp [scBad, *])]))
     ·
      have g5' := g5
      try simp only [qq] at g5'
      refine dr_yes rfl rfl (less_b g5) rfl (ev_fieldAddr fo84_2 (lr _)) ?_
      refine dr_yes rfl rfl (less_b g5) rfl (ev_load (lr _) rfl ty3 rfl) ?_
      refine dr_yes rfl rfl (less_b g5) rfl (ev_fieldAddr fo84_1 (lr _)) ?_
      refine dr_yes rfl rfl (less_b g5) rfl (ev_load (lr _) rfl ty3 rfl) ?_
      refine dr_yes rfl rfl (less_b g5) rfl (ev_call en89 (lr _) (in_pure _ _ _) ⟨lr _, lr _, lr _, trivial⟩) ?_
      refine dr_yes rfl rfl (less_b g5) rfl (ev_not (lr _)) ?_
      refine dr_ev rfl (ev_pickF (v := .raw _) (less_b g5) (lr _)) ?_
      refine dr_ev rfl (ev_mv (v := .raw _) (lr _)) ?_
      refine dr_split 52 (lr _) (fun g6 => ?_) (fun g6 => ?_)
      ·
       have g6' := g6
       try simp only [qq] at g6'
       refine dr_no rfl rfl (less_b g6) rfl rfl ?_
       refine dr_no rfl rfl (less_b g6) rfl rfl ?_
       refine dr_no rfl rfl (less_b g6) rfl rfl ?_
       refine dr_no rfl rfl (less_b g6) rfl rfl ?_
       refine dr_no rfl rfl (less_b g6) rfl rfl ?_
       refine dr_no rfl rfl (less_b g6) rfl rfl ?_
       refine dr_no rfl rfl (less_b g6) rfl rfl ?_
       refine dr_no rfl rfl (less_b g6) rfl rfl ?_
       refine dr_ev rfl (ev_pickT (v := .raw _) (less_b g6) (lr _)) ?_
       refine dr_ev rfl (ev_mv (v := .raw _) (lr _)) ?_
       refine dr_no rfl rfl (lr _) rfl rfl ?_
       refine dr_no rfl rfl (lr _) rfl rfl ?_
       refine dr_no rfl rfl (lr _) rfl rfl ?_
       refine dr_no rfl rfl (lr _) rfl rfl ?_
       refine dr_ev rfl (ev_pickT (v := .raw _) (lr _) (lr _)) ?_
       refine dr_end (sq_nil ?_)
       refine aw_true (lr _) ?_
       refine aw_seq (aw_region ?_)
       refine asr (lr _) rfl ?_
       refine sq_nil (aw_ret ?_)
       exact retQ_pure (v := .raw _) rfl rfl (Less.eq (by rw [scOK_bad (i := k) (by omega) (by simp [scBad, *])]))
      ·
       have g6' := g6
       try simp only [qq] at g6'
       refine dr_yes rfl rfl (less_b g6) rfl (ev_fieldAddr fo84_4 (lr _)) ?_
       refine dr_yes rfl rfl (less_b g6) rfl (ev_load (lr _) rfl ty3 rfl) ?_
       refine dr_yes rfl rfl (less_b g6) rfl (ev_fieldAddr fo27_3 (lr _)) ?_
       refine dr_yes rfl rfl (less_b g6) rfl (ev_load (lr _) rfl ty25 rfl) ?_
       refine dr_yes rfl rfl (less_b g6) rfl (ev_len_map sl25 (lr _)) ?_
       refine dr_yes rfl rfl (less_b g6) rfl (ev_sub (lr _) (lr _) (wr (by omega) (by omega))) ?_
       refine dr_yes rfl rfl (less_b g6) rfl (ev_call en89 (lr _) (in_pure _ _ _) ⟨lr _, lr _, lr _, trivial⟩) ?_
       refine dr_yes rfl rfl (less_b g6) rfl (ev_not (lr _)) ?_
       refine dr_ev rfl (ev_pickF (v := .raw _) (less_b g6) (lr _)) ?_
       refine dr_ev rfl (ev_mv (v := .raw _) (lr _)) ?_
       refine dr_split 62 (lr _) (fun g7 => ?_) (fun g7 => ?_)
       ·
        have g7' := g7
        try simp only [qq] at g7'
        refine dr_no rfl rfl (less_b g7) rfl rfl ?_
        refine dr_no rfl rfl (less_b g7) rfl rfl ?_
        refine dr_no rfl rfl (less_b g7) rfl rfl ?_
        refine dr_no rfl rfl (less_b g7) rfl rfl ?_
        refine dr_ev rfl (ev_pickT (v := .raw _) (less_b g7) (lr _)) ?_
        refine dr_end (sq_nil ?_)
        refine aw_true (lr _) ?_
        refine aw_seq (aw_region ?_)
        refine asr (lr _) rfl ?_
        refine sq_nil (aw_ret ?_)
        exact retQ_pure (v := .raw _) rfl rfl (Less.eq (by rw [scOK_bad (i := k) (by omega) (by simp [scBad, *])]))
       ·
        have g7' := g7
        try simp only [qq] at g7'
        refine dr_yes rfl rfl (less_b g7) rfl (ev_fieldAddr fo84_4 (lr _)) ?_
        refine dr_yes rfl rfl (less_b g7) rfl (ev_load (lr _) rfl ty3 rfl) ?_
        refine dr_yes rfl rfl (less_b g7) rfl (ev_mv (v := .raw _) (lr _)) ?_
        refine dr_yes rfl rfl (less_b g7) rfl (ev_eql (lr _) (lr _)) ?_
        refine dr_ev rfl (ev_pickF (v := .raw _) (less_b g7) (lr _)) ?_
        refine dr_end (sq_nil ?_)
        refine aw_cond (lr _) (fun c8 => ?_) (fun c8 => ?_)
        ·
         have c8' := c8
         try simp only [qq] at c8'
         refine aw_seq (aw_region ?_)
         refine asr (lr _) rfl ?_
         refine sq_nil (aw_ret ?_)
         exact retQ_pure (v := .raw _) rfl rfl (Less.eq (by rw [scOK_bad (i := k) (by omega) (by simp [scBad, *])]))
        ·
         have c8' := c8
         try simp only [qq] at c8'
         refine aw_skip (aw_seq (aw_region ?_))
         refine sq_ev rfl (ev_fieldAddr fo84_3 (lr _)) ?_
         refine sq_ev rfl (ev_load (lr _) rfl ty4 rfl) ?_
         refine sq_nil ?_
         refine aw_cond (lr _) (fun c9 => ?_) (fun c9 => ?_)
         ·
          have c9' := c9
          try simp only [qq] at c9'
          refine aw_region ?_
          refine mvr (lr _) rfl ?_
          refine sq_ev rfl (ev_add (lr _) (lr _) (wr (by omega) (by omega))) ?_
          refine asr (lr _) rfl ?_
          refine sq_nil (aw_region ?_)
          refine mvr (lr _) rfl ?_
          refine sq_ev rfl (ev_add (lr _) (lr _) (wr (by omega) (by omega))) ?_
          refine asr (lr _) rfl ?_
          refine sq_nil ?_
          have hstep := loosies_take (l := p.scenes) (k := k) (by omega)
          have hgood : scBad p.scenes k (by omega) = false := by simp [scBad, *]
          exact ⟨⟨k + 1, by omega, fun i h hi => (by by_cases e : i = k; (subst e; exact hgood); exact hok i h (by omega))⟩, by simp only; omega, Sub.fin 1 ⟨less_int (by rw [hstep]; simp [*]), lr _, lr _, trivial⟩ rfl (by simp [slotsIn, objsIn, sget, keepS, AObj.inB, AV.inB, AV.inL, AV.inE, inE_map]) (by simp [slotsIn, objsIn, sget, keepS, AObj.inB, AV.inB, AV.inL, AV.inE, inE_map]) (by simp [he0])⟩
         ·
          have c9' := c9
          try simp only [qq] at c9'
          refine aw_skip (aw_region ?_)
          refine mvr (lr _) rfl ?_
          refine sq_ev rfl (ev_add (lr _) (lr _) (wr (by omega) (by omega))) ?_
          refine asr (lr _) rfl ?_
          refine sq_nil ?_
          have hstep := loosies_take (l := p.scenes) (k := k) (by omega)
          have hgood : scBad p.scenes k (by omega) = false := by simp [scBad, *]
          exact ⟨⟨k + 1, by omega, fun i h hi => (by by_cases e : i = k; (subst e; exact hgood); exact hok i h (by omega))⟩, by simp only; omega, Sub.fin 1 ⟨less_int (by rw [hstep]; simp [*]), lr _, lr _, trivial⟩ rfl (by simp [slotsIn, objsIn, sget, keepS, AObj.inB, AV.inB, AV.inL, AV.inE, inE_map]) (by simp [slotsIn, objsIn, sget, keepS, AObj.inB, AV.inB, AV.inL, AV.inE, inE_map]) (by simp [he0])⟩
   ·
    have g3' := g3
    try simp only [qq] at g3'
    have g3n : ¬ (0 < k) := by omega
    refine dr_no rfl rfl (less_b g3) rfl rfl ?_
    refine dr_no rfl rfl (less_b g3) rfl rfl ?_
    refine dr_no rfl rfl (less_b g3) rfl rfl ?_
    refine dr_no rfl rfl (less_b g3) rfl rfl ?_
    refine dr_no rfl rfl (less_b g3) rfl rfl ?_
    refine dr_no rfl rfl (less_b g3) rfl rfl ?_
    refine dr_no rfl rfl (less_b g3) rfl rfl ?_
    refine dr_no rfl rfl (less_b g3) rfl rfl ?_
    refine dr_no rfl rfl (less_b g3) rfl rfl ?_
    refine dr_no rfl rfl (less_b g3) rfl rfl ?_
    refine dr_yes rfl rfl (less_b g2) rfl (ev_pickF (v := .raw _) (less_b g3) (lr _)) ?_
    refine dr_ev rfl (ev_pickF (v := .raw _) (less_b g2) (lr _)) ?_
    refine dr_ev rfl (ev_mv (v := .raw _) (lr _)) ?_
    refine dr_yes rfl rfl (lr _) rfl (ev_fieldAddr fo84_1 (lr _)) ?_
    refine dr_yes rfl rfl (lr _) rfl (ev_load (lr _) rfl ty3 rfl) ?_
    refine dr_yes rfl rfl (lr _) rfl (ev_call en89 (lr _) (in_pure _ _ _) ⟨lr _, lr _, lr _, trivial⟩) ?_
    refine dr_yes rfl rfl (lr _) rfl (ev_not (lr _)) ?_
    refine dr_ev rfl (ev_pickF (v := .raw _) (lr _) (lr _)) ?_
    refine dr_ev rfl (ev_mv (v := .raw _) (lr _)) ?_
    refine dr_split 44 (lr _) (fun g10 => ?_) (fun g10 => ?_)
    ·
     have g10' := g10
     try simp only [qq] at g10'
     refine dr_no rfl rfl (less_b g10) rfl rfl ?_
     refine dr_no rfl rfl (less_b g10) rfl rfl ?_
     refine dr_no rfl rfl (less_b g10) rfl rfl ?_
     refine dr_no rfl rfl (less_b g10) rfl rfl ?_
     refine dr_no rfl rfl (less_b g10) rfl rfl ?_
     refine dr_no rfl rfl (less_b g10) rfl rfl ?_
     refine dr_ev rfl (ev_pickT (v := .raw _) (less_b g10) (lr _)) ?_
     refine dr_ev rfl (ev_mv (v := .raw _) (lr _)) ?_
     refine dr_no rfl rfl (lr _) rfl rfl ?_
     refine dr_no rfl rfl (lr _) rfl rfl ?_
     refine dr_no rfl rfl (lr _) rfl rfl ?_
     refine dr_no rfl rfl (lr _) rfl rfl ?_
     refine dr_no rfl rfl (lr _) rfl rfl ?_
     refine dr_no rfl rfl (lr _) rfl rfl ?_
     refine dr_no rfl rfl (lr _) rfl rfl ?_
     refine dr_no rfl rfl (lr _) rfl rfl ?_
     refine dr_ev rfl (ev_pickT (v := .raw _) (lr _) (lr _)) ?_
     refine dr_ev rfl (ev_mv (v := .raw _) (lr _)) ?_
     refine dr_no rfl rfl (lr _) rfl rfl ?_
     refine dr_no rfl rfl (lr _) rfl rfl ?_
     refine dr_no rfl rfl (lr _) rfl rfl ?_
     refine dr_no rfl rfl (lr _) rfl rfl ?_
     refine dr_ev rfl (ev_pickT (v := .raw _) (lr _) (lr _)) ?_
     refine dr_end (sq_nil ?_)
     refine aw_true (lr _) ?_
     refine aw_seq (aw_region ?_)
     refine asr (lr _) rfl ?_
     refine sq_nil (aw_ret ?_)
     exact retQ_pure (v := .raw _) rfl rfl (Less.eq (by rw [scOK_bad (i := k) (by omega) (by simp [scBad, *])]))
    ·
     have g10' := g10
     try simp only [qq] at g10'
     refine dr_yes rfl rfl (less_b g10) rfl (ev_fieldAddr fo84_2 (lr _)) ?_
     refine dr_yes rfl rfl (less_b g10) rfl (ev_load (lr _) rfl ty3 rfl) ?_
     refine dr_yes rfl rfl (less_b g10) rfl (ev_fieldAddr fo84_1 (lr _)) ?_
     refine dr_yes rfl rfl (less_b g10) rfl (ev_load (lr _) rfl ty3 rfl) ?_
     refine dr_yes rfl rfl (less_b g10) rfl (ev_call en89 (lr _) (in_pure _ _ _) ⟨lr _, lr _, lr _, trivial⟩) ?_
     refine dr_yes rfl rfl (less_b g10) rfl (ev_not (lr _)) ?_
     refine dr_ev rfl (ev_pickF (v := .raw _) (less_b g10) (lr _)) ?_
     refine dr_ev rfl (ev_mv (v := .raw _) (lr _)) ?_
     refine dr_split 52 (lr _) (fun g11 => ?_) (fun g11 => ?_)
     ·
      have g11' := g11
      try simp only [qq] at g11'
      refine dr_no rfl rfl (less_b g11) rfl rfl ?_
      refine dr_no rfl rfl (less_b g11) rfl rfl ?_
      refine dr_no rfl rfl (less_b g11) rfl rfl ?_
      refine dr_no rfl rfl (less_b g11) rfl rfl ?_
      refine dr_no rfl rfl (less_b g11) rfl rfl ?_
      refine dr_no rfl rfl (less_b g11) rfl rfl ?_
      refine dr_no rfl rfl (less_b g11) rfl rfl ?_
      refine dr_no rfl rfl (less_b g11) rfl rfl ?_
      refine dr_ev rfl (ev_pickT (v := .raw _) (less_b g11) (lr _)) ?_
      refine dr_ev rfl (ev_mv (v := .raw _) (lr _)) ?_
      refine dr_no rfl rfl (lr _) rfl rfl ?_
      refine dr_no rfl rfl (lr _) rfl rfl ?_
      refine dr_no rfl rfl (lr _) rfl rfl ?_
      refine dr_no rfl rfl (lr _) rfl rfl ?_
      refine dr_ev rfl (ev_pickT (v := .raw _) (lr _) (lr _)) ?_
      refine dr_end (sq_nil ?_)
      refine aw_true (lr _) ?_
      refine aw_seq (aw_region ?_)
      refine asr (lr _) rfl ?_
      refine sq_nil (aw_ret ?_)
      exact retQ_pure (v := .raw _) rfl rfl (Less.eq (by rw [scOK_bad (i := k) (by omega) (by simp [scBad, *])]))
     ·
      have g11' := g11
      try simp only [qq] at g11'
      refine dr_yes rfl rfl (less_b g11) rfl (ev_fieldAddr fo84_4 (lr _)) ?_
      refine dr_yes rfl rfl (less_b g11) rfl (ev_load (lr _) rfl ty3 rfl) ?_
      refine dr_yes rfl rfl (less_b g11) rfl (ev_fieldAddr fo27_3 (lr _)) ?_
      refine dr_yes rfl rfl (less_b g11) rfl (ev_load (lr _) rfl ty25 rfl) ?_
      refine dr_yes rfl rfl (less_b g11) rfl (ev_len_map sl25 (lr _)) ?_
      refine dr_yes rfl rfl (less_b g11) rfl (ev_sub (lr _) (lr _) (wr (by omega) (by omega))) ?_
      refine dr_yes rfl rfl (less_b g11) rfl (ev_call en89 (lr _) (in_pure _ _ _) ⟨lr _, lr _, lr _, trivial⟩) ?_
      refine dr_yes rfl rfl (less_b g11) rfl (ev_not (lr _)) ?_
      refine dr_ev rfl (ev_pickF (v := .raw _) (less_b g11) (lr _)) ?_
      refine dr_ev rfl (ev_mv (v := .raw _) (lr _)) ?_
      refine dr_split 62 (lr _) (fun g12 => ?_) (fun g12 => ?_)
      ·
       have g12' := g12
       try simp only [qq] at g12'
       refine dr_no rfl rfl (less_b g12) rfl rfl ?_
       refine dr_no rfl rfl (less_b g12) rfl rfl ?_
       refine dr_no rfl rfl (less_b g12) rfl rfl ?_
       refine dr_no rfl rfl (less_b g12) rfl rfl ?_
       refine dr_ev rfl (ev_pickT (v := .raw _) (less_b g12) (lr _)) ?_
       refine dr_end (sq_nil ?_)
       refine aw_true (lr _) ?_
       refine aw_seq (aw_region ?_)
       refine asr (lr _) rfl ?_
       refine sq_nil (aw_ret ?_)
       exact retQ_pure (v := .raw _) rfl rfl (Less.eq (by rw [scOK_bad (i := k) (by omega) (by simp [scBad, *])]))
      ·
       have g12' := g12
       try simp only [qq] at g12'
       refine dr_yes rfl rfl (less_b g12) rfl (ev_fieldAddr fo84_4 (lr _)) ?_
       refine dr_yes rfl rfl (less_b g12) rfl (ev_load (lr _) rfl ty3 rfl) ?_
       refine dr_yes rfl rfl (less_b g12) rfl (ev_mv (v := .raw _) (lr _)) ?_
       refine dr_yes rfl rfl (less_b g12) rfl (ev_eql (lr _) (lr _)) ?_
       refine dr_ev rfl (ev_pickF (v := .raw _) (less_b g12) (lr _)) ?_
       refine dr_end (sq_nil ?_)
       refine aw_cond (lr _) (fun c13 => ?_) (fun c13 => ?_)
       ·
        have c13' := c13
        try simp only [qq] at c13'
        refine aw_seq (aw_region ?_)
        refine asr (lr _) rfl ?_
        refine sq_nil (aw_ret ?_)
        exact retQ_pure (v := .raw _) rfl rfl (Less.eq (by rw [scOK_bad (i := k) (by omega) (by simp [scBad, *])]))
       ·
        have c13' := c13
        try simp only [qq] at c13'
        refine aw_skip (aw_seq (aw_region ?_))
        refine sq_ev rfl (ev_fieldAddr fo84_3 (lr _)) ?_
        refine sq_ev rfl (ev_load (lr _) rfl ty4 rfl) ?_
        refine sq_nil ?_
        refine aw_cond (lr _) (fun c14 => ?_) (fun c14 => ?_)
        ·
         have c14' := c14
         try simp only [qq] at c14'
         refine aw_region ?_
         refine mvr (lr _) rfl ?_
         refine sq_ev rfl (ev_add (lr _) (lr _) (wr (by omega) (by omega))) ?_
         refine asr (lr _) rfl ?_
         refine sq_nil (aw_region ?_)
         refine mvr (lr _) rfl ?_
         refine sq_ev rfl (ev_add (lr _) (lr _) (wr (by omega) (by omega))) ?_
         refine asr (lr _) rfl ?_
         refine sq_nil ?_
         have hstep := loosies_take (l := p.scenes) (k := k) (by omega)
         have hgood : scBad p.scenes k (by omega) = false := by simp [scBad, *]
         exact ⟨⟨k + 1, by omega, fun i h hi => (by by_cases e : i = k; (subst e; exact hgood); exact hok i h (by omega))⟩, by simp only; omega, Sub.fin 1 ⟨less_int (by rw [hstep]; simp [*]), lr _, lr _, trivial⟩ rfl (by simp [slotsIn, objsIn, sget, keepS, AObj.inB, AV.inB, AV.inL, AV.inE, inE_map]) (by simp [slotsIn, objsIn, sget, keepS, AObj.inB, AV.inB, AV.inL, AV.inE, inE_map]) (by simp [he0])⟩
        ·
         have c14' := c14
         try simp only [qq] at c14'
         refine aw_skip (aw_region ?_)
         refine mvr (lr _) rfl ?_
         refine sq_ev rfl (ev_add (lr _) (lr _) (wr (by omega) (by omega))) ?_
         refine asr (lr _) rfl ?_
         refine sq_nil ?_
         have hstep := loosies_take (l := p.scenes) (k := k) (by omega)
         have hgood : scBad p.scenes k (by omega) = false := by simp [scBad, *]
         exact ⟨⟨k + 1, by omega, fun i h hi => (by by_cases e : i = k; (subst e; exact hgood); exact hok i h (by omega))⟩, by simp only; omega, Sub.fin 1 ⟨less_int (by rw [hstep]; simp [*]), lr _, lr _, trivial⟩ rfl (by simp [slotsIn, objsIn, sget, keepS, AObj.inB, AV.inB, AV.inL, AV.inE, inE_map]) (by simp [slotsIn, objsIn, sget, keepS, AObj.inB, AV.inB, AV.inL, AV.inE, inE_map]) (by simp [he0])⟩
 ·
  have c1' := c1
  try simp only [qq] at c1'
  refine aw_exit (aw_seq (aw_region ?_))
  refine mvr (lr _) rfl ?_
  refine sq_ev rfl (ev_leq (lr _) (lr _)) ?_
  refine asr (lr _) rfl ?_
  refine sq_nil (aw_ret ?_)
  exact retQ_pure (v := .raw _) rfl rfl (Less.eq (by rw [scOK_end hk c1' hok]))

set_option maxHeartbeats 1000000 in
/-- kelir/kelirref03.Plan -/
theorem plan_pure (p : Pl) (hl : p.scenes.length ≤ 1000000) : APure Tryz.prog 24 [plan p] (B (PlOK p)) := by
 refine apure_of (rs := [.tmp 2]) Tryz.func24 rfl rfl (Nat.le_of_ble_eq_true rfl) (by simp [AV.pureL, AV.pureB, AV.pureE, pureE_map]) (rfl) fun e0 he0 => ?_
 refine aw_seq (aw_region ?_)
 refine sq_box rfl (lr _) rfl ?_
 refine asr (lr _) rfl ?_
 refine sq_nil (aw_seq (aw_region ?_))
 refine sq_ev rfl (ev_fieldAddr fo27_0 (lr _)) ?_
 refine sq_ev rfl (ev_load (lr _) rfl ty3 rfl) ?_
 refine sq_ev rfl (ev_call en89 (lr _) (in_pure _ _ _) ⟨lr _, lr _, lr _, trivial⟩) ?_
 refine mvr (lr _) rfl ?_
 refine sq_split 6 (lr _) (fun g1 => ?_) (fun g1 => ?_)
 ·
  have g1' := g1
  try simp only [qq] at g1'
  refine sq_yes rfl rfl (less_b g1) rfl (ev_fieldAddr fo27_1 (lr _)) ?_
  refine sq_yes rfl rfl (less_b g1) rfl (ev_index_box ar24 (lr _) (lr _) rfl (by decide)) ?_
  refine sq_yes rfl rfl (less_b g1) rfl (ev_load_agg (lr _) rfl ty23 rfl) ?_
  refine sq_yes rfl rfl (less_b g1) rfl (ev_call en90 (lr _) (window_pure _ _) ⟨lr _, trivial⟩) ?_
  refine sq_ev rfl (ev_pickT (v := .raw _) (less_b g1) (lr _)) ?_
  refine mvr (lr _) rfl ?_
  refine sq_split 12 (lr _) (fun g2 => ?_) (fun g2 => ?_)
  ·
   have g2' := g2
   try simp only [qq] at g2'
   refine sq_yes rfl rfl (less_b g2) rfl (ev_fieldAddr fo27_1 (lr _)) ?_
   refine sq_yes rfl rfl (less_b g2) rfl (ev_index_box ar24 (lr _) (lr _) rfl (by decide)) ?_
   refine sq_yes rfl rfl (less_b g2) rfl (ev_load_agg (lr _) rfl ty23 rfl) ?_
   refine sq_yes rfl rfl (less_b g2) rfl (ev_call en90 (lr _) (window_pure _ _) ⟨lr _, trivial⟩) ?_
   refine sq_ev rfl (ev_pickT (v := .raw _) (less_b g2) (lr _)) ?_
   refine mvr (lr _) rfl ?_
   refine sq_split 18 (lr _) (fun g3 => ?_) (fun g3 => ?_)
   ·
    have g3' := g3
    try simp only [qq] at g3'
    refine sq_yes rfl rfl (less_b g3) rfl (ev_fieldAddr fo27_2 (lr _)) ?_
    refine sq_yes rfl rfl (less_b g3) rfl (ev_load_agg (lr _) rfl ty23 rfl) ?_
    refine sq_yes rfl rfl (less_b g3) rfl (ev_call en90 (lr _) (window_pure _ _) ⟨lr _, trivial⟩) ?_
    refine sq_ev rfl (ev_pickT (v := .raw _) (less_b g3) (lr _)) ?_
    refine mvr (lr _) rfl ?_
    refine sq_split 23 (lr _) (fun g4 => ?_) (fun g4 => ?_)
    ·
     have g4' := g4
     try simp only [qq] at g4'
     refine sq_yes rfl rfl (less_b g4) rfl (ev_fieldAddr fo27_3 (lr _)) ?_
     refine sq_yes rfl rfl (less_b g4) rfl (ev_load (lr _) rfl ty25 rfl) ?_
     refine sq_yes rfl rfl (less_b g4) rfl (ev_len_map sl25 (lr _)) ?_
     refine sq_yes rfl rfl (less_b g4) rfl (ev_call en89 (lr _) (in_pure _ _ _) ⟨lr _, lr _, lr _, trivial⟩) ?_
     refine sq_ev rfl (ev_pickT (v := .raw _) (less_b g4) (lr _)) ?_
     refine mvr (lr _) rfl ?_
     refine sq_split 29 (lr _) (fun g5 => ?_) (fun g5 => ?_)
     ·
      have g5' := g5
      try simp only [qq] at g5'
      refine sq_yes rfl rfl (less_b g5) rfl (ev_load_agg (lr _) rfl ty27 rfl) ?_
      refine sq_yes rfl rfl (less_b g5) rfl (ev_call en91 (lr _) (scenes_pure _ hl) ⟨lr _, trivial⟩) ?_
      refine sq_ev rfl (ev_pickT (v := .raw _) (less_b g5) (lr _)) ?_
      refine asr (lr _) rfl ?_
      refine sq_nil (aw_ret ?_)
      exact retQ_pure (v := .raw _) rfl rfl (Less.eq (by simp [PlOK, *]))
     ·
      have g5' := g5
      try simp only [qq] at g5'
      refine sq_no rfl rfl (less_b g5) rfl rfl ?_
      refine sq_no rfl rfl (less_b g5) rfl rfl ?_
      refine sq_ev rfl (ev_pickF (v := .raw _) (less_b g5) (lr _)) ?_
      refine asr (lr _) rfl ?_
      refine sq_nil (aw_ret ?_)
      exact retQ_pure (v := .raw _) rfl rfl (Less.eq (by simp [PlOK, *]))
    ·
     have g4' := g4
     try simp only [qq] at g4'
     refine sq_no rfl rfl (less_b g4) rfl rfl ?_
     refine sq_no rfl rfl (less_b g4) rfl rfl ?_
     refine sq_no rfl rfl (less_b g4) rfl rfl ?_
     refine sq_no rfl rfl (less_b g4) rfl rfl ?_
     refine sq_ev rfl (ev_pickF (v := .raw _) (less_b g4) (lr _)) ?_
     refine mvr (lr _) rfl ?_
     refine sq_no rfl rfl (lr _) rfl rfl ?_
     refine sq_no rfl rfl (lr _) rfl rfl ?_
     refine sq_ev rfl (ev_pickF (v := .raw _) (lr _) (lr _)) ?_
     refine asr (lr _) rfl ?_
     refine sq_nil (aw_ret ?_)
     exact retQ_pure (v := .raw _) rfl rfl (Less.eq (by simp [PlOK, *]))
   ·
    have g3' := g3
    try simp only [qq] at g3'
    refine sq_no rfl rfl (less_b g3) rfl rfl ?_
    refine sq_no rfl rfl (less_b g3) rfl rfl ?_
    refine sq_no rfl rfl (less_b g3) rfl rfl ?_
    refine sq_ev rfl (ev_pickF (v := .raw _) (less_b g3) (lr _)) ?_
    refine mvr (lr _) rfl ?_
    refine sq_no rfl rfl (lr _) rfl rfl ?_
    refine sq_no rfl rfl (lr _) rfl rfl ?_
    refine sq_no rfl rfl (lr _) rfl rfl ?_
    refine sq_no rfl rfl (lr _) rfl rfl ?_
    refine sq_ev rfl (ev_pickF (v := .raw _) (lr _) (lr _)) ?_
    refine mvr (lr _) rfl ?_
    refine sq_no rfl rfl (lr _) rfl rfl ?_
    refine sq_no rfl rfl (lr _) rfl rfl ?_
    refine sq_ev rfl (ev_pickF (v := .raw _) (lr _) (lr _)) ?_
    refine asr (lr _) rfl ?_
    refine sq_nil (aw_ret ?_)
    exact retQ_pure (v := .raw _) rfl rfl (Less.eq (by simp [PlOK, *]))
  ·
   have g2' := g2
   try simp only [qq] at g2'
   refine sq_no rfl rfl (less_b g2) rfl rfl ?_
   refine sq_no rfl rfl (less_b g2) rfl rfl ?_
   refine sq_no rfl rfl (less_b g2) rfl rfl ?_
   refine sq_no rfl rfl (less_b g2) rfl rfl ?_
   refine sq_ev rfl (ev_pickF (v := .raw _) (less_b g2) (lr _)) ?_
   refine mvr (lr _) rfl ?_
   refine sq_no rfl rfl (lr _) rfl rfl ?_
   refine sq_no rfl rfl (lr _) rfl rfl ?_
   refine sq_no rfl rfl (lr _) rfl rfl ?_
   refine sq_ev rfl (ev_pickF (v := .raw _) (lr _) (lr _)) ?_
   refine mvr (lr _) rfl ?_
   refine sq_no rfl rfl (lr _) rfl rfl ?_
   refine sq_no rfl rfl (lr _) rfl rfl ?_
   refine sq_no rfl rfl (lr _) rfl rfl ?_
   refine sq_no rfl rfl (lr _) rfl rfl ?_
   refine sq_ev rfl (ev_pickF (v := .raw _) (lr _) (lr _)) ?_
   refine mvr (lr _) rfl ?_
   refine sq_no rfl rfl (lr _) rfl rfl ?_
   refine sq_no rfl rfl (lr _) rfl rfl ?_
   refine sq_ev rfl (ev_pickF (v := .raw _) (lr _) (lr _)) ?_
   refine asr (lr _) rfl ?_
   refine sq_nil (aw_ret ?_)
   exact retQ_pure (v := .raw _) rfl rfl (Less.eq (by simp [PlOK, *]))
 ·
  have g1' := g1
  try simp only [qq] at g1'
  refine sq_no rfl rfl (less_b g1) rfl rfl ?_
  refine sq_no rfl rfl (less_b g1) rfl rfl ?_
  refine sq_no rfl rfl (less_b g1) rfl rfl ?_
  refine sq_no rfl rfl (less_b g1) rfl rfl ?_
  refine sq_ev rfl (ev_pickF (v := .raw _) (less_b g1) (lr _)) ?_
  refine mvr (lr _) rfl ?_
  refine sq_no rfl rfl (lr _) rfl rfl ?_
  refine sq_no rfl rfl (lr _) rfl rfl ?_
  refine sq_no rfl rfl (lr _) rfl rfl ?_
  refine sq_no rfl rfl (lr _) rfl rfl ?_
  refine sq_ev rfl (ev_pickF (v := .raw _) (lr _) (lr _)) ?_
  refine mvr (lr _) rfl ?_
  refine sq_no rfl rfl (lr _) rfl rfl ?_
  refine sq_no rfl rfl (lr _) rfl rfl ?_
  refine sq_no rfl rfl (lr _) rfl rfl ?_
  refine sq_ev rfl (ev_pickF (v := .raw _) (lr _) (lr _)) ?_
  refine mvr (lr _) rfl ?_
  refine sq_no rfl rfl (lr _) rfl rfl ?_
  refine sq_no rfl rfl (lr _) rfl rfl ?_
  refine sq_no rfl rfl (lr _) rfl rfl ?_
  refine sq_no rfl rfl (lr _) rfl rfl ?_
  refine sq_ev rfl (ev_pickF (v := .raw _) (lr _) (lr _)) ?_
  refine mvr (lr _) rfl ?_
  refine sq_no rfl rfl (lr _) rfl rfl ?_
  refine sq_no rfl rfl (lr _) rfl rfl ?_
  refine sq_ev rfl (ev_pickF (v := .raw _) (lr _) (lr _)) ?_
  refine asr (lr _) rfl ?_
  refine sq_nil (aw_ret ?_)
  exact retQ_pure (v := .raw _) rfl rfl (Less.eq (by simp [PlOK, *]))

set_option maxHeartbeats 400000 in
/-- kelir/kelirref03.Scene -/
theorem scene_pure (p : Pl) (n : Int) (hl : p.scenes.length ≤ 1000000) : APure Tryz.prog 35 [plan p, I n] (B (isSc p n)) := by
 refine apure_of (rs := [.tmp 4]) Tryz.func35 rfl rfl (Nat.le_of_ble_eq_true rfl) (by simp [AV.pureL, AV.pureB, AV.pureE, pureE_map]) (rfl) fun e0 he0 => ?_
 refine aw_seq (aw_region ?_)
 refine sq_box rfl (lr _) rfl ?_
 refine asr (lr _) rfl ?_
 refine sq_nil (aw_seq (aw_region ?_))
 refine mvr (lr _) rfl ?_
 refine sq_ev rfl (ev_fieldAddr fo27_3 (lr _)) ?_
 refine sq_ev rfl (ev_load (lr _) rfl ty25 rfl) ?_
 refine sq_ev rfl (ev_len_map sl25 (lr _)) ?_
 refine sq_ev rfl (ev_sub (lr _) (lr _) (wr (by omega) (by omega))) ?_
 refine sq_ev rfl (ev_call en89 (lr _) (in_pure _ _ _) ⟨lr _, lr _, lr _, trivial⟩) ?_
 refine asr (lr _) rfl ?_
 refine sq_nil (aw_ret ?_)
 exact retQ_pure (v := .raw _) rfl rfl (Less.eq (by simp [isSc]))

set_option maxHeartbeats 400000 in
/-- kelir/kelirref03.Has -/
theorem has_pure (l : List Int) (n : Int) (hl : l.length ≤ 1000000) : APure Tryz.prog 62 [ints l, I n] (B (has l n)) := by
 refine apure_of (rs := [.tmp 4]) Tryz.func62 rfl rfl (Nat.le_of_ble_eq_true rfl) (by simp [AV.pureL, AV.pureB, AV.pureE, pureE_map]) (rfl) fun e0 he0 => ?_
 refine aw_seq (aw_region ?_)
 refine asr (lr _) rfl ?_
 refine sq_nil (aw_seq (aw_seq (aw_region ?_)))
 refine asr (lr _) rfl ?_
 refine sq_nil (aw_block ?_)
 refine aw_loopk (ι := { k : Nat // k ≤ l.length ∧ ∀ j, (h : j < l.length) → j < k → l[j] ≠ n }) [0, 1] (fun i => [(5, I i.1)]) (fun H i => H) (fun i => l.length - i.1) (⟨0, Nat.zero_le _, by omega⟩) ⟨lr _, lr _, lr _, trivial⟩ rfl ?_
 rintro ⟨k, hk, hok⟩
 dsimp only [keepS, St.put, sget, slotsOf, List.map_cons, List.map_nil, List.cons_append, List.nil_append, List.length_cons, List.length_nil, Nat.reduceBEq, Nat.reduceAdd, cond_true, cond_false]
 refine aw_seq (aw_seq (aw_region ?_))
 refine mvr (lr _) rfl ?_
 refine sq_ev rfl (ev_mv (v := .sl _ _) (lr _)) ?_
 refine sq_ev rfl (ev_len_map sl34 (lr _)) ?_
 refine sq_ev rfl (ev_lss (lr _) (lr _)) ?_
 refine sq_nil ?_
 refine aw_cond (lr _) (fun c1 => ?_) (fun c1 => ?_)
 ·
  have c1' := c1
  try simp only [qq] at c1'
  refine aw_skip (aw_seq (aw_block (aw_seq (aw_region ?_))))
  refine sq_ev rfl (ev_mv (v := .sl _ _) (lr _)) ?_
  refine mvr (lr _) rfl ?_
  refine sq_ev rfl (ev_index_map sl34 (lr _) (lr _) rfl (by omega)) ?_
  refine sq_ev rfl (ev_load_i (lr _) ty3 rfl) ?_
  refine mvr (lr _) rfl ?_
  refine sq_ev rfl (ev_eql (lr _) (lr _)) ?_
  refine sq_nil ?_
  refine aw_cond (lr _) (fun c2 => ?_) (fun c2 => ?_)
  ·
   have c2' := c2
   try simp only [qq] at c2'
   refine aw_seq (aw_region ?_)
   refine asr (lr _) rfl ?_
   refine sq_nil (aw_ret ?_)
   exact retQ_pure (v := .raw _) rfl rfl (Less.eq (by rw [has_yes (k := k) (by omega) c2']))
  ·
   have c2' := c2
   try simp only [qq] at c2'
   refine aw_skip (aw_region ?_)
   refine mvr (lr _) rfl ?_
   refine sq_ev rfl (ev_add (lr _) (lr _) (wr (by omega) (by omega))) ?_
   refine asr (lr _) rfl ?_
   refine sq_nil ?_
   exact ⟨⟨k + 1, by omega, fun j h hj => (by by_cases e : j = k; (subst e; exact c2'); exact hok j h (by omega))⟩, by simp only; omega, Sub.slots ⟨lr _, lr _, lr _, trivial⟩⟩
 ·
  have c1' := c1
  try simp only [qq] at c1'
  refine aw_exit (aw_seq (aw_region ?_))
  refine asr (lr _) rfl ?_
  refine sq_nil (aw_ret ?_)
  exact retQ_pure (v := .raw _) rfl rfl (Less.eq (by rw [has_no c1' hok]))

set_option maxHeartbeats 1000000 in
/-- kelir/kelirref03.Rising -/
theorem rising_pure (p : Pl) (l : List Int) (hp : p.scenes.length ≤ 1000000) (hl : l.length ≤ 1000000) : APure Tryz.prog 77 [plan p, ints l] (B (Ris p l)) := by
 refine apure_of (rs := [.tmp 4]) Tryz.func77 rfl rfl (Nat.le_of_ble_eq_true rfl) (by simp [AV.pureL, AV.pureB, AV.pureE, pureE_map]) (rfl) fun e0 he0 => ?_
 refine aw_seq (aw_region ?_)
 refine sq_box rfl (lr _) rfl ?_
 refine asr (lr _) rfl ?_
 refine sq_nil (aw_seq (aw_seq (aw_region ?_)))
 refine asr (lr _) rfl ?_
 refine sq_nil (aw_block ?_)
 refine aw_loopk (ι := { k : Nat // k ≤ l.length ∧ ∀ i, (h : i < l.length) → i < k → risBad p l i h = false }) [1, 2] (fun i => [(5, I i.1)]) (fun H i => H) (fun i => l.length - i.1) (⟨0, Nat.zero_le _, by omega⟩) ⟨lr _, lr _, lr _, trivial⟩ rfl ?_
 rintro ⟨k, hk, hok⟩
 dsimp only [keepS, St.put, sget, slotsOf, List.map_cons, List.map_nil, List.cons_append, List.nil_append, List.length_cons, List.length_nil, Nat.reduceBEq, Nat.reduceAdd, cond_true, cond_false]
 refine aw_seq (aw_seq (aw_region ?_))
 refine mvr (lr _) rfl ?_
 refine sq_ev rfl (ev_mv (v := .sl _ _) (lr _)) ?_
 refine sq_ev rfl (ev_len_map sl34 (lr _)) ?_
 refine sq_ev rfl (ev_lss (lr _) (lr _)) ?_
 refine sq_nil ?_
 refine aw_cond (lr _) (fun c1 => ?_) (fun c1 => ?_)
 ·
  have c1' := c1
  try simp only [qq] at c1'
  refine aw_skip (aw_seq (aw_block (aw_seq ?_)))
  refine aw_draw 23 mo (by kernel_rfl) ?_
  refine dr_ev rfl (ev_load_agg (lr _) rfl ty27 rfl) ?_
  refine dr_ev rfl (ev_mv (v := .sl _ _) (lr _)) ?_
  refine dr_ev rfl (ev_mv (v := .raw _) (lr _)) ?_
  refine dr_ev rfl (ev_index_map sl34 (lr _) (lr _) rfl (by omega)) ?_
  refine dr_ev rfl (ev_load_i (lr _) ty3 rfl) ?_
  refine dr_ev rfl (ev_call en35 (lr _) (scene_pure _ _ hp) ⟨lr _, lr _, trivial⟩) ?_
  refine dr_ev rfl (ev_not (lr _)) ?_
  refine dr_ev rfl (ev_mv (v := .raw _) (lr _)) ?_
  refine dr_split 19 (lr _) (fun g2 => ?_) (fun g2 => ?_)
  ·
   have g2' := g2
   try simp only [qq] at g2'
   refine dr_no rfl rfl (less_b g2) rfl rfl ?_
   refine dr_no rfl rfl (less_b g2) rfl rfl ?_
   refine dr_no rfl rfl (less_b g2) rfl rfl ?_
   refine dr_no rfl rfl (lr _) rfl rfl ?_
   refine dr_no rfl rfl (lr _) rfl rfl ?_
   refine dr_no rfl rfl (lr _) rfl rfl ?_
   refine dr_no rfl rfl (lr _) rfl rfl ?_
   refine dr_no rfl rfl (lr _) rfl rfl ?_
   refine dr_no rfl rfl (lr _) rfl rfl ?_
   refine dr_no rfl rfl (lr _) rfl rfl ?_
   refine dr_no rfl rfl (lr _) rfl rfl ?_
   refine dr_no rfl rfl (lr _) rfl rfl ?_
   refine dr_no rfl rfl (lr _) rfl rfl ?_
   refine dr_no rfl rfl (less_b g2) rfl rfl ?_
   refine dr_ev rfl (ev_pickT (v := .raw _) (less_b g2) (lr _)) ?_
   refine dr_end (sq_nil ?_)
   refine aw_true (lr _) ?_
   refine aw_seq (aw_region ?_)
   refine asr (lr _) rfl ?_
   refine sq_nil (aw_ret ?_)
   exact retQ_pure (v := .raw _) rfl rfl (Less.eq (by rw [Ris, okAll_bad (i := k) (by omega) (by first | (simp [risBad, *]; done) | (simp_all [risBad]; done))]))
  ·
   have g2' := g2
   try simp only [qq] at g2'
   refine dr_yes rfl rfl (less_b g2) rfl (ev_mv (v := .raw _) (lr _)) ?_
   refine dr_yes rfl rfl (less_b g2) rfl (ev_gtr (lr _) (lr _)) ?_
   refine dr_yes rfl rfl (less_b g2) rfl (ev_mv (v := .raw _) (lr _)) ?_
   refine dr_split 22 (lr _) (fun g3 => ?_) (fun g3 => ?_)
   ·
    have g3' := g3
    try simp only [qq] at g3'
    have g3n : 0 < k := by omega
    refine dr_yes rfl rfl (less_b g3) rfl (ev_mv (v := .sl _ _) (lr _)) ?_
    refine dr_yes rfl rfl (less_b g3) rfl (ev_mv (v := .raw _) (lr _)) ?_
    refine dr_yes rfl rfl (less_b g3) rfl (ev_index_map sl34 (lr _) (lr _) rfl (by omega)) ?_
    refine dr_yes rfl rfl (less_b g3) rfl (ev_load_i (lr _) ty3 rfl) ?_
    refine dr_yes rfl rfl (less_b g3) rfl (ev_mv (v := .sl _ _) (lr _)) ?_
    refine dr_yes rfl rfl (less_b g3) rfl (ev_mv (v := .raw _) (lr _)) ?_
    refine dr_yes rfl rfl (less_b g3) rfl (ev_sub (lr _) (lr _) (wr (by omega) (by omega))) ?_
    refine dr_yes rfl rfl (less_b g3) rfl (ev_index_map sl34 (lr _) (lr _) (show ((k : Int) - 1) = ((k - 1 : Nat) : Int) by omega) (by omega)) ?_
    refine dr_yes rfl rfl (less_b g3) rfl (ev_load_i (lr _) ty3 rfl) ?_
    refine dr_yes rfl rfl (less_b g3) rfl (ev_leq (lr _) (lr _)) ?_
    refine dr_yes rfl rfl (less_b g2) rfl (ev_pickT (v := .raw _) (less_b g3) (lr _)) ?_
    refine dr_ev rfl (ev_pickF (v := .raw _) (less_b g2) (lr _)) ?_
    refine dr_end (sq_nil ?_)
    refine aw_cond (lr _) (fun c4 => ?_) (fun c4 => ?_)
    ·
     have c4' := c4
     try simp only [qq] at c4'
     refine aw_seq (aw_region ?_)
     refine asr (lr _) rfl ?_
     refine sq_nil (aw_ret ?_)
     exact retQ_pure (v := .raw _) rfl rfl (Less.eq (by rw [Ris, okAll_bad (i := k) (by omega) (by first | (simp [risBad, *]; done) | (simp_all [risBad]; done))]))
    ·
     have c4' := c4
     try simp only [qq] at c4'
     refine aw_skip (aw_region ?_)
     refine mvr (lr _) rfl ?_
     refine sq_ev rfl (ev_add (lr _) (lr _) (wr (by omega) (by omega))) ?_
     refine asr (lr _) rfl ?_
     refine sq_nil ?_
     have hgood : risBad p l k (by omega) = false := by first | (simp [risBad, *]; done) | (simp_all [risBad]; done)
     exact ⟨⟨k + 1, by omega, fun i h hi => (by by_cases e : i = k; (subst e; exact hgood); exact hok i h (by omega))⟩, by simp only; omega, Sub.fin 1 ⟨lr _, lr _, lr _, trivial⟩ rfl (by simp [slotsIn, objsIn, sget, keepS, AObj.inB, AV.inB, AV.inL, AV.inE, inE_map]) (by simp [slotsIn, objsIn, sget, keepS, AObj.inB, AV.inB, AV.inL, AV.inE, inE_map]) (by simp [he0])⟩
   ·
    have g3' := g3
    try simp only [qq] at g3'
    have g3n : ¬ (0 < k) := by omega
    refine dr_no rfl rfl (less_b g3) rfl rfl ?_
    refine dr_no rfl rfl (less_b g3) rfl rfl ?_
    refine dr_no rfl rfl (less_b g3) rfl rfl ?_
    refine dr_no rfl rfl (less_b g3) rfl rfl ?_
    refine dr_no rfl rfl (less_b g3) rfl rfl ?_
    refine dr_no rfl rfl (less_b g3) rfl rfl ?_
    refine dr_no rfl rfl (less_b g3) rfl rfl ?_
    refine dr_no rfl rfl (less_b g3) rfl rfl ?_
    refine dr_no rfl rfl (less_b g3) rfl rfl ?_
    refine dr_no rfl rfl (less_b g3) rfl rfl ?_
    refine dr_yes rfl rfl (less_b g2) rfl (ev_pickF (v := .raw _) (less_b g3) (lr _)) ?_
    refine dr_ev rfl (ev_pickF (v := .raw _) (less_b g2) (lr _)) ?_
    refine dr_end (sq_nil ?_)
    refine aw_false (lr _) ?_
    refine aw_skip (aw_region ?_)
    refine mvr (lr _) rfl ?_
    refine sq_ev rfl (ev_add (lr _) (lr _) (wr (by omega) (by omega))) ?_
    refine asr (lr _) rfl ?_
    refine sq_nil ?_
    have hgood : risBad p l k (by omega) = false := by first | (simp [risBad, *]; done) | (simp_all [risBad]; done)
    exact ⟨⟨k + 1, by omega, fun i h hi => (by by_cases e : i = k; (subst e; exact hgood); exact hok i h (by omega))⟩, by simp only; omega, Sub.fin 1 ⟨lr _, lr _, lr _, trivial⟩ rfl (by simp [slotsIn, objsIn, sget, keepS, AObj.inB, AV.inB, AV.inL, AV.inE, inE_map]) (by simp [slotsIn, objsIn, sget, keepS, AObj.inB, AV.inB, AV.inL, AV.inE, inE_map]) (by simp [he0])⟩
 ·
  have c1' := c1
  try simp only [qq] at c1'
  refine aw_exit (aw_seq (aw_region ?_))
  refine asr (lr _) rfl ?_
  refine sq_nil (aw_ret ?_)
  exact retQ_pure (v := .raw _) rfl rfl (Less.eq (by rw [Ris, okAll_end hk c1' hok]))

set_option maxHeartbeats 2000000 in
/-- kelir/kelirref03.Choice -/
theorem choice_pure (p : Pl) (l : List Int) (hp : p.scenes.length ≤ 1000000) (hl : l.length ≤ 1000000) : APure Tryz.prog 78 [plan p, ints l] (B (isCh p l)) := by
 refine apure_of (rs := [.tmp 4]) Tryz.func78 rfl rfl (Nat.le_of_ble_eq_true rfl) (by simp [AV.pureL, AV.pureB, AV.pureE, pureE_map]) (rfl) fun e0 he0 => ?_
 refine aw_seq (aw_region ?_)
 refine sq_box rfl (lr _) rfl ?_
 refine asr (lr _) rfl ?_
 refine sq_nil (aw_seq (aw_seq (aw_region ?_)))
 refine asr (lr _) rfl ?_
 refine sq_nil (aw_block ?_)
 refine aw_loopk (ι := { k : Nat // k ≤ p.scenes.length ∧ ∀ i, (h : i < p.scenes.length) → i < k → chBad p l i h = false }) [1, 2] (fun i => [(5, I i.1)]) (fun H i => H) (fun i => p.scenes.length - i.1) (⟨0, Nat.zero_le _, by omega⟩) ⟨lr _, lr _, lr _, trivial⟩ rfl ?_
 rintro ⟨k, hk, hok⟩
 dsimp only [keepS, St.put, sget, slotsOf, List.map_cons, List.map_nil, List.cons_append, List.nil_append, List.length_cons, List.length_nil, Nat.reduceBEq, Nat.reduceAdd, cond_true, cond_false]
 refine aw_seq (aw_seq (aw_region ?_))
 refine mvr (lr _) rfl ?_
 refine sq_ev rfl (ev_fieldAddr fo27_3 (lr _)) ?_
 refine sq_ev rfl (ev_load (lr _) rfl ty25 rfl) ?_
 refine sq_ev rfl (ev_len_map sl25 (lr _)) ?_
 refine sq_ev rfl (ev_lss (lr _) (lr _)) ?_
 refine sq_nil ?_
 refine aw_cond (lr _) (fun c1 => ?_) (fun c1 => ?_)
 ·
  have c1' := c1
  try simp only [qq] at c1'
  refine aw_skip (aw_seq (aw_block (aw_seq (aw_region ?_))))
  refine sq_ev rfl (ev_fieldAddr fo27_3 (lr _)) ?_
  refine sq_ev rfl (ev_load (lr _) rfl ty25 rfl) ?_
  refine mvr (lr _) rfl ?_
  refine sq_ev rfl (ev_index_map sl25 (lr _) (lr _) rfl (by omega)) ?_
  refine sq_ev rfl (ev_load_agg_i (lr _) ty84 (Nat.le_of_ble_eq_true rfl)) ?_
  refine sq_alloc rfl z84 ?_
  refine sq_store rfl (lr _) (lr _) rfl rfl ty84 rfl rfl ?_
  refine sq_nil (aw_seq (aw_region ?_))
  refine sq_ev rfl (ev_mv (v := .sl _ _) (lr _)) ?_
  refine mvr (lr _) rfl ?_
  refine sq_ev rfl (ev_call en62 (lr _) (has_pure _ _ hl) ⟨lr _, lr _, trivial⟩) ?_
  refine sq_ev rfl (ev_not (lr _)) ?_
  refine mvr (lr _) rfl ?_
  refine sq_split 23 (lr _) (fun g2 => ?_) (fun g2 => ?_)
  ·
   have g2' := g2
   try simp only [qq] at g2'
   refine sq_yes rfl rfl (less_b g2) rfl (ev_fieldAddr fo84_3 (lr _)) ?_
   refine sq_yes rfl rfl (less_b g2) rfl (ev_load (lr _) rfl ty4 rfl) ?_
   refine sq_yes rfl rfl (less_b g2) rfl (ev_not (lr _)) ?_
   refine sq_ev rfl (ev_pickT (v := .raw _) (less_b g2) (lr _)) ?_
   refine mvr (lr _) rfl ?_
   refine sq_split 28 (lr _) (fun g3 => ?_) (fun g3 => ?_)
   ·
    have g3' := g3
    try simp only [qq] at g3'
    refine sq_no rfl rfl (less_b g3) rfl rfl ?_
    refine sq_no rfl rfl (less_b g3) rfl rfl ?_
    refine sq_no rfl rfl (less_b g3) rfl rfl ?_
    refine sq_no rfl rfl (less_b g3) rfl rfl ?_
    refine sq_no rfl rfl (lr _) rfl rfl ?_
    refine sq_no rfl rfl (lr _) rfl rfl ?_
    refine sq_no rfl rfl (lr _) rfl rfl ?_
    refine sq_no rfl rfl (less_b g3) rfl rfl ?_
    refine sq_no rfl rfl (less_b g3) rfl rfl ?_
    refine sq_no rfl rfl (lr _) rfl rfl ?_
    refine sq_no rfl rfl (lr _) rfl rfl ?_
    refine sq_no rfl rfl (lr _) rfl rfl ?_
    refine sq_no rfl rfl (lr _) rfl rfl ?_
    refine sq_no rfl rfl (lr _) rfl rfl ?_
    refine sq_no rfl rfl (less_b g3) rfl rfl ?_
    refine sq_ev rfl (ev_pickT (v := .raw _) (less_b g3) (lr _)) ?_
    refine sq_nil ?_
    refine aw_true (lr _) ?_
    refine aw_seq (aw_region ?_)
    refine asr (lr _) rfl ?_
    refine sq_nil (aw_ret ?_)
    exact retQ_pure (v := .raw _) rfl rfl (Less.eq (by rw [isCh, okAll_bad (i := k) (by omega) (by first | (simp [chBad, *]; done) | (simp_all [chBad]; done))]))
   ·
    have g3' := g3
    try simp only [qq] at g3'
    refine sq_yes rfl rfl (less_b g3) rfl (ev_mv (v := .sl _ _) (lr _)) ?_
    refine sq_yes rfl rfl (less_b g3) rfl (ev_mv (v := .raw _) (lr _)) ?_
    refine sq_yes rfl rfl (less_b g3) rfl (ev_call en62 (lr _) (has_pure _ _ hl) ⟨lr _, lr _, trivial⟩) ?_
    refine sq_yes rfl rfl (less_b g3) rfl (ev_mv (v := .raw _) (lr _)) ?_
    refine sq_split 32 (lr _) (fun g4 => ?_) (fun g4 => ?_)
    ·
     have g4' := g4
     try simp only [qq] at g4'
     refine sq_yes rfl rfl (less_b g4) rfl (ev_fieldAddr fo84_4 (lr _)) ?_
     refine sq_yes rfl rfl (less_b g4) rfl (ev_load (lr _) rfl ty3 rfl) ?_
     refine sq_yes rfl rfl (less_b g4) rfl (ev_geq (lr _) (lr _)) ?_
     refine sq_yes rfl rfl (less_b g3) rfl (ev_pickT (v := .raw _) (less_b g4) (lr _)) ?_
     refine sq_yes rfl rfl (less_b g3) rfl (ev_mv (v := .raw _) (lr _)) ?_
     refine sq_split 37 (lr _) (fun g5 => ?_) (fun g5 => ?_)
     ·
      have g5' := g5
      try simp only [qq] at g5'
      refine sq_yes rfl rfl (less_b g5) rfl (ev_mv (v := .sl _ _) (lr _)) ?_
      refine sq_yes rfl rfl (less_b g5) rfl (ev_fieldAddr fo84_4 (lr _)) ?_
      refine sq_yes rfl rfl (less_b g5) rfl (ev_load (lr _) rfl ty3 rfl) ?_
      refine sq_yes rfl rfl (less_b g5) rfl (ev_call en62 (lr _) (has_pure _ _ hl) ⟨lr _, lr _, trivial⟩) ?_
      refine sq_yes rfl rfl (less_b g5) rfl (ev_not (lr _)) ?_
      refine sq_yes rfl rfl (less_b g3) rfl (ev_pickT (v := .raw _) (less_b g5) (lr _)) ?_
      refine sq_ev rfl (ev_pickF (v := .raw _) (less_b g3) (lr _)) ?_
      refine sq_nil ?_
      refine aw_cond (lr _) (fun c6 => ?_) (fun c6 => ?_)
      ·
       have c6' := c6
       try simp only [qq] at c6'
       refine aw_seq (aw_region ?_)
       refine asr (lr _) rfl ?_
       refine sq_nil (aw_ret ?_)
       exact retQ_pure (v := .raw _) rfl rfl (Less.eq (by rw [isCh, okAll_bad (i := k) (by omega) (by first | (simp [chBad, *]; done) | (simp_all [chBad]; done))]))
      ·
       have c6' := c6
       try simp only [qq] at c6'
       refine aw_skip (aw_region ?_)
       refine mvr (lr _) rfl ?_
       refine sq_ev rfl (ev_add (lr _) (lr _) (wr (by omega) (by omega))) ?_
       refine asr (lr _) rfl ?_
       refine sq_nil ?_
       have hgood : chBad p l k (by omega) = false := by first | (simp [chBad, *]; done) | (simp_all [chBad]; done)
       exact ⟨⟨k + 1, by omega, fun i h hi => (by by_cases e : i = k; (subst e; exact hgood); exact hok i h (by omega))⟩, by simp only; omega, Sub.fin 1 ⟨lr _, lr _, lr _, trivial⟩ rfl (by simp [slotsIn, objsIn, sget, keepS, AObj.inB, AV.inB, AV.inL, AV.inE, inE_map]) (by simp [slotsIn, objsIn, sget, keepS, AObj.inB, AV.inB, AV.inL, AV.inE, inE_map]) (by simp [he0])⟩
     ·
      have g5' := g5
      try simp only [qq] at g5'
      refine sq_no rfl rfl (less_b g5) rfl rfl ?_
      refine sq_no rfl rfl (less_b g5) rfl rfl ?_
      refine sq_no rfl rfl (less_b g5) rfl rfl ?_
      refine sq_no rfl rfl (less_b g5) rfl rfl ?_
      refine sq_no rfl rfl (less_b g5) rfl rfl ?_
      refine sq_yes rfl rfl (less_b g3) rfl (ev_pickF (v := .raw _) (less_b g5) (lr _)) ?_
      refine sq_ev rfl (ev_pickF (v := .raw _) (less_b g3) (lr _)) ?_
      refine sq_nil ?_
      refine aw_false (lr _) ?_
      refine aw_skip (aw_region ?_)
      refine mvr (lr _) rfl ?_
      refine sq_ev rfl (ev_add (lr _) (lr _) (wr (by omega) (by omega))) ?_
      refine asr (lr _) rfl ?_
      refine sq_nil ?_
      have hgood : chBad p l k (by omega) = false := by first | (simp [chBad, *]; done) | (simp_all [chBad]; done)
      exact ⟨⟨k + 1, by omega, fun i h hi => (by by_cases e : i = k; (subst e; exact hgood); exact hok i h (by omega))⟩, by simp only; omega, Sub.fin 1 ⟨lr _, lr _, lr _, trivial⟩ rfl (by simp [slotsIn, objsIn, sget, keepS, AObj.inB, AV.inB, AV.inL, AV.inE, inE_map]) (by simp [slotsIn, objsIn, sget, keepS, AObj.inB, AV.inB, AV.inL, AV.inE, inE_map]) (by simp [he0])⟩
    ·
     have g4' := g4
     try simp only [qq] at g4'
     refine sq_no rfl rfl (less_b g4) rfl rfl ?_
     refine sq_no rfl rfl (less_b g4) rfl rfl ?_
     refine sq_no rfl rfl (less_b g4) rfl rfl ?_
     refine sq_yes rfl rfl (less_b g3) rfl (ev_pickF (v := .raw _) (less_b g4) (lr _)) ?_
     refine sq_yes rfl rfl (less_b g3) rfl (ev_mv (v := .raw _) (lr _)) ?_
     refine sq_no rfl rfl (lr _) rfl rfl ?_
     refine sq_no rfl rfl (lr _) rfl rfl ?_
     refine sq_no rfl rfl (lr _) rfl rfl ?_
     refine sq_no rfl rfl (lr _) rfl rfl ?_
     refine sq_no rfl rfl (lr _) rfl rfl ?_
     refine sq_yes rfl rfl (less_b g3) rfl (ev_pickF (v := .raw _) (lr _) (lr _)) ?_
     refine sq_ev rfl (ev_pickF (v := .raw _) (less_b g3) (lr _)) ?_
     refine sq_nil ?_
     refine aw_false (lr _) ?_
     refine aw_skip (aw_region ?_)
     refine mvr (lr _) rfl ?_
     refine sq_ev rfl (ev_add (lr _) (lr _) (wr (by omega) (by omega))) ?_
     refine asr (lr _) rfl ?_
     refine sq_nil ?_
     have hgood : chBad p l k (by omega) = false := by first | (simp [chBad, *]; done) | (simp_all [chBad]; done)
     exact ⟨⟨k + 1, by omega, fun i h hi => (by by_cases e : i = k; (subst e; exact hgood); exact hok i h (by omega))⟩, by simp only; omega, Sub.fin 1 ⟨lr _, lr _, lr _, trivial⟩ rfl (by simp [slotsIn, objsIn, sget, keepS, AObj.inB, AV.inB, AV.inL, AV.inE, inE_map]) (by simp [slotsIn, objsIn, sget, keepS, AObj.inB, AV.inB, AV.inL, AV.inE, inE_map]) (by simp [he0])⟩
  ·
   have g2' := g2
   try simp only [qq] at g2'
   refine sq_no rfl rfl (less_b g2) rfl rfl ?_
   refine sq_no rfl rfl (less_b g2) rfl rfl ?_
   refine sq_no rfl rfl (less_b g2) rfl rfl ?_
   refine sq_ev rfl (ev_pickF (v := .raw _) (less_b g2) (lr _)) ?_
   refine mvr (lr _) rfl ?_
   refine sq_yes rfl rfl (lr _) rfl (ev_mv (v := .sl _ _) (lr _)) ?_
   refine sq_yes rfl rfl (lr _) rfl (ev_mv (v := .raw _) (lr _)) ?_
   refine sq_yes rfl rfl (lr _) rfl (ev_call en62 (lr _) (has_pure _ _ hl) ⟨lr _, lr _, trivial⟩) ?_
   refine sq_yes rfl rfl (lr _) rfl (ev_mv (v := .raw _) (lr _)) ?_
   refine sq_split 32 (lr _) (fun g7 => ?_) (fun g7 => ?_)
   ·
    have g7' := g7
    try simp only [qq] at g7'
    refine sq_yes rfl rfl (less_b g7) rfl (ev_fieldAddr fo84_4 (lr _)) ?_
    refine sq_yes rfl rfl (less_b g7) rfl (ev_load (lr _) rfl ty3 rfl) ?_
    refine sq_yes rfl rfl (less_b g7) rfl (ev_geq (lr _) (lr _)) ?_
    refine sq_yes rfl rfl (lr _) rfl (ev_pickT (v := .raw _) (less_b g7) (lr _)) ?_
    refine sq_yes rfl rfl (lr _) rfl (ev_mv (v := .raw _) (lr _)) ?_
    refine sq_split 37 (lr _) (fun g8 => ?_) (fun g8 => ?_)
    ·
     have g8' := g8
     try simp only [qq] at g8'
     refine sq_yes rfl rfl (less_b g8) rfl (ev_mv (v := .sl _ _) (lr _)) ?_
     refine sq_yes rfl rfl (less_b g8) rfl (ev_fieldAddr fo84_4 (lr _)) ?_
     refine sq_yes rfl rfl (less_b g8) rfl (ev_load (lr _) rfl ty3 rfl) ?_
     refine sq_yes rfl rfl (less_b g8) rfl (ev_call en62 (lr _) (has_pure _ _ hl) ⟨lr _, lr _, trivial⟩) ?_
     refine sq_yes rfl rfl (less_b g8) rfl (ev_not (lr _)) ?_
     refine sq_yes rfl rfl (lr _) rfl (ev_pickT (v := .raw _) (less_b g8) (lr _)) ?_
     refine sq_ev rfl (ev_pickF (v := .raw _) (lr _) (lr _)) ?_
     refine sq_nil ?_
     refine aw_cond (lr _) (fun c9 => ?_) (fun c9 => ?_)
     ·
      have c9' := c9
      try simp only [qq] at c9'
      refine aw_seq (aw_region ?_)
      refine asr (lr _) rfl ?_
      refine sq_nil (aw_ret ?_)
      exact retQ_pure (v := .raw _) rfl rfl (Less.eq (by rw [isCh, okAll_bad (i := k) (by omega) (by first | (simp [chBad, *]; done) | (simp_all [chBad]; done))]))
     ·
      have c9' := c9
      try simp only [qq] at c9'
      refine aw_skip (aw_region ?_)
      refine mvr (lr _) rfl ?_
      refine sq_ev rfl (ev_add (lr _) (lr _) (wr (by omega) (by omega))) ?_
      refine asr (lr _) rfl ?_
      refine sq_nil ?_
      have hgood : chBad p l k (by omega) = false := by first | (simp [chBad, *]; done) | (simp_all [chBad]; done)
      exact ⟨⟨k + 1, by omega, fun i h hi => (by by_cases e : i = k; (subst e; exact hgood); exact hok i h (by omega))⟩, by simp only; omega, Sub.fin 1 ⟨lr _, lr _, lr _, trivial⟩ rfl (by simp [slotsIn, objsIn, sget, keepS, AObj.inB, AV.inB, AV.inL, AV.inE, inE_map]) (by simp [slotsIn, objsIn, sget, keepS, AObj.inB, AV.inB, AV.inL, AV.inE, inE_map]) (by simp [he0])⟩
    ·
     have g8' := g8
     try simp only [qq] at g8'
     refine sq_no rfl rfl (less_b g8) rfl rfl ?_
     refine sq_no rfl rfl (less_b g8) rfl rfl ?_
     refine sq_no rfl rfl (less_b g8) rfl rfl ?_
     refine sq_no rfl rfl (less_b g8) rfl rfl ?_
     refine sq_no rfl rfl (less_b g8) rfl rfl ?_
     refine sq_yes rfl rfl (lr _) rfl (ev_pickF (v := .raw _) (less_b g8) (lr _)) ?_
     refine sq_ev rfl (ev_pickF (v := .raw _) (lr _) (lr _)) ?_
     refine sq_nil ?_
     refine aw_false (lr _) ?_
     refine aw_skip (aw_region ?_)
     refine mvr (lr _) rfl ?_
     refine sq_ev rfl (ev_add (lr _) (lr _) (wr (by omega) (by omega))) ?_
     refine asr (lr _) rfl ?_
     refine sq_nil ?_
     have hgood : chBad p l k (by omega) = false := by first | (simp [chBad, *]; done) | (simp_all [chBad]; done)
     exact ⟨⟨k + 1, by omega, fun i h hi => (by by_cases e : i = k; (subst e; exact hgood); exact hok i h (by omega))⟩, by simp only; omega, Sub.fin 1 ⟨lr _, lr _, lr _, trivial⟩ rfl (by simp [slotsIn, objsIn, sget, keepS, AObj.inB, AV.inB, AV.inL, AV.inE, inE_map]) (by simp [slotsIn, objsIn, sget, keepS, AObj.inB, AV.inB, AV.inL, AV.inE, inE_map]) (by simp [he0])⟩
   ·
    have g7' := g7
    try simp only [qq] at g7'
    refine sq_no rfl rfl (less_b g7) rfl rfl ?_
    refine sq_no rfl rfl (less_b g7) rfl rfl ?_
    refine sq_no rfl rfl (less_b g7) rfl rfl ?_
    refine sq_yes rfl rfl (lr _) rfl (ev_pickF (v := .raw _) (less_b g7) (lr _)) ?_
    refine sq_yes rfl rfl (lr _) rfl (ev_mv (v := .raw _) (lr _)) ?_
    refine sq_no rfl rfl (lr _) rfl rfl ?_
    refine sq_no rfl rfl (lr _) rfl rfl ?_
    refine sq_no rfl rfl (lr _) rfl rfl ?_
    refine sq_no rfl rfl (lr _) rfl rfl ?_
    refine sq_no rfl rfl (lr _) rfl rfl ?_
    refine sq_yes rfl rfl (lr _) rfl (ev_pickF (v := .raw _) (lr _) (lr _)) ?_
    refine sq_ev rfl (ev_pickF (v := .raw _) (lr _) (lr _)) ?_
    refine sq_nil ?_
    refine aw_false (lr _) ?_
    refine aw_skip (aw_region ?_)
    refine mvr (lr _) rfl ?_
    refine sq_ev rfl (ev_add (lr _) (lr _) (wr (by omega) (by omega))) ?_
    refine asr (lr _) rfl ?_
    refine sq_nil ?_
    have hgood : chBad p l k (by omega) = false := by first | (simp [chBad, *]; done) | (simp_all [chBad]; done)
    exact ⟨⟨k + 1, by omega, fun i h hi => (by by_cases e : i = k; (subst e; exact hgood); exact hok i h (by omega))⟩, by simp only; omega, Sub.fin 1 ⟨lr _, lr _, lr _, trivial⟩ rfl (by simp [slotsIn, objsIn, sget, keepS, AObj.inB, AV.inB, AV.inL, AV.inE, inE_map]) (by simp [slotsIn, objsIn, sget, keepS, AObj.inB, AV.inB, AV.inL, AV.inE, inE_map]) (by simp [he0])⟩
 ·
  have c1' := c1
  try simp only [qq] at c1'
  refine aw_exit (aw_seq (aw_region ?_))
  refine asr (lr _) rfl ?_
  refine sq_nil (aw_ret ?_)
  exact retQ_pure (v := .raw _) rfl rfl (Less.eq (by rw [isCh, okAll_end hk c1' hok]))


end Go.Proofs.YtjghdbdiejaacaaGreatDoor

namespace Go.Proofs.YtjghdbdiejaacaaGreatDoor
open Go Go.Ab Ni
theorem en78 : Ent Tryz.prog 78 := Ent.of Tryz.func78 (by kernel_rfl) rfl
end Go.Proofs.YtjghdbdiejaacaaGreatDoor

namespace Go.Proofs.YtjghdbdiejaacaaGreatDoor
open Go Go.Ab Ni
section
variable {r : Option Nat} {H : List AObj} {ρ : Operand → AV} {d : Option Tmp} {t : TypeId} {p : String} {af : Array Edge} {g : Option (Nat × Bool)} {x y : Operand} {yt : TypeId} {a b c e : Int}
end
set_option maxHeartbeats 400000 in
/-- kelir/kelirlaw03.short -/
theorem rshort_pure (p : Pl) : APure Tryz.prog 20 [plan p] (B (decide (p.scenes.length ≤ 12))) := by
 refine apure_of (rs := [.tmp 2]) Tryz.func20 rfl rfl (Nat.le_of_ble_eq_true rfl) (by simp [AV.pureL, AV.pureB, AV.pureE, pureE_map]) (rfl) fun e0 he0 => ?_
 refine aw_seq (aw_region ?_)
 refine sq_box rfl (lr _) rfl ?_
 refine asr (lr _) rfl ?_
 refine sq_nil (aw_seq (aw_region ?_))
 refine sq_ev rfl (ev_fieldAddr fo27_3 (lr _)) ?_
 refine sq_ev rfl (ev_load (lr _) rfl ty25 rfl) ?_
 refine sq_ev rfl (ev_len_map sl25 (lr _)) ?_
 refine sq_ev rfl (ev_leq (lr _) (lr _)) ?_
 refine asr (lr _) rfl ?_
 refine sq_nil (aw_ret ?_)
 exact retQ_pure (v := .raw _) rfl rfl (Less.eq (by simp; omega))


end Go.Proofs.YtjghdbdiejaacaaGreatDoor

namespace Go.Proofs.YtjghdbdiejaacaaGreatDoor
open Go Go.Ab Ni
theorem en20 : Ent Tryz.prog 20 := Ent.of Tryz.func20 (by kernel_rfl) rfl
theorem en21 : Ent Tryz.prog 21 := Ent.of Tryz.func21 (by kernel_rfl) rfl
theorem en24 : Ent Tryz.prog 24 := Ent.of Tryz.func24 (by kernel_rfl) rfl
theorem short_no {p : Pl} (h : ¬ p.scenes.length ≤ 12) : APure Tryz.prog 20 [plan p] (B false) := by have := rshort_pure p; simpa [h] using this
theorem short_yes {p : Pl} (h : p.scenes.length ≤ 12) : APure Tryz.prog 20 [plan p] (B true) := by have := rshort_pure p; simpa [h] using this
theorem plan_no {p : Pl} (hs : p.scenes.length ≤ 12) (h : PlOK p = false) : APure Tryz.prog 24 [plan p] (B false) := by have := plan_pure p (by omega); rwa [h] at this
theorem plan_yes {p : Pl} (hs : p.scenes.length ≤ 12) (h : PlOK p = true) : APure Tryz.prog 24 [plan p] (B true) := by have := plan_pure p (by omega); rwa [h] at this
end Go.Proofs.YtjghdbdiejaacaaGreatDoor

namespace Go.Proofs.YtjghdbdiejaacaaGreatDoor
open Go Go.Ab Ni
theorem en39 : Ent Tryz.prog 39 := Ent.of Tryz.func39 (by kernel_rfl) rfl
theorem en45 : Ent Tryz.prog 45 := Ent.of Tryz.func45 (by kernel_rfl) rfl
theorem en47 : Ent Tryz.prog 47 := Ent.of Tryz.func47 (by kernel_rfl) rfl
theorem en77 : Ent Tryz.prog 77 := Ent.of Tryz.func77 (by kernel_rfl) rfl

set_option maxHeartbeats 400000 in
/-- kelir/kelirref03.Window -/
theorem rwindow0_pure (p : Pl) : APure Tryz.prog 39 [plan p, I 0] (.agg (spanC (wl p 0) (wh p 0))) := by
  refine apure_of (rs := [.cell 4 23]) Tryz.func39 rfl rfl (Nat.le_of_ble_eq_true rfl) (by simp [AV.pureL, AV.pureB, AV.pureE, pureE_map]) (rfl) fun e0 he0 => ?_
  refine aw_seq (aw_region ?_)
  refine sq_box rfl (lr _) rfl ?_
  refine sq_alloc rfl z23 ?_
  refine sq_nil (aw_seq (aw_seq (aw_region ?_)))
  refine mvr (lr _) rfl ?_
  refine sq_ev rfl (ev_eql (lr _) (lr _)) ?_
  refine sq_nil ?_
  refine aw_cond (lr _) (fun c1 => ?_) (fun c1 => ?_)
  · skip
    have c1' := c1
    try simp only [qq] at c1'
    try exact absurd c1' (by decide)
  · skip
    have c1' := c1
    try simp only [qq] at c1'
    try exact absurd (by decide) c1'
    refine aw_skip (aw_seq (aw_region ?_))
    refine mvr (lr _) rfl ?_
    refine sq_ev rfl (ev_fieldAddr fo27_1 (lr _)) ?_
    refine sq_ev rfl (ev_index_box (k := 0) ar24 (lr _) (lr _) rfl (by decide)) ?_
    refine sq_ev rfl (ev_load_agg (lr _) rfl ty23 rfl) ?_
    refine sq_store rfl (lr _) (lr _) rfl rfl ty23 rfl rfl ?_
    refine sq_nil (aw_ret ?_)
    exact retQ_res (vs := [.agg _]) rfl rfl ⟨resVar_cell rfl rfl ty23 rfl, trivial⟩ (Less.eq (by simp [wl, wh]))

set_option maxHeartbeats 400000 in
/-- kelir/kelirref03.Window -/
theorem rwindow1_pure (p : Pl) : APure Tryz.prog 39 [plan p, I 1] (.agg (spanC (wl p 1) (wh p 1))) := by
 refine apure_of (rs := [.cell 4 23]) Tryz.func39 rfl rfl (Nat.le_of_ble_eq_true rfl) (by simp [AV.pureL, AV.pureB, AV.pureE, pureE_map]) (rfl) fun e0 he0 => ?_
 refine aw_seq (aw_region ?_)
 refine sq_box rfl (lr _) rfl ?_
 refine sq_alloc rfl z23 ?_
 refine sq_nil (aw_seq (aw_seq (aw_region ?_)))
 refine mvr (lr _) rfl ?_
 refine sq_ev rfl (ev_eql (lr _) (lr _)) ?_
 refine sq_nil ?_
 refine aw_cond (lr _) (fun c1 => ?_) (fun c1 => ?_)
 ·
  have c1' := c1
  try simp only [qq] at c1'
  try exact absurd c1' (by decide)
 ·
  have c1' := c1
  try simp only [qq] at c1'
  try exact absurd (by decide) c1'
  refine aw_skip (aw_seq (aw_region ?_))
  refine mvr (lr _) rfl ?_
  refine sq_ev rfl (ev_fieldAddr fo27_1 (lr _)) ?_
  refine sq_ev rfl (ev_index_box (k := 1) ar24 (lr _) (lr _) rfl (by decide)) ?_
  refine sq_ev rfl (ev_load_agg (lr _) rfl ty23 rfl) ?_
  refine sq_store rfl (lr _) (lr _) rfl rfl ty23 rfl rfl ?_
  refine sq_nil (aw_ret ?_)
  exact retQ_res (vs := [.agg _]) rfl rfl ⟨resVar_cell rfl rfl ty23 rfl, trivial⟩ (Less.eq (by simp [wl, wh]))

set_option maxHeartbeats 400000 in
/-- kelir/kelirref03.Window -/
theorem rwindow2_pure (p : Pl) : APure Tryz.prog 39 [plan p, I 2] (.agg (spanC (wl p 2) (wh p 2))) := by
 refine apure_of (rs := [.cell 4 23]) Tryz.func39 rfl rfl (Nat.le_of_ble_eq_true rfl) (by simp [AV.pureL, AV.pureB, AV.pureE, pureE_map]) (rfl) fun e0 he0 => ?_
 refine aw_seq (aw_region ?_)
 refine sq_box rfl (lr _) rfl ?_
 refine sq_alloc rfl z23 ?_
 refine sq_nil (aw_seq (aw_seq (aw_region ?_)))
 refine mvr (lr _) rfl ?_
 refine sq_ev rfl (ev_eql (lr _) (lr _)) ?_
 refine sq_nil ?_
 refine aw_cond (lr _) (fun c1 => ?_) (fun c1 => ?_)
 ·
  have c1' := c1
  try simp only [qq] at c1'
  try exact absurd c1' (by decide)
  refine aw_seq (aw_region ?_)
  refine sq_ev rfl (ev_fieldAddr fo27_2 (lr _)) ?_
  refine sq_ev rfl (ev_load_agg (lr _) rfl ty23 rfl) ?_
  refine sq_store rfl (lr _) (lr _) rfl rfl ty23 rfl rfl ?_
  refine sq_nil (aw_ret ?_)
  exact retQ_res (vs := [.agg _]) rfl rfl ⟨resVar_cell rfl rfl ty23 rfl, trivial⟩ (Less.eq (by simp [wl, wh]))
 ·
  have c1' := c1
  try simp only [qq] at c1'
  try exact absurd (by decide) c1'

theorem rwindow_pure (p : Pl) (k : Nat) (h : k < 3) : APure Tryz.prog 39 [plan p, I k] (.agg (spanC (wl p k) (wh p k))) := by
  rcases k with _ | _ | _ | k
  · exact rwindow0_pure p
  · exact rwindow1_pure p
  · exact rwindow2_pure p
  · omega

set_option maxHeartbeats 400000 in
/-- kelir/kelirlaw03.slim -/
theorem rslim_pure (l : List Int) : APure Tryz.prog 45 [ints l] (B (decide (l.length ≤ 12))) := by
 refine apure_of (rs := [.tmp 2]) Tryz.func45 rfl rfl (Nat.le_of_ble_eq_true rfl) (by simp [AV.pureL, AV.pureB, AV.pureE, pureE_map]) (rfl) fun e0 he0 => ?_
 refine aw_seq (aw_region ?_)
 refine asr (lr _) rfl ?_
 refine sq_nil (aw_seq (aw_region ?_))
 refine sq_ev rfl (ev_mv (v := .sl _ _) (lr _)) ?_
 refine sq_ev rfl (ev_len_map sl34 (lr _)) ?_
 refine sq_ev rfl (ev_leq (lr _) (lr _)) ?_
 refine asr (lr _) rfl ?_
 refine sq_nil (aw_ret ?_)
 exact retQ_pure (v := .raw _) rfl rfl (Less.eq (by simp; omega))

set_option maxHeartbeats 400000 in
/-- kelir/kelirlaw03.choice -/
theorem rchoice_pure (p : Pl) (l : List Int) (hp : p.scenes.length ≤ 1000000) (hl : l.length ≤ 1000000) : APure Tryz.prog 47 [plan p, ints l] (B (Ris p l && isCh p l)) := by
 refine apure_of (rs := [.tmp 4]) Tryz.func47 rfl rfl (Nat.le_of_ble_eq_true rfl) (by simp [AV.pureL, AV.pureB, AV.pureE, pureE_map]) (rfl) fun e0 he0 => ?_
 refine aw_seq (aw_region ?_)
 refine sq_box rfl (lr _) rfl ?_
 refine asr (lr _) rfl ?_
 refine sq_nil (aw_seq (aw_region ?_))
 refine sq_ev rfl (ev_load_agg (lr _) rfl ty27 rfl) ?_
 refine sq_ev rfl (ev_mv (v := .sl _ _) (lr _)) ?_
 refine sq_ev rfl (ev_call en77 (lr _) (rising_pure p l hp hl) ⟨lr _, lr _, trivial⟩) ?_
 refine mvr (lr _) rfl ?_
 refine sq_split 8 (lr _) (fun g1 => ?_) (fun g1 => ?_)
 ·
  have g1' := g1
  try simp only [qq] at g1'
  refine sq_yes rfl rfl (less_b g1) rfl (ev_load_agg (lr _) rfl ty27 rfl) ?_
  refine sq_yes rfl rfl (less_b g1) rfl (ev_mv (v := .sl _ _) (lr _)) ?_
  refine sq_yes rfl rfl (less_b g1) rfl (ev_call en78 (lr _) (choice_pure p l hp hl) ⟨lr _, lr _, trivial⟩) ?_
  refine sq_ev rfl (ev_pickT (v := .raw _) (less_b g1) (lr _)) ?_
  refine asr (lr _) rfl ?_
  refine sq_nil (aw_ret ?_)
  exact retQ_pure (v := .raw _) rfl rfl (Less.eq (by simp [*]))
 ·
  have g1' := g1
  try simp only [qq] at g1'
  refine sq_no rfl rfl (less_b g1) rfl rfl ?_
  refine sq_no rfl rfl (less_b g1) rfl rfl ?_
  refine sq_no rfl rfl (less_b g1) rfl rfl ?_
  refine sq_ev rfl (ev_pickF (v := .raw _) (less_b g1) (lr _)) ?_
  refine asr (lr _) rfl ?_
  refine sq_nil (aw_ret ?_)
  exact retQ_pure (v := .raw _) rfl rfl (Less.eq (by simp [*]))

end Go.Proofs.YtjghdbdiejaacaaGreatDoor

namespace Go.Proofs.YtjghdbdiejaacaaGreatDoor
open Go Go.Ab Ni
theorem en55 : Ent Tryz.prog 55 := Ent.of Tryz.func55 (by kernel_rfl) rfl
theorem en58 : Ent Tryz.prog 58 := Ent.of Tryz.func58 (by kernel_rfl) rfl
theorem en59 : Ent Tryz.prog 59 := Ent.of Tryz.func59 (by kernel_rfl) rfl
theorem en61 : Ent Tryz.prog 61 := Ent.of Tryz.func61 (by kernel_rfl) rfl
def canAV (p : Pl) (l : List Int) : AV := if chosenB p l = true then .tup [B (canP p (dn l)), I 0] else .tup [B false, I 2]
def nfitsAV (p : Pl) (l ls : List Int) : AV := if chosenB p l = true ∧ lastsP p (dn l) ls = true then .tup [B (canP (pFF p (dn l) ls) (dn l)), I 0] else .tup [B false, I 2]
theorem canAV_pure (p : Pl) (l : List Int) : (canAV p l).pureB = true := by unfold canAV; split <;> rfl
theorem nfitsAV_pure (p : Pl) (l ls : List Int) : (nfitsAV p l ls).pureB = true := by unfold nfitsAV; split <;> rfl
theorem lasts_len {p : Pl} {l : List Nat} {ls : List Int} (h : l.length ≠ ls.length) : lastsP p l ls = false := by simp [lastsP, h]
theorem lasts_bad {p : Pl} {l : List Nat} {ls : List Int} {i : Nat} (h : i < l.length) (hb : lsBad p l ls i h = true) : lastsP p l ls = false := by
  unfold lastsP; rw [okAll_bad h hb, Bool.and_false]
theorem lasts_end {p : Pl} {l : List Nat} {ls : List Int} (hl : l.length = ls.length) {k : Nat} (hk : k ≤ l.length) (hn : ¬ (k : Int) < l.length) (h : ∀ i, (h : i < l.length) → i < k → lsBad p l ls i h = false) : lastsP p l ls = true := by
  unfold lastsP; rw [okAll_end hk hn h, Bool.and_true]; simpa using hl
theorem endI_bd {p : Pl} {l : List Nat} {ls : List Int} (gp : GP p) (hls : l.length = ls.length) (hb : ∀ x ∈ ls, 0 ≤ x ∧ x ≤ 10000) (k : Int) : ∀ i, i ≤ l.length → -10000 ≤ endI p l ls k i ∧ endI p l ls k i ≤ 10000 + 10000 * i
  | 0, _ => by have := gp.beg; simp only [endI]; omega
  | i + 1, hi => by
    have ih := endI_bd gp hls hb k i (by omega)
    have hv := hb _ (List.getElem_mem (show i < ls.length by omega))
    rw [endI, getD_at (show i < ls.length by omega)]
    split <;> omega
theorem lasts_bds {p : Pl} {l : List Nat} {ls : List Int} (gp : GP p) (cv : CV p l) (h : lastsP p l ls = true) : ∀ x ∈ ls, 0 ≤ x ∧ x ≤ 10000 := fun x hx => by
  obtain ⟨hl, hv⟩ := lasts_at h
  obtain ⟨i, hi, rfl⟩ := List.getElem_of_mem hx
  have := hv i (by omega)
  rw [getD_at hi] at this
  have a1 := gp.least (cv.rng _ (List.getElem_mem (show i < l.length by omega)))
  have a2 := gp.most (cv.rng _ (List.getElem_mem (show i < l.length by omega)))
  omega
theorem parts_ok {p : Pl} (h : PlOK p = true) {l : List Nat} (cv : CV p l) : ∀ x ∈ l, 0 ≤ (scn p x).part ∧ (scn p x).part ≤ 2 := fun x hx => by
  obtain ⟨k, hk, hk3⟩ := partOf_ok h (cv.rng x hx); omega
set_option maxHeartbeats 1000000 in
/-- kelir/night.Can -/
theorem nCan_pure (p : Pl) (l : List Int) (hp : p.scenes.length ≤ 1000000) (hl : l.length ≤ 1000000) : APure Tryz.prog 55 [plan p, ints l] (canAV p l) := by
 refine apure_of (rs := [.tmp 4, .tmp 5]) Tryz.func55 rfl rfl (Nat.le_of_ble_eq_true rfl) (by simp [AV.pureL, AV.pureB, AV.pureE, pureE_map]) (canAV_pure p l) fun e0 he0 => ?_
 refine aw_seq (aw_region ?_)
 refine sq_box rfl (lr _) rfl ?_
 refine asr (lr _) rfl ?_
 refine asr (lr _) rfl ?_
 refine sq_nil (aw_seq (aw_region ?_))
 refine sq_ev rfl (ev_load_agg (lr _) rfl ty27 rfl) ?_
 refine sq_ev rfl (ev_mv (v := .sl _ _) (lr _)) ?_
 refine sq_ev rfl (ev_call en107 (lr _) (nchosen_pure p l hp hl) ⟨lr _, lr _, trivial⟩) ?_
 refine sq_ev rfl (ev_mv (v := .tup _) (lr _)) ?_
 refine sq_ev rfl (ev_extract (lr _) rfl) ?_
 refine sq_ev rfl (ev_extract (lr _) rfl) ?_
 refine sq_alloc rfl z110 ?_
 refine sq_store rfl (lr _) (lr _) rfl rfl ty110 rfl rfl ?_
 refine asr (lr _) rfl ?_
 refine sq_nil (aw_seq (aw_seq (aw_region ?_)))
 refine mvr (lr _) rfl ?_
 refine sq_ev rfl (ev_not (lr _)) ?_
 refine sq_nil ?_
 refine aw_cond (lr _) (fun c1 => ?_) (fun c1 => ?_)
 ·
  have c1' := c1
  try simp only [qq] at c1'
  refine aw_seq (aw_region ?_)
  refine asr (lr _) rfl ?_
  refine asr (lr _) rfl ?_
  refine sq_nil (aw_ret ?_)
  exact retQ_pure (v := .tup [.raw _, .raw _]) rfl rfl (Less.eq (by simp [canAV, c1']))
 ·
  have c1' := c1
  try simp only [qq] at c1'
  obtain ⟨l', rfl, cv, gp, wp⟩ := chosen_up c1'
  refine aw_skip (aw_seq (aw_region ?_))
  refine sq_ev rfl (ev_load_agg (lr _) rfl ty110 rfl) ?_
  refine sq_ev rfl (ev_call en88 (lr _) (ncan_pure p l' gp cv) ⟨Less.eq (playedI_up p l'), trivial⟩) ?_
  refine asr (lr _) rfl ?_
  refine asr (lr _) rfl ?_
  refine sq_nil (aw_ret ?_)
  exact retQ_pure (v := .tup [.raw _, .raw _]) rfl rfl (Less.eq (by simp [canAV, c1', dn_up]))

set_option maxHeartbeats 2000000 in
/-- kelir/night.Fits -/
theorem nFits_pure (p : Pl) (l ls : List Int) (hp : p.scenes.length ≤ 1000000) (hl : l.length ≤ 1000000) : APure Tryz.prog 59 [plan p, ints l, ints ls] (nfitsAV p l ls) := by
 refine apure_of (rs := [.tmp 6, .tmp 7]) Tryz.func59 rfl rfl (Nat.le_of_ble_eq_true rfl) (by simp [AV.pureL, AV.pureB, AV.pureE, pureE_map]) (nfitsAV_pure p l ls) fun e0 he0 => ?_
 refine aw_seq (aw_region ?_)
 refine sq_box rfl (lr _) rfl ?_
 refine asr (lr _) rfl ?_
 refine asr (lr _) rfl ?_
 refine sq_nil (aw_seq (aw_region ?_))
 refine sq_ev rfl (ev_load_agg (lr _) rfl ty27 rfl) ?_
 refine sq_ev rfl (ev_mv (v := .sl _ _) (lr _)) ?_
 refine sq_ev rfl (ev_call en107 (lr _) (nchosen_pure p l hp hl) ⟨lr _, lr _, trivial⟩) ?_
 refine sq_ev rfl (ev_mv (v := .tup _) (lr _)) ?_
 refine sq_ev rfl (ev_extract (lr _) rfl) ?_
 refine sq_ev rfl (ev_extract (lr _) rfl) ?_
 refine sq_alloc rfl z110 ?_
 refine sq_store rfl (lr _) (lr _) rfl rfl ty110 rfl rfl ?_
 refine asr (lr _) rfl ?_
 refine sq_nil (aw_seq (aw_seq (aw_region ?_)))
 refine mvr (lr _) rfl ?_
 refine sq_ev rfl (ev_not (lr _)) ?_
 refine mvr (lr _) rfl ?_
 refine sq_split 20 (lr _) (fun g1 => ?_) (fun g1 => ?_)
 ·
  have g1' := g1
  try simp only [qq] at g1'
  refine sq_no rfl rfl (less_b g1) rfl rfl ?_
  refine sq_no rfl rfl (less_b g1) rfl rfl ?_
  refine sq_no rfl rfl (less_b g1) rfl rfl ?_
  refine sq_no rfl rfl (less_b g1) rfl rfl ?_
  refine sq_no rfl rfl (less_b g1) rfl rfl ?_
  refine sq_ev rfl (ev_pickT (v := .raw _) (less_b g1) (lr _)) ?_
  refine sq_nil ?_
  refine aw_true (lr _) ?_
  refine aw_seq (aw_region ?_)
  refine asr (lr _) rfl ?_
  refine asr (lr _) rfl ?_
  refine sq_nil (aw_ret ?_)
  exact retQ_pure (v := .tup [.raw _, .raw _]) rfl rfl (Less.eq (by rw [nfitsAV, if_neg (fun h => by rw [h.1] at g1'; cases g1')]))
 ·
  have g1' := g1
  try simp only [qq] at g1'
  refine sq_yes rfl rfl (less_b g1) rfl (ev_mv (v := .sl _ _) (lr _)) ?_
  refine sq_yes rfl rfl (less_b g1) rfl (ev_len_map sl34 (lr _)) ?_
  refine sq_yes rfl rfl (less_b g1) rfl (ev_mv (v := .sl _ _) (lr _)) ?_
  refine sq_yes rfl rfl (less_b g1) rfl (ev_len_map sl34 (lr _)) ?_
  refine sq_yes rfl rfl (less_b g1) rfl (ev_neq (lr _) (lr _)) ?_
  refine sq_ev rfl (ev_pickF (v := .raw _) (less_b g1) (lr _)) ?_
  refine sq_nil ?_
  refine aw_cond (lr _) (fun c2 => ?_) (fun c2 => ?_)
  ·
   have c2' := c2
   try simp only [qq] at c2'
   refine aw_seq (aw_region ?_)
   refine asr (lr _) rfl ?_
   refine asr (lr _) rfl ?_
   refine sq_nil (aw_ret ?_)
   exact retQ_pure (v := .tup [.raw _, .raw _]) rfl rfl (Less.eq (by rw [nfitsAV, if_neg (fun h => by have h2 := (lasts_at h.2).1; simp only [dn, List.length_map] at h2; omega)]))
  ·
   have c2' := c2
   try simp only [qq] at c2'
   refine aw_skip (aw_seq (aw_seq ?_))
   obtain ⟨l', rfl, cv, gp, wp⟩ := chosen_up (p := p) (l := l) (by simp_all)
   have hlen : l'.length = ls.length := by simp [up] at c2'; omega
   simp only [playedI, ints, eup]
   refine aw_region ?_
   refine sq_ev rfl (ev_mv (v := .sl _ _) (lr _)) ?_
   refine sq_ev rfl (ev_len_map sl34 (lr _)) ?_
   refine mvr (lr _) rfl ?_
   refine sq_nil (aw_block ?_)
   refine aw_loopk (ι := { i : Nat // i ≤ l'.length ∧ ∀ j, (h : j < l'.length) → j < i → lsBad p l' ls j h = false }) [2, 3, 8, 27, 28] (fun i => [(29, I i.1)]) (fun H i => H.set 1 (.cells (playedC (pF p l' ls i.1) l'))) (fun i => l'.length - i.1) (⟨0, Nat.zero_le _, by omega⟩) ⟨lr _, lr _, lr _, lr _, lr _, lr _, trivial⟩ rfl ?_
   rintro ⟨i, hi, hok⟩
   dsimp only [keepS, St.put, sget, slotsOf, List.map_cons, List.map_nil, List.cons_append, List.nil_append, List.length_cons, List.length_nil, Nat.reduceBEq, Nat.reduceAdd, cond_true, cond_false]
   refine aw_seq (aw_region ?_)
   refine sq_ev rfl (ev_lss (lr _) (lr _)) ?_
   refine sq_nil (aw_seq ?_)
   refine aw_cond (lr _) (fun c3 => ?_) (fun c3 => ?_)
   ·
    have c3' := c3
    try simp only [qq] at c3'
    have hi' : i < l'.length := by omega
    have hlt := cv.rng _ (List.getElem_mem hi')
    have he := scn_eq hlt
    have hil : i < ls.length := by omega
    have hgd : ls.getD i 0 = ls[i] := getD_at hil 0
    have hgl : l'.getD i 0 = l'[i] := getD_at hi' 0
    have hpl := (pF_fields p l' ls i).2.2.2
    refine aw_skip (aw_seq (aw_block (aw_seq (aw_region ?_))))
    refine mvr (lr _) rfl ?_
    refine sq_ev rfl (ev_index_map sl34 (lr _) (lr _) rfl (by omega)) ?_
    refine sq_ev rfl (ev_load_i (lr _) ty3 rfl) ?_
    refine asr (lr _) rfl ?_
    refine asr (lr _) rfl ?_
    refine sq_nil (aw_seq (aw_seq ?_))
    refine aw_draw 18 mo (by kernel_rfl) ?_
    refine dr_ev rfl (ev_mv (v := .sl _ _) (lr _)) ?_
    refine dr_ev rfl (ev_mv (v := .raw _) (lr _)) ?_
    refine dr_ev rfl (ev_index_map sl34 (lr _) (lr _) rfl (by omega)) ?_
    refine dr_ev rfl (ev_load_i (lr _) ty3 rfl) ?_
    refine dr_ev rfl (ev_fieldAddr fo27_3 (lr _)) ?_
    refine dr_ev rfl (ev_load (lr _) rfl ty25 rfl) ?_
    refine dr_ev rfl (ev_mv (v := .raw _) (lr _)) ?_
    refine dr_ev rfl (ev_index_map sl25 (lr _) (lr _) rfl (by omega)) ?_
    refine dr_ev rfl (ev_fieldAddr_i fo84_1 (lr _)) ?_
    refine dr_ev rfl (ev_load_i (lr _) ty3 rfl) ?_
    refine dr_ev rfl (ev_fieldAddr fo27_3 (lr _)) ?_
    refine dr_ev rfl (ev_load (lr _) rfl ty25 rfl) ?_
    refine dr_ev rfl (ev_mv (v := .raw _) (lr _)) ?_
    refine dr_ev rfl (ev_index_map sl25 (lr _) (lr _) rfl (by omega)) ?_
    refine dr_ev rfl (ev_fieldAddr_i fo84_2 (lr _)) ?_
    refine dr_ev rfl (ev_load_i (lr _) ty3 rfl) ?_
    refine dr_ev rfl (ev_call en122 (lr _) (nin_pure _ _ _) ⟨lr _, lr _, lr _, trivial⟩) ?_
    refine dr_ev rfl (ev_not (lr _)) ?_
    refine dr_end (sq_nil ?_)
    refine aw_cond (lr _) (fun c4 => ?_) (fun c4 => ?_)
    ·
     have c4' := c4
     try simp only [qq] at c4'
     refine aw_seq (aw_region ?_)
     refine asr (lr _) rfl ?_
     refine asr (lr _) rfl ?_
     refine sq_nil (aw_ret ?_)
     exact retQ_pure (v := .tup [.raw _, .raw _]) rfl rfl (Less.eq (by rw [nfitsAV, if_neg (fun h => by have h2 := h.2; rw [dn_up, lasts_bad hi' (by simp only [lsBad, hgd, he, c4', Bool.not_false])] at h2; cases h2)]))
    ·
     have c4' := c4
     try simp only [qq] at c4'
     have hgood : lsBad p l' ls i hi' = false := by simp only [lsBad, hgd, he, inn] at c4' ⊢; simpa using c4'
     have e3 : pF p l' ls (i + 1) = fixP (pF p l' ls i) l'[i] ls[i] := by rw [pF, hgd, hgl]
     refine aw_skip ?_
     refine aw_draw 9 mo (by kernel_rfl) ?_
     refine dr_ev rfl (ev_fieldAddr fo110_0 (lr _)) ?_
     refine dr_ev rfl (ev_load_agg (lr _) rfl ty27 rfl) ?_
     refine dr_ev rfl (ev_mv (v := .raw _) (lr _)) ?_
     refine dr_ev rfl (ev_mv (v := .sl _ _) (lr _)) ?_
     refine dr_ev rfl (ev_mv (v := .raw _) (lr _)) ?_
     refine dr_ev rfl (ev_index_map sl34 (lr _) (lr _) rfl (by omega)) ?_
     refine dr_ev rfl (ev_load_i (lr _) ty3 rfl) ?_
     refine dr_ev rfl (ev_call en87 (lr _) (nfixed_pure (p := pF p l' ls i) (k := l'[i]) (n := ls[i]) (by rw [hpl]; exact hlt) (by rw [hpl]; exact hp)) ⟨lr _, lr _, lr _, trivial⟩) ?_
     refine dr_ev rfl (ev_fieldAddr fo110_0 (lr _)) ?_
     refine dr_end ?_
     refine sq_store rfl (lr _) (lr _) rfl rfl ty27 rfl rfl ?_
     refine sq_nil (aw_region ?_)
     refine sq_ev rfl (ev_add (lr _) (lr _) (wr (by omega) (by omega))) ?_
     refine mvr (lr _) rfl ?_
     refine sq_nil ?_
     exact ⟨⟨i + 1, by omega, fun j h hj => (by by_cases e : j = i; (subst e; exact hgood); exact hok j h (by omega))⟩, by simp only; omega, Sub.fin 2 ⟨lr _, lr _, lr _, lr _, lr _, lr _, trivial⟩ (congrArg (fun (q : Pl) => [AObj.cells (planC p), AObj.cells (playedC q l')]) e3.symm) (by simp [slotsIn, objsIn, sget, keepS, AObj.inB, AV.inB, AV.inL, AV.inE, inE_map, inE_ints, inE_sc, -List.map_append, -List.map_take, -List.map_map]) (by simp [slotsIn, objsIn, sget, keepS, AObj.inB, AV.inB, AV.inL, AV.inE, inE_map, inE_ints, inE_sc, -List.map_append, -List.map_take, -List.map_map]) (by simp [he0])⟩
   ·
    have c3' := c3
    try simp only [qq] at c3'
    obtain rfl : i = l'.length := by omega
    have hlast : lastsP p l' ls = true := lasts_end hlen (Nat.le_refl _) (by omega) hok
    obtain ⟨gpF, wpF, cvF⟩ := pF_ok gp wp cv hlast l'.length (Nat.le_refl _)
    refine aw_exit (aw_seq (aw_region ?_))
    refine sq_ev rfl (ev_load_agg (lr _) rfl ty110 rfl) ?_
    refine sq_ev rfl (ev_call en88 (lr _) (ncan_pure (pFF p l' ls) l' gpF cvF) ⟨lr _, trivial⟩) ?_
    refine asr (lr _) rfl ?_
    refine asr (lr _) rfl ?_
    refine sq_nil (aw_ret ?_)
    exact retQ_pure (v := .tup [.raw _, .raw _]) rfl rfl (Less.eq (by rw [nfitsAV, if_pos ⟨by simp_all, by rw [dn_up]; exact hlast⟩, dn_up]))

set_option maxHeartbeats 1000000 in
/-- kelir/kelirref03.Lasts -/
theorem rlasts_pure (p : Pl) (l : List Nat) (ls : List Int) (cv : CV p l) (hls : ls.length ≤ 1000000) : APure Tryz.prog 58 [plan p, nats l, ints ls] (B (lastsP p l ls)) := by
 refine apure_of (rs := [.tmp 6]) Tryz.func58 rfl rfl (Nat.le_of_ble_eq_true rfl) (by simp [AV.pureL, AV.pureB, AV.pureE, pureE_map]) (rfl) fun e0 he0 => ?_
 refine aw_seq (aw_region ?_)
 refine sq_box rfl (lr _) rfl ?_
 refine asr (lr _) rfl ?_
 refine sq_nil (aw_seq (aw_seq (aw_region ?_)))
 refine sq_ev rfl (ev_mv (v := .sl _ _) (lr _)) ?_
 refine sq_ev rfl (ev_len_map sl34 (lr _)) ?_
 refine sq_ev rfl (ev_mv (v := .sl _ _) (lr _)) ?_
 refine sq_ev rfl (ev_len_map sl34 (lr _)) ?_
 refine sq_ev rfl (ev_neq (lr _) (lr _)) ?_
 refine sq_nil ?_
 refine aw_cond (lr _) (fun c1 => ?_) (fun c1 => ?_)
 ·
  have c1' := c1
  try simp only [qq] at c1'
  refine aw_seq (aw_region ?_)
  refine asr (lr _) rfl ?_
  refine sq_nil (aw_ret ?_)
  exact retQ_pure (v := .raw _) rfl rfl (Less.eq (by rw [lasts_len (by omega)]))
 ·
  have c1' := c1
  try simp only [qq] at c1'
  have hlen : l.length = ls.length := by omega
  refine aw_skip (aw_seq (aw_seq (aw_region ?_)))
  refine asr (lr _) rfl ?_
  refine sq_nil (aw_block ?_)
  refine aw_loopk (ι := { k : Nat // k ≤ l.length ∧ ∀ i, (h : i < l.length) → i < k → lsBad p l ls i h = false }) [1, 2, 3] (fun i => [(7, I i.1)]) (fun H i => H) (fun i => l.length - i.1) (⟨0, Nat.zero_le _, by omega⟩) ⟨lr _, lr _, lr _, lr _, trivial⟩ rfl ?_
  rintro ⟨k, hk, hok⟩
  dsimp only [keepS, St.put, sget, slotsOf, List.map_cons, List.map_nil, List.cons_append, List.nil_append, List.length_cons, List.length_nil, Nat.reduceBEq, Nat.reduceAdd, cond_true, cond_false]
  refine aw_seq (aw_seq (aw_region ?_))
  refine mvr (lr _) rfl ?_
  refine sq_ev rfl (ev_mv (v := .sl _ _) (lr _)) ?_
  refine sq_ev rfl (ev_len_map sl34 (lr _)) ?_
  refine sq_ev rfl (ev_lss (lr _) (lr _)) ?_
  refine sq_nil ?_
  refine aw_cond (lr _) (fun c2 => ?_) (fun c2 => ?_)
  ·
   have c2' := c2
   try simp only [qq] at c2'
   have hi' : k < l.length := by omega
   have hlt := cv.rng _ (List.getElem_mem hi')
   have he := scn_eq hlt
   have hil : k < ls.length := by omega
   have hgd : ls.getD k 0 = ls[k] := getD_at hil 0
   refine aw_skip (aw_seq (aw_block (aw_seq ?_)))
   refine aw_draw 24 mo (by kernel_rfl) ?_
   refine dr_ev rfl (ev_mv (v := .sl _ _) (lr _)) ?_
   refine dr_ev rfl (ev_mv (v := .raw _) (lr _)) ?_
   refine dr_ev rfl (ev_index_map sl34 (lr _) (lr _) rfl (by omega)) ?_
   refine dr_ev rfl (ev_load_i (lr _) ty3 rfl) ?_
   refine dr_ev rfl (ev_fieldAddr fo27_3 (lr _)) ?_
   refine dr_ev rfl (ev_load (lr _) rfl ty25 rfl) ?_
   refine dr_ev rfl (ev_mv (v := .sl _ _) (lr _)) ?_
   refine dr_ev rfl (ev_mv (v := .raw _) (lr _)) ?_
   refine dr_ev rfl (ev_index_map sl34 (lr _) (lr _) rfl (by omega)) ?_
   refine dr_ev rfl (ev_load_i (lr _) ty3 rfl) ?_
   refine dr_ev rfl (ev_index_map sl25 (lr _) (lr _) rfl (by omega)) ?_
   refine dr_ev rfl (ev_fieldAddr_i fo84_1 (lr _)) ?_
   refine dr_ev rfl (ev_load_i (lr _) ty3 rfl) ?_
   refine dr_ev rfl (ev_fieldAddr fo27_3 (lr _)) ?_
   refine dr_ev rfl (ev_load (lr _) rfl ty25 rfl) ?_
   refine dr_ev rfl (ev_mv (v := .sl _ _) (lr _)) ?_
   refine dr_ev rfl (ev_mv (v := .raw _) (lr _)) ?_
   refine dr_ev rfl (ev_index_map sl34 (lr _) (lr _) rfl (by omega)) ?_
   refine dr_ev rfl (ev_load_i (lr _) ty3 rfl) ?_
   refine dr_ev rfl (ev_index_map sl25 (lr _) (lr _) rfl (by omega)) ?_
   refine dr_ev rfl (ev_fieldAddr_i fo84_2 (lr _)) ?_
   refine dr_ev rfl (ev_load_i (lr _) ty3 rfl) ?_
   refine dr_ev rfl (ev_call en89 (lr _) (in_pure _ _ _) ⟨lr _, lr _, lr _, trivial⟩) ?_
   refine dr_ev rfl (ev_not (lr _)) ?_
   refine dr_end (sq_nil ?_)
   refine aw_cond (lr _) (fun c3 => ?_) (fun c3 => ?_)
   ·
    have c3' := c3
    try simp only [qq] at c3'
    refine aw_seq (aw_region ?_)
    refine asr (lr _) rfl ?_
    refine sq_nil (aw_ret ?_)
    exact retQ_pure (v := .raw _) rfl rfl (Less.eq (by rw [lasts_bad hi' (by simp only [lsBad, hgd, he] at c3' ⊢; simpa using c3')]))
   ·
    have c3' := c3
    try simp only [qq] at c3'
    refine aw_skip (aw_region ?_)
    refine mvr (lr _) rfl ?_
    refine sq_ev rfl (ev_add (lr _) (lr _) (wr (by omega) (by omega))) ?_
    refine asr (lr _) rfl ?_
    refine sq_nil ?_
    have hgood : lsBad p l ls k (by omega) = false := by simp only [lsBad, hgd, he] at c3' ⊢; simpa using c3'
    exact ⟨⟨k + 1, by omega, fun i h hi => (by by_cases e : i = k; (subst e; exact hgood); exact hok i h (by omega))⟩, by simp only; omega, Sub.slots ⟨lr _, lr _, lr _, lr _, trivial⟩⟩
  ·
   have c2' := c2
   try simp only [qq] at c2'
   refine aw_exit (aw_seq (aw_region ?_))
   refine asr (lr _) rfl ?_
   refine sq_nil (aw_ret ?_)
   exact retQ_pure (v := .raw _) rfl rfl (Less.eq (by rw [lasts_end hlen hk c2' hok]))

set_option maxHeartbeats 1000000 in
/-- kelir/kelirref03.End -/
theorem rend_pure (p : Pl) (l : List Nat) (ls : List Int) (k : Int) (gp : GP p) (cv : CV p l) (hls : l.length = ls.length) (hb : ∀ x ∈ ls, 0 ≤ x ∧ x ≤ 10000) : APure Tryz.prog 61 [plan p, nats l, ints ls, I k] (I (endR p l ls k)) := by
 refine apure_of (rs := [.tmp 8]) Tryz.func61 rfl rfl (Nat.le_of_ble_eq_true rfl) (by simp [AV.pureL, AV.pureB, AV.pureE, pureE_map]) (rfl) fun e0 he0 => ?_
 refine aw_seq (aw_region ?_)
 refine sq_box rfl (lr _) rfl ?_
 refine asr (lr _) rfl ?_
 refine sq_nil (aw_seq (aw_region ?_))
 refine sq_ev rfl (ev_fieldAddr fo27_0 (lr _)) ?_
 refine sq_ev rfl (ev_load (lr _) rfl ty3 rfl) ?_
 refine asr (lr _) rfl ?_
 refine sq_nil (aw_seq (aw_seq (aw_region ?_)))
 refine asr (lr _) rfl ?_
 refine sq_nil (aw_block ?_)
 refine aw_loopk (ι := { i : Nat // i ≤ l.length }) [1, 2, 3, 4] (fun i => [(10, I i.1), (9, I (endI p l ls k i.1))]) (fun H i => H) (fun i => l.length - i.1) (⟨0, Nat.zero_le _⟩) ⟨lr _, lr _, lr _, lr _, lr _, lr _, trivial⟩ rfl ?_
 rintro ⟨i, hi⟩
 dsimp only [keepS, St.put, sget, slotsOf, List.map_cons, List.map_nil, List.cons_append, List.nil_append, List.length_cons, List.length_nil, Nat.reduceBEq, Nat.reduceAdd, cond_true, cond_false]
 have hbd := endI_bd gp hls hb k i hi
 have hcl := cv.len
 refine aw_seq (aw_seq (aw_region ?_))
 refine mvr (lr _) rfl ?_
 refine sq_ev rfl (ev_mv (v := .sl _ _) (lr _)) ?_
 refine sq_ev rfl (ev_len_map sl34 (lr _)) ?_
 refine sq_ev rfl (ev_lss (lr _) (lr _)) ?_
 refine sq_nil ?_
 refine aw_cond (lr _) (fun c1 => ?_) (fun c1 => ?_)
 ·
  have c1' := c1
  try simp only [qq] at c1'
  have hi' : i < l.length := by omega
  have hlt := cv.rng _ (List.getElem_mem hi')
  have he := scn_eq hlt
  have hil : i < ls.length := by omega
  have hgd : ls.getD i 0 = ls[i] := getD_at hil 0
  have hgl : l.getD i 0 = l[i] := getD_at hi' 0
  have hbv := hb _ (List.getElem_mem hil)
  refine aw_skip (aw_seq (aw_block (aw_seq ?_)))
  refine aw_draw 11 mo (by kernel_rfl) ?_
  refine dr_ev rfl (ev_fieldAddr fo27_3 (lr _)) ?_
  refine dr_ev rfl (ev_load (lr _) rfl ty25 rfl) ?_
  refine dr_ev rfl (ev_mv (v := .sl _ _) (lr _)) ?_
  refine dr_ev rfl (ev_mv (v := .raw _) (lr _)) ?_
  refine dr_ev rfl (ev_index_map sl34 (lr _) (lr _) rfl (by omega)) ?_
  refine dr_ev rfl (ev_load_i (lr _) ty3 rfl) ?_
  refine dr_ev rfl (ev_index_map sl25 (lr _) (lr _) rfl (by omega)) ?_
  refine dr_ev rfl (ev_fieldAddr_i fo84_0 (lr _)) ?_
  refine dr_ev rfl (ev_load_i (lr _) ty3 rfl) ?_
  refine dr_ev rfl (ev_mv (v := .raw _) (lr _)) ?_
  refine dr_ev rfl (ev_leq (lr _) (lr _)) ?_
  refine dr_end (sq_nil ?_)
  refine aw_cond (lr _) (fun c2 => ?_) (fun c2 => ?_)
  ·
   have c2' := c2
   try simp only [qq] at c2'
   have eE : endI p l ls k i + ls[i] = endI p l ls k (i + 1) := by rw [endI, hgd, hgl, he, if_pos c2']
   refine aw_region ?_
   refine mvr (lr _) rfl ?_
   refine sq_ev rfl (ev_mv (v := .sl _ _) (lr _)) ?_
   refine mvr (lr _) rfl ?_
   refine sq_ev rfl (ev_index_map sl34 (lr _) (lr _) rfl (by omega)) ?_
   refine sq_ev rfl (ev_load_i (lr _) ty3 rfl) ?_
   refine sq_ev rfl (ev_add (lr _) (lr _) (wr (by omega) (by omega))) ?_
   refine asr (lr _) rfl ?_
   refine sq_nil (aw_region ?_)
   refine mvr (lr _) rfl ?_
   refine sq_ev rfl (ev_add (lr _) (lr _) (wr (by omega) (by omega))) ?_
   refine asr (lr _) rfl ?_
   refine sq_nil ?_
   exact ⟨⟨i + 1, by omega⟩, by simp only; omega, Sub.slots ⟨lr _, (by exact less_int eE), lr _, lr _, lr _, lr _, trivial⟩⟩
  ·
   have c2' := c2
   try simp only [qq] at c2'
   have eE : endI p l ls k i = endI p l ls k (i + 1) := by rw [endI, hgd, hgl, he, if_neg c2']; omega
   refine aw_skip (aw_region ?_)
   refine mvr (lr _) rfl ?_
   refine sq_ev rfl (ev_add (lr _) (lr _) (wr (by omega) (by omega))) ?_
   refine asr (lr _) rfl ?_
   refine sq_nil ?_
   exact ⟨⟨i + 1, by omega⟩, by simp only; omega, Sub.slots ⟨lr _, (by exact less_int eE), lr _, lr _, lr _, lr _, trivial⟩⟩
 ·
  have c1' := c1
  try simp only [qq] at c1'
  obtain rfl : i = l.length := by omega
  refine aw_exit (aw_seq (aw_region ?_))
  refine mvr (lr _) rfl ?_
  refine asr (lr _) rfl ?_
  refine sq_nil (aw_ret ?_)
  exact retQ_pure (v := .raw _) rfl rfl (Less.eq (by rfl))

end Go.Proofs.YtjghdbdiejaacaaGreatDoor

namespace Go.Proofs.YtjghdbdiejaacaaGreatDoor
open Go Go.Ab Ni


theorem slim_no {l : List Int} (h : ¬ l.length ≤ 12) : APure Tryz.prog 45 [ints l] (B false) := by have := rslim_pure l; simpa [h] using this
theorem slim_yes {l : List Int} (h : l.length ≤ 12) : APure Tryz.prog 45 [ints l] (B true) := by have := rslim_pure l; simpa [h] using this
theorem ints_up (l : List Nat) : ints (up l) = nats l := by simp only [ints, eup]
theorem slim_yesN {l : List Nat} (h : l.length ≤ 12) : APure Tryz.prog 45 [nats l] (B true) := by have := slim_yes (l := up l) (by simpa [up] using h); rwa [ints_up] at this
theorem cho_no {p : Pl} {l : List Int} (hs : p.scenes.length ≤ 12) (hl : l.length ≤ 12) (h : (Ris p l && isCh p l) = false) : APure Tryz.prog 47 [plan p, ints l] (B false) := by have := rchoice_pure p l (by omega) (by omega); rwa [h] at this
theorem cho_yesN {p : Pl} {l : List Nat} (hs : p.scenes.length ≤ 12) (hl : l.length ≤ 12) (h : (Ris p (up l) && isCh p (up l)) = true) : APure Tryz.prog 47 [plan p, nats l] (B true) := by have := rchoice_pure p (up l) (by omega) (by simp [up]; omega); rwa [h, ints_up] at this
theorem fl_yesN {p : Pl} {l : List Nat} (hs : p.scenes.length ≤ 12) (hl : l.length ≤ 12) (h : chosenB p (up l) = true) (hc : canP p l = true) : APure Tryz.prog 46 [plan p, nats l] (.tup [I 0, I 0, I 5]) := by
  have := nFails_pure p (up l) (by omega) (by simp [up]; omega); unfold failsAV at this; rwa [if_pos h, dn_up, if_pos hc, ints_up] at this
theorem fl_notN {p : Pl} {l : List Nat} {r : Nat × Int} (hs : p.scenes.length ≤ 12) (hl : l.length ≤ 12) (h : chosenB p (up l) = true) (hc : ffail p l = some r) : APure Tryz.prog 46 [plan p, nats l] (.tup [I r.1, I r.2, I 0]) := by
  have := nFails_pure p (up l) (by omega) (by simp [up]; omega); unfold failsAV at this
  rw [if_pos h, dn_up, if_neg (by simp [canP, hc]), ints_up] at this
  simpa [fk, ff, hc] using this
end Go.Proofs.YtjghdbdiejaacaaGreatDoor

namespace Go.Proofs.YtjghdbdiejaacaaGreatDoor
open Go Go.Ab Ni
theorem un4 : Tryz.prog.underlying 4 = some .bool := by kernel_rfl

theorem ft_yes {p : Pl} {l : List Nat} {ls : List Int} (hs : p.scenes.length ≤ 12) (hl : l.length ≤ 12) (hc : chosenB p (up l) = true) (h : lastsP p l ls = true) : APure Tryz.prog 59 [plan p, nats l, ints ls] (.tup [B (canP (pFF p l ls) l), I 0]) := by
  have := nFits_pure p (up l) ls (by omega) (by simp [up]; omega); unfold nfitsAV at this; rwa [if_pos ⟨hc, by rw [dn_up]; exact h⟩, ints_up, dn_up] at this
theorem cn_yes {p : Pl} {l : List Nat} (hs : p.scenes.length ≤ 12) (hl : l.length ≤ 12) (hc : chosenB p (up l) = true) : APure Tryz.prog 55 [plan p, nats l] (.tup [B (canP p l), I 0]) := by
  have := nCan_pure p (up l) (by omega) (by simp [up]; omega); unfold canAV at this; rwa [if_pos hc, ints_up, dn_up] at this
end Go.Proofs.YtjghdbdiejaacaaGreatDoor

namespace Go.Proofs.YtjghdbdiejaacaaGreatDoor
open Go Go.Ab Ni
theorem en60 : Ent Tryz.prog 60 := Ent.of Tryz.func60 (by kernel_rfl) rfl

set_option maxHeartbeats 400000 in
/-- kelir/kelirlaw03.within -/
theorem rwithin_pure (n a b : Int) : APure Tryz.prog 60 [I n, .agg [I a, I b]] (B (inn n a b)) := by
  refine apure_of (rs := [.tmp 4]) Tryz.func60 rfl rfl (Nat.le_of_ble_eq_true rfl) (by simp [AV.pureL, AV.pureB, AV.pureE, pureE_map]) (rfl) fun e0 he0 => ?_
  refine aw_seq (aw_region ?_)
  refine sq_box rfl (lr _) rfl ?_
  refine asr (lr _) rfl ?_
  refine sq_nil (aw_seq (aw_region ?_))
  refine mvr (lr _) rfl ?_
  refine sq_ev rfl (ev_fieldAddr fo23_0 (lr _)) ?_
  refine sq_ev rfl (ev_load (lr _) rfl ty3 rfl) ?_
  refine sq_ev rfl (ev_geq (lr _) (lr _)) ?_
  refine mvr (lr _) rfl ?_
  refine sq_split 9 (lr _) (fun g1 => ?_) (fun g1 => ?_)
  · skip
    have g1' := g1
    try simp only [qq] at g1'
    refine sq_yes rfl rfl (less_b g1) rfl (ev_mv (v := .raw _) (lr _)) ?_
    refine sq_yes rfl rfl (less_b g1) rfl (ev_fieldAddr fo23_1 (lr _)) ?_
    refine sq_yes rfl rfl (less_b g1) rfl (ev_load (lr _) rfl ty3 rfl) ?_
    refine sq_yes rfl rfl (less_b g1) rfl (ev_leq (lr _) (lr _)) ?_
    refine sq_ev rfl (ev_pickT (v := .raw _) (less_b g1) (lr _)) ?_
    refine asr (lr _) rfl ?_
    refine sq_nil (aw_ret ?_)
    exact retQ_pure (v := .raw _) rfl rfl (Less.eq (by simp [inn, *]))
  · skip
    have g1' := g1
    try simp only [qq] at g1'
    refine sq_no rfl rfl (less_b g1) rfl rfl ?_
    refine sq_no rfl rfl (less_b g1) rfl rfl ?_
    refine sq_no rfl rfl (less_b g1) rfl rfl ?_
    refine sq_no rfl rfl (less_b g1) rfl rfl ?_
    refine sq_ev rfl (ev_pickF (v := .raw _) (less_b g1) (lr _)) ?_
    refine asr (lr _) rfl ?_
    refine sq_nil (aw_ret ?_)
    exact retQ_pure (v := .raw _) rfl rfl (Less.eq (by simp [inn, *]))

set_option maxHeartbeats 4000000 in
/-- kelir/kelirlaw03.NightProof -/
theorem law14_long (p : Pl) (l ls : List Int) (hs : ¬ p.scenes.length ≤ 12) : APure Tryz.prog 14 [plan p, ints l, ints ls] (B true) := by
 refine apure_of (rs := [.tmp 6]) Tryz.func14 rfl rfl (Nat.le_of_ble_eq_true rfl) (by simp [AV.pureL, AV.pureB, AV.pureE, pureE_map]) (rfl) fun e0 he0 => ?_
 refine aw_seq (aw_region ?_)
 refine sq_box rfl (lr _) rfl ?_
 refine asr (lr _) rfl ?_
 refine sq_nil (aw_seq (aw_seq (aw_region ?_)))
 refine sq_ev rfl (ev_load_agg (lr _) rfl ty27 rfl) ?_
 refine sq_ev rfl (ev_call en20 (lr _) (short_no hs) ⟨lr _, trivial⟩) ?_
 refine sq_ev rfl (ev_not (lr _)) ?_
 refine mvr (lr _) rfl ?_
 refine sq_split 20 (lr _) (fun g1 => ?_) (fun g1 => ?_)
 ·
  have g1' := g1
  try simp only [qq] at g1'
  refine sq_no rfl rfl (less_b g1) rfl rfl ?_
  refine sq_no rfl rfl (less_b g1) rfl rfl ?_
  refine sq_no rfl rfl (less_b g1) rfl rfl ?_
  refine sq_ev rfl (ev_pickT (v := .raw _) (less_b g1) (lr _)) ?_
  refine mvr (lr _) rfl ?_
  refine sq_no rfl rfl (lr _) rfl rfl ?_
  refine sq_no rfl rfl (lr _) rfl rfl ?_
  refine sq_no rfl rfl (lr _) rfl rfl ?_
  refine sq_ev rfl (ev_pickT (v := .raw _) (lr _) (lr _)) ?_
  refine mvr (lr _) rfl ?_
  refine sq_no rfl rfl (lr _) rfl rfl ?_
  refine sq_no rfl rfl (lr _) rfl rfl ?_
  refine sq_no rfl rfl (lr _) rfl rfl ?_
  refine sq_ev rfl (ev_pickT (v := .raw _) (lr _) (lr _)) ?_
  refine mvr (lr _) rfl ?_
  refine sq_no rfl rfl (lr _) rfl rfl ?_
  refine sq_no rfl rfl (lr _) rfl rfl ?_
  refine sq_no rfl rfl (lr _) rfl rfl ?_
  refine sq_no rfl rfl (lr _) rfl rfl ?_
  refine sq_ev rfl (ev_pickT (v := .raw _) (lr _) (lr _)) ?_
  refine mvr (lr _) rfl ?_
  refine sq_no rfl rfl (lr _) rfl rfl ?_
  refine sq_no rfl rfl (lr _) rfl rfl ?_
  refine sq_no rfl rfl (lr _) rfl rfl ?_
  refine sq_no rfl rfl (lr _) rfl rfl ?_
  refine sq_no rfl rfl (lr _) rfl rfl ?_
  refine sq_ev rfl (ev_pickT (v := .raw _) (lr _) (lr _)) ?_
  refine sq_nil ?_
  refine aw_true (lr _) ?_
  refine aw_seq (aw_region ?_)
  refine sq_ev rfl (ev_call en21 (lr _) (known_pure) trivial) ?_
  refine asr (lr _) rfl ?_
  refine sq_nil (aw_ret ?_)
  exact retQ_pure (v := .raw _) rfl rfl (lr _)
 ·
  have g1' := g1
  try simp only [qq] at g1'
  first | exact absurd g1 (by decide) | (exfalso; simp at g1; done) | (exfalso; simp at g1; omega)

set_option maxHeartbeats 4000000 in
/-- kelir/kelirlaw03.NightProof -/
theorem law14_slim (p : Pl) (l ls : List Int) (hs : p.scenes.length ≤ 12) (hl : ¬ l.length ≤ 12) : APure Tryz.prog 14 [plan p, ints l, ints ls] (B true) := by
 refine apure_of (rs := [.tmp 6]) Tryz.func14 rfl rfl (Nat.le_of_ble_eq_true rfl) (by simp [AV.pureL, AV.pureB, AV.pureE, pureE_map]) (rfl) fun e0 he0 => ?_
 refine aw_seq (aw_region ?_)
 refine sq_box rfl (lr _) rfl ?_
 refine asr (lr _) rfl ?_
 refine sq_nil (aw_seq (aw_seq (aw_region ?_)))
 refine sq_ev rfl (ev_load_agg (lr _) rfl ty27 rfl) ?_
 refine sq_ev rfl (ev_call en20 (lr _) (short_yes hs) ⟨lr _, trivial⟩) ?_
 refine sq_ev rfl (ev_not (lr _)) ?_
 refine mvr (lr _) rfl ?_
 refine sq_split 20 (lr _) (fun g1 => ?_) (fun g1 => ?_)
 ·
  have g1' := g1
  try simp only [qq] at g1'
  first | exact absurd g1 (by decide) | (exfalso; simp at g1; done) | (exfalso; simp at g1; omega)
 ·
  have g1' := g1
  try simp only [qq] at g1'
  refine sq_yes rfl rfl (less_b g1) rfl (ev_mv (v := .sl _ _) (lr _)) ?_
  refine sq_yes rfl rfl (less_b g1) rfl (ev_call en45 (lr _) (slim_no hl) ⟨lr _, trivial⟩) ?_
  refine sq_yes rfl rfl (less_b g1) rfl (ev_not (lr _)) ?_
  refine sq_ev rfl (ev_pickF (v := .raw _) (less_b g1) (lr _)) ?_
  refine mvr (lr _) rfl ?_
  refine sq_split 25 (lr _) (fun g2 => ?_) (fun g2 => ?_)
  ·
   have g2' := g2
   try simp only [qq] at g2'
   refine sq_no rfl rfl (less_b g2) rfl rfl ?_
   refine sq_no rfl rfl (less_b g2) rfl rfl ?_
   refine sq_no rfl rfl (less_b g2) rfl rfl ?_
   refine sq_ev rfl (ev_pickT (v := .raw _) (less_b g2) (lr _)) ?_
   refine mvr (lr _) rfl ?_
   refine sq_no rfl rfl (lr _) rfl rfl ?_
   refine sq_no rfl rfl (lr _) rfl rfl ?_
   refine sq_no rfl rfl (lr _) rfl rfl ?_
   refine sq_ev rfl (ev_pickT (v := .raw _) (lr _) (lr _)) ?_
   refine mvr (lr _) rfl ?_
   refine sq_no rfl rfl (lr _) rfl rfl ?_
   refine sq_no rfl rfl (lr _) rfl rfl ?_
   refine sq_no rfl rfl (lr _) rfl rfl ?_
   refine sq_no rfl rfl (lr _) rfl rfl ?_
   refine sq_ev rfl (ev_pickT (v := .raw _) (lr _) (lr _)) ?_
   refine mvr (lr _) rfl ?_
   refine sq_no rfl rfl (lr _) rfl rfl ?_
   refine sq_no rfl rfl (lr _) rfl rfl ?_
   refine sq_no rfl rfl (lr _) rfl rfl ?_
   refine sq_no rfl rfl (lr _) rfl rfl ?_
   refine sq_no rfl rfl (lr _) rfl rfl ?_
   refine sq_ev rfl (ev_pickT (v := .raw _) (lr _) (lr _)) ?_
   refine sq_nil ?_
   refine aw_true (lr _) ?_
   refine aw_seq (aw_region ?_)
   refine sq_ev rfl (ev_call en21 (lr _) (known_pure) trivial) ?_
   refine asr (lr _) rfl ?_
   refine sq_nil (aw_ret ?_)
   exact retQ_pure (v := .raw _) rfl rfl (lr _)
  ·
   have g2' := g2
   try simp only [qq] at g2'
   first | exact absurd g2 (by decide) | (exfalso; simp at g2; done) | (exfalso; simp at g2; omega)

set_option maxHeartbeats 4000000 in
/-- kelir/kelirlaw03.NightProof -/
theorem law14_slims (p : Pl) (l ls : List Int) (hs : p.scenes.length ≤ 12) (hl : l.length ≤ 12) (hls : ¬ ls.length ≤ 12) : APure Tryz.prog 14 [plan p, ints l, ints ls] (B true) := by
 refine apure_of (rs := [.tmp 6]) Tryz.func14 rfl rfl (Nat.le_of_ble_eq_true rfl) (by simp [AV.pureL, AV.pureB, AV.pureE, pureE_map]) (rfl) fun e0 he0 => ?_
 refine aw_seq (aw_region ?_)
 refine sq_box rfl (lr _) rfl ?_
 refine asr (lr _) rfl ?_
 refine sq_nil (aw_seq (aw_seq (aw_region ?_)))
 refine sq_ev rfl (ev_load_agg (lr _) rfl ty27 rfl) ?_
 refine sq_ev rfl (ev_call en20 (lr _) (short_yes hs) ⟨lr _, trivial⟩) ?_
 refine sq_ev rfl (ev_not (lr _)) ?_
 refine mvr (lr _) rfl ?_
 refine sq_split 20 (lr _) (fun g1 => ?_) (fun g1 => ?_)
 ·
  have g1' := g1
  try simp only [qq] at g1'
  first | exact absurd g1 (by decide) | (exfalso; simp at g1; done) | (exfalso; simp at g1; omega)
 ·
  have g1' := g1
  try simp only [qq] at g1'
  refine sq_yes rfl rfl (less_b g1) rfl (ev_mv (v := .sl _ _) (lr _)) ?_
  refine sq_yes rfl rfl (less_b g1) rfl (ev_call en45 (lr _) (slim_yes hl) ⟨lr _, trivial⟩) ?_
  refine sq_yes rfl rfl (less_b g1) rfl (ev_not (lr _)) ?_
  refine sq_ev rfl (ev_pickF (v := .raw _) (less_b g1) (lr _)) ?_
  refine mvr (lr _) rfl ?_
  refine sq_split 25 (lr _) (fun g2 => ?_) (fun g2 => ?_)
  ·
   have g2' := g2
   try simp only [qq] at g2'
   first | exact absurd g2 (by decide) | (exfalso; simp at g2; done) | (exfalso; simp at g2; omega)
  ·
   have g2' := g2
   try simp only [qq] at g2'
   refine sq_yes rfl rfl (less_b g2) rfl (ev_mv (v := .sl _ _) (lr _)) ?_
   refine sq_yes rfl rfl (less_b g2) rfl (ev_call en45 (lr _) (slim_no hls) ⟨lr _, trivial⟩) ?_
   refine sq_yes rfl rfl (less_b g2) rfl (ev_not (lr _)) ?_
   refine sq_ev rfl (ev_pickF (v := .raw _) (less_b g2) (lr _)) ?_
   refine mvr (lr _) rfl ?_
   refine sq_split 30 (lr _) (fun g3 => ?_) (fun g3 => ?_)
   ·
    have g3' := g3
    try simp only [qq] at g3'
    refine sq_no rfl rfl (less_b g3) rfl rfl ?_
    refine sq_no rfl rfl (less_b g3) rfl rfl ?_
    refine sq_no rfl rfl (less_b g3) rfl rfl ?_
    refine sq_ev rfl (ev_pickT (v := .raw _) (less_b g3) (lr _)) ?_
    refine mvr (lr _) rfl ?_
    refine sq_no rfl rfl (lr _) rfl rfl ?_
    refine sq_no rfl rfl (lr _) rfl rfl ?_
    refine sq_no rfl rfl (lr _) rfl rfl ?_
    refine sq_no rfl rfl (lr _) rfl rfl ?_
    refine sq_ev rfl (ev_pickT (v := .raw _) (lr _) (lr _)) ?_
    refine mvr (lr _) rfl ?_
    refine sq_no rfl rfl (lr _) rfl rfl ?_
    refine sq_no rfl rfl (lr _) rfl rfl ?_
    refine sq_no rfl rfl (lr _) rfl rfl ?_
    refine sq_no rfl rfl (lr _) rfl rfl ?_
    refine sq_no rfl rfl (lr _) rfl rfl ?_
    refine sq_ev rfl (ev_pickT (v := .raw _) (lr _) (lr _)) ?_
    refine sq_nil ?_
    refine aw_true (lr _) ?_
    refine aw_seq (aw_region ?_)
    refine sq_ev rfl (ev_call en21 (lr _) (known_pure) trivial) ?_
    refine asr (lr _) rfl ?_
    refine sq_nil (aw_ret ?_)
    exact retQ_pure (v := .raw _) rfl rfl (lr _)
   ·
    have g3' := g3
    try simp only [qq] at g3'
    first | exact absurd g3 (by decide) | (exfalso; simp at g3; done) | (exfalso; simp at g3; omega)

set_option maxHeartbeats 4000000 in
/-- kelir/kelirlaw03.NightProof -/
theorem law14_bad (p : Pl) (l ls : List Int) (hs : p.scenes.length ≤ 12) (hl : l.length ≤ 12) (hls : ls.length ≤ 12) (hk : PlOK p = false) : APure Tryz.prog 14 [plan p, ints l, ints ls] (B true) := by
 refine apure_of (rs := [.tmp 6]) Tryz.func14 rfl rfl (Nat.le_of_ble_eq_true rfl) (by simp [AV.pureL, AV.pureB, AV.pureE, pureE_map]) (rfl) fun e0 he0 => ?_
 refine aw_seq (aw_region ?_)
 refine sq_box rfl (lr _) rfl ?_
 refine asr (lr _) rfl ?_
 refine sq_nil (aw_seq (aw_seq (aw_region ?_)))
 refine sq_ev rfl (ev_load_agg (lr _) rfl ty27 rfl) ?_
 refine sq_ev rfl (ev_call en20 (lr _) (short_yes hs) ⟨lr _, trivial⟩) ?_
 refine sq_ev rfl (ev_not (lr _)) ?_
 refine mvr (lr _) rfl ?_
 refine sq_split 20 (lr _) (fun g1 => ?_) (fun g1 => ?_)
 ·
  have g1' := g1
  try simp only [qq] at g1'
  first | exact absurd g1 (by decide) | (exfalso; simp at g1; done) | (exfalso; simp at g1; omega)
 ·
  have g1' := g1
  try simp only [qq] at g1'
  refine sq_yes rfl rfl (less_b g1) rfl (ev_mv (v := .sl _ _) (lr _)) ?_
  refine sq_yes rfl rfl (less_b g1) rfl (ev_call en45 (lr _) (slim_yes hl) ⟨lr _, trivial⟩) ?_
  refine sq_yes rfl rfl (less_b g1) rfl (ev_not (lr _)) ?_
  refine sq_ev rfl (ev_pickF (v := .raw _) (less_b g1) (lr _)) ?_
  refine mvr (lr _) rfl ?_
  refine sq_split 25 (lr _) (fun g2 => ?_) (fun g2 => ?_)
  ·
   have g2' := g2
   try simp only [qq] at g2'
   first | exact absurd g2 (by decide) | (exfalso; simp at g2; done) | (exfalso; simp at g2; omega)
  ·
   have g2' := g2
   try simp only [qq] at g2'
   refine sq_yes rfl rfl (less_b g2) rfl (ev_mv (v := .sl _ _) (lr _)) ?_
   refine sq_yes rfl rfl (less_b g2) rfl (ev_call en45 (lr _) (slim_yes hls) ⟨lr _, trivial⟩) ?_
   refine sq_yes rfl rfl (less_b g2) rfl (ev_not (lr _)) ?_
   refine sq_ev rfl (ev_pickF (v := .raw _) (less_b g2) (lr _)) ?_
   refine mvr (lr _) rfl ?_
   refine sq_split 30 (lr _) (fun g3 => ?_) (fun g3 => ?_)
   ·
    have g3' := g3
    try simp only [qq] at g3'
    first | exact absurd g3 (by decide) | (exfalso; simp at g3; done) | (exfalso; simp at g3; omega)
   ·
    have g3' := g3
    try simp only [qq] at g3'
    refine sq_yes rfl rfl (less_b g3) rfl (ev_load_agg (lr _) rfl ty27 rfl) ?_
    refine sq_yes rfl rfl (less_b g3) rfl (ev_call en24 (lr _) (plan_no hs hk) ⟨lr _, trivial⟩) ?_
    refine sq_yes rfl rfl (less_b g3) rfl (ev_not (lr _)) ?_
    refine sq_ev rfl (ev_pickF (v := .raw _) (less_b g3) (lr _)) ?_
    refine mvr (lr _) rfl ?_
    refine sq_split 35 (lr _) (fun g4 => ?_) (fun g4 => ?_)
    ·
     have g4' := g4
     try simp only [qq] at g4'
     refine sq_no rfl rfl (less_b g4) rfl rfl ?_
     refine sq_no rfl rfl (less_b g4) rfl rfl ?_
     refine sq_no rfl rfl (less_b g4) rfl rfl ?_
     refine sq_no rfl rfl (less_b g4) rfl rfl ?_
     refine sq_ev rfl (ev_pickT (v := .raw _) (less_b g4) (lr _)) ?_
     refine mvr (lr _) rfl ?_
     refine sq_no rfl rfl (lr _) rfl rfl ?_
     refine sq_no rfl rfl (lr _) rfl rfl ?_
     refine sq_no rfl rfl (lr _) rfl rfl ?_
     refine sq_no rfl rfl (lr _) rfl rfl ?_
     refine sq_no rfl rfl (lr _) rfl rfl ?_
     refine sq_ev rfl (ev_pickT (v := .raw _) (lr _) (lr _)) ?_
     refine sq_nil ?_
     refine aw_true (lr _) ?_
     refine aw_seq (aw_region ?_)
     refine sq_ev rfl (ev_call en21 (lr _) (known_pure) trivial) ?_
     refine asr (lr _) rfl ?_
     refine sq_nil (aw_ret ?_)
     exact retQ_pure (v := .raw _) rfl rfl (lr _)
    ·
     have g4' := g4
     try simp only [qq] at g4'
     first | exact absurd g4 (by decide) | (exfalso; simp at g4; done) | (exfalso; simp at g4; omega)

set_option maxHeartbeats 4000000 in
/-- kelir/kelirlaw03.NightProof -/
theorem law14_cho (p : Pl) (l ls : List Int) (hs : p.scenes.length ≤ 12) (hl : l.length ≤ 12) (hls : ls.length ≤ 12) (hk : PlOK p = true) (hc : (Ris p l && isCh p l) = false) : APure Tryz.prog 14 [plan p, ints l, ints ls] (B true) := by
 refine apure_of (rs := [.tmp 6]) Tryz.func14 rfl rfl (Nat.le_of_ble_eq_true rfl) (by simp [AV.pureL, AV.pureB, AV.pureE, pureE_map]) (rfl) fun e0 he0 => ?_
 refine aw_seq (aw_region ?_)
 refine sq_box rfl (lr _) rfl ?_
 refine asr (lr _) rfl ?_
 refine sq_nil (aw_seq (aw_seq (aw_region ?_)))
 refine sq_ev rfl (ev_load_agg (lr _) rfl ty27 rfl) ?_
 refine sq_ev rfl (ev_call en20 (lr _) (short_yes hs) ⟨lr _, trivial⟩) ?_
 refine sq_ev rfl (ev_not (lr _)) ?_
 refine mvr (lr _) rfl ?_
 refine sq_split 20 (lr _) (fun g1 => ?_) (fun g1 => ?_)
 ·
  have g1' := g1
  try simp only [qq] at g1'
  first | exact absurd g1 (by decide) | (exfalso; simp at g1; done) | (exfalso; simp at g1; omega)
 ·
  have g1' := g1
  try simp only [qq] at g1'
  refine sq_yes rfl rfl (less_b g1) rfl (ev_mv (v := .sl _ _) (lr _)) ?_
  refine sq_yes rfl rfl (less_b g1) rfl (ev_call en45 (lr _) (slim_yes hl) ⟨lr _, trivial⟩) ?_
  refine sq_yes rfl rfl (less_b g1) rfl (ev_not (lr _)) ?_
  refine sq_ev rfl (ev_pickF (v := .raw _) (less_b g1) (lr _)) ?_
  refine mvr (lr _) rfl ?_
  refine sq_split 25 (lr _) (fun g2 => ?_) (fun g2 => ?_)
  ·
   have g2' := g2
   try simp only [qq] at g2'
   first | exact absurd g2 (by decide) | (exfalso; simp at g2; done) | (exfalso; simp at g2; omega)
  ·
   have g2' := g2
   try simp only [qq] at g2'
   refine sq_yes rfl rfl (less_b g2) rfl (ev_mv (v := .sl _ _) (lr _)) ?_
   refine sq_yes rfl rfl (less_b g2) rfl (ev_call en45 (lr _) (slim_yes hls) ⟨lr _, trivial⟩) ?_
   refine sq_yes rfl rfl (less_b g2) rfl (ev_not (lr _)) ?_
   refine sq_ev rfl (ev_pickF (v := .raw _) (less_b g2) (lr _)) ?_
   refine mvr (lr _) rfl ?_
   refine sq_split 30 (lr _) (fun g3 => ?_) (fun g3 => ?_)
   ·
    have g3' := g3
    try simp only [qq] at g3'
    first | exact absurd g3 (by decide) | (exfalso; simp at g3; done) | (exfalso; simp at g3; omega)
   ·
    have g3' := g3
    try simp only [qq] at g3'
    refine sq_yes rfl rfl (less_b g3) rfl (ev_load_agg (lr _) rfl ty27 rfl) ?_
    refine sq_yes rfl rfl (less_b g3) rfl (ev_call en24 (lr _) (plan_yes hs hk) ⟨lr _, trivial⟩) ?_
    refine sq_yes rfl rfl (less_b g3) rfl (ev_not (lr _)) ?_
    refine sq_ev rfl (ev_pickF (v := .raw _) (less_b g3) (lr _)) ?_
    refine mvr (lr _) rfl ?_
    refine sq_split 35 (lr _) (fun g4 => ?_) (fun g4 => ?_)
    ·
     have g4' := g4
     try simp only [qq] at g4'
     first | exact absurd g4 (by decide) | (exfalso; simp at g4; done) | (exfalso; simp at g4; omega)
    ·
     have g4' := g4
     try simp only [qq] at g4'
     refine sq_yes rfl rfl (less_b g4) rfl (ev_load_agg (lr _) rfl ty27 rfl) ?_
     refine sq_yes rfl rfl (less_b g4) rfl (ev_mv (v := .sl _ _) (lr _)) ?_
     refine sq_yes rfl rfl (less_b g4) rfl (ev_call en47 (lr _) (cho_no hs hl hc) ⟨lr _, lr _, trivial⟩) ?_
     refine sq_yes rfl rfl (less_b g4) rfl (ev_not (lr _)) ?_
     refine sq_ev rfl (ev_pickF (v := .raw _) (less_b g4) (lr _)) ?_
     refine mvr (lr _) rfl ?_
     refine sq_split 41 (lr _) (fun g5 => ?_) (fun g5 => ?_)
     ·
      have g5' := g5
      try simp only [qq] at g5'
      refine sq_no rfl rfl (less_b g5) rfl rfl ?_
      refine sq_no rfl rfl (less_b g5) rfl rfl ?_
      refine sq_no rfl rfl (less_b g5) rfl rfl ?_
      refine sq_no rfl rfl (less_b g5) rfl rfl ?_
      refine sq_no rfl rfl (less_b g5) rfl rfl ?_
      refine sq_ev rfl (ev_pickT (v := .raw _) (less_b g5) (lr _)) ?_
      refine sq_nil ?_
      refine aw_true (lr _) ?_
      refine aw_seq (aw_region ?_)
      refine sq_ev rfl (ev_call en21 (lr _) (known_pure) trivial) ?_
      refine asr (lr _) rfl ?_
      refine sq_nil (aw_ret ?_)
      exact retQ_pure (v := .raw _) rfl rfl (lr _)
     ·
      have g5' := g5
      try simp only [qq] at g5'
      first | exact absurd g5 (by decide) | (exfalso; simp at g5; done) | (exfalso; simp at g5; omega)

set_option maxHeartbeats 4000000 in
/-- kelir/kelirlaw03.NightProof -/
theorem law14_last (p : Pl) (l : List Nat) (ls : List Int) (hs : p.scenes.length ≤ 12) (hl : l.length ≤ 12) (hls : ls.length ≤ 12) (hk : PlOK p = true) (hc : (Ris p (up l) && isCh p (up l)) = true) (gp : GP p) (wp : WP p) (cv : CV p l) (hL : lastsP p l ls = false) : APure Tryz.prog 14 [plan p, nats l, ints ls] (B true) := by
 refine apure_of (rs := [.tmp 6]) Tryz.func14 rfl rfl (Nat.le_of_ble_eq_true rfl) (by simp [AV.pureL, AV.pureB, AV.pureE, pureE_map]) (rfl) fun e0 he0 => ?_
 have hla := rlasts_pure p l ls cv (by omega)
 rw [hL] at hla
 refine aw_seq (aw_region ?_)
 refine sq_box rfl (lr _) rfl ?_
 refine asr (lr _) rfl ?_
 refine sq_nil (aw_seq (aw_seq (aw_region ?_)))
 refine sq_ev rfl (ev_load_agg (lr _) rfl ty27 rfl) ?_
 refine sq_ev rfl (ev_call en20 (lr _) (short_yes hs) ⟨lr _, trivial⟩) ?_
 refine sq_ev rfl (ev_not (lr _)) ?_
 refine mvr (lr _) rfl ?_
 refine sq_split 20 (lr _) (fun g1 => ?_) (fun g1 => ?_)
 ·
  have g1' := g1
  try simp only [qq] at g1'
  first | exact absurd g1 (by decide) | (exfalso; simp at g1; done) | (exfalso; simp at g1; omega)
 ·
  have g1' := g1
  try simp only [qq] at g1'
  refine sq_yes rfl rfl (less_b g1) rfl (ev_mv (v := .sl _ _) (lr _)) ?_
  refine sq_yes rfl rfl (less_b g1) rfl (ev_call en45 (lr _) (slim_yesN hl) ⟨lr _, trivial⟩) ?_
  refine sq_yes rfl rfl (less_b g1) rfl (ev_not (lr _)) ?_
  refine sq_ev rfl (ev_pickF (v := .raw _) (less_b g1) (lr _)) ?_
  refine mvr (lr _) rfl ?_
  refine sq_split 25 (lr _) (fun g2 => ?_) (fun g2 => ?_)
  ·
   have g2' := g2
   try simp only [qq] at g2'
   first | exact absurd g2 (by decide) | (exfalso; simp at g2; done) | (exfalso; simp at g2; omega)
  ·
   have g2' := g2
   try simp only [qq] at g2'
   refine sq_yes rfl rfl (less_b g2) rfl (ev_mv (v := .sl _ _) (lr _)) ?_
   refine sq_yes rfl rfl (less_b g2) rfl (ev_call en45 (lr _) (slim_yes hls) ⟨lr _, trivial⟩) ?_
   refine sq_yes rfl rfl (less_b g2) rfl (ev_not (lr _)) ?_
   refine sq_ev rfl (ev_pickF (v := .raw _) (less_b g2) (lr _)) ?_
   refine mvr (lr _) rfl ?_
   refine sq_split 30 (lr _) (fun g3 => ?_) (fun g3 => ?_)
   ·
    have g3' := g3
    try simp only [qq] at g3'
    first | exact absurd g3 (by decide) | (exfalso; simp at g3; done) | (exfalso; simp at g3; omega)
   ·
    have g3' := g3
    try simp only [qq] at g3'
    refine sq_yes rfl rfl (less_b g3) rfl (ev_load_agg (lr _) rfl ty27 rfl) ?_
    refine sq_yes rfl rfl (less_b g3) rfl (ev_call en24 (lr _) (plan_yes hs hk) ⟨lr _, trivial⟩) ?_
    refine sq_yes rfl rfl (less_b g3) rfl (ev_not (lr _)) ?_
    refine sq_ev rfl (ev_pickF (v := .raw _) (less_b g3) (lr _)) ?_
    refine mvr (lr _) rfl ?_
    refine sq_split 35 (lr _) (fun g4 => ?_) (fun g4 => ?_)
    ·
     have g4' := g4
     try simp only [qq] at g4'
     first | exact absurd g4 (by decide) | (exfalso; simp at g4; done) | (exfalso; simp at g4; omega)
    ·
     have g4' := g4
     try simp only [qq] at g4'
     refine sq_yes rfl rfl (less_b g4) rfl (ev_load_agg (lr _) rfl ty27 rfl) ?_
     refine sq_yes rfl rfl (less_b g4) rfl (ev_mv (v := .sl _ _) (lr _)) ?_
     refine sq_yes rfl rfl (less_b g4) rfl (ev_call en47 (lr _) (cho_yesN hs hl hc) ⟨lr _, lr _, trivial⟩) ?_
     refine sq_yes rfl rfl (less_b g4) rfl (ev_not (lr _)) ?_
     refine sq_ev rfl (ev_pickF (v := .raw _) (less_b g4) (lr _)) ?_
     refine mvr (lr _) rfl ?_
     refine sq_split 41 (lr _) (fun g5 => ?_) (fun g5 => ?_)
     ·
      have g5' := g5
      try simp only [qq] at g5'
      first | exact absurd g5 (by decide) | (exfalso; simp at g5; done) | (exfalso; simp at g5; omega)
     ·
      have g5' := g5
      try simp only [qq] at g5'
      refine sq_yes rfl rfl (less_b g5) rfl (ev_load_agg (lr _) rfl ty27 rfl) ?_
      refine sq_yes rfl rfl (less_b g5) rfl (ev_mv (v := .sl _ _) (lr _)) ?_
      refine sq_yes rfl rfl (less_b g5) rfl (ev_mv (v := .sl _ _) (lr _)) ?_
      refine sq_yes rfl rfl (less_b g5) rfl (ev_call en58 (lr _) (hla) ⟨lr _, lr _, lr _, trivial⟩) ?_
      refine sq_yes rfl rfl (less_b g5) rfl (ev_not (lr _)) ?_
      refine sq_ev rfl (ev_pickF (v := .raw _) (less_b g5) (lr _)) ?_
      refine sq_nil ?_
      refine aw_cond (lr _) (fun c6 => ?_) (fun c6 => ?_)
      ·
       have c6' := c6
       try simp only [qq] at c6'
       refine aw_seq (aw_region ?_)
       refine sq_ev rfl (ev_call en21 (lr _) (known_pure) trivial) ?_
       refine asr (lr _) rfl ?_
       refine sq_nil (aw_ret ?_)
       exact retQ_pure (v := .raw _) rfl rfl (lr _)
      ·
       have c6' := c6
       try simp only [qq] at c6'
       first | exact absurd c6 (by decide) | (exfalso; simp at c6; done) | (exfalso; simp at c6; omega)

set_option maxHeartbeats 4000000 in
/-- kelir/kelirlaw03.NightProof -/
theorem law14_canT (p : Pl) (l : List Nat) (ls : List Int) (hs : p.scenes.length ≤ 12) (hl : l.length ≤ 12) (hls : ls.length ≤ 12) (hk : PlOK p = true) (hc : (Ris p (up l) && isCh p (up l)) = true) (gp : GP p) (wp : WP p) (cv : CV p l) (hL : lastsP p l ls = true) (hcan : canP p l = true) (hfi : canP (pFF p l ls) l = true) : APure Tryz.prog 14 [plan p, nats l, ints ls] (B true) := by
 refine apure_of (rs := [.tmp 6]) Tryz.func14 rfl rfl (Nat.le_of_ble_eq_true rfl) (by simp [AV.pureL, AV.pureB, AV.pureE, pureE_map]) (rfl) fun e0 he0 => ?_
 have hla := rlasts_pure p l ls cv (by omega)
 rw [hL] at hla
 have hch : chosenB p (up l) = true := by rw [chosenB, Bool.and_assoc, hc, hk]; rfl
 have inc := ris_inc (Bool.and_eq_true_iff.1 hc).1
 have hpp := parts_ok hk cv
 have hlen := (lasts_at hL).1
 have hlb := lasts_bds gp cv hL
 have h55 := cn_yes hs hl hch
 rw [hcan] at h55
 have h59 := ft_yes hs hl hch hL
 rw [hfi] at h59
 refine aw_seq (aw_region ?_)
 refine sq_box rfl (lr _) rfl ?_
 refine asr (lr _) rfl ?_
 refine sq_nil (aw_seq (aw_seq (aw_region ?_)))
 refine sq_ev rfl (ev_load_agg (lr _) rfl ty27 rfl) ?_
 refine sq_ev rfl (ev_call en20 (lr _) (short_yes hs) ⟨lr _, trivial⟩) ?_
 refine sq_ev rfl (ev_not (lr _)) ?_
 refine mvr (lr _) rfl ?_
 refine sq_split 20 (lr _) (fun g1 => ?_) (fun g1 => ?_)
 ·
  have g1' := g1
  try simp only [qq] at g1'
  first | exact absurd g1 (by decide) | (exfalso; simp at g1; done) | (exfalso; simp at g1; omega)
 ·
  have g1' := g1
  try simp only [qq] at g1'
  refine sq_yes rfl rfl (less_b g1) rfl (ev_mv (v := .sl _ _) (lr _)) ?_
  refine sq_yes rfl rfl (less_b g1) rfl (ev_call en45 (lr _) (slim_yesN hl) ⟨lr _, trivial⟩) ?_
  refine sq_yes rfl rfl (less_b g1) rfl (ev_not (lr _)) ?_
  refine sq_ev rfl (ev_pickF (v := .raw _) (less_b g1) (lr _)) ?_
  refine mvr (lr _) rfl ?_
  refine sq_split 25 (lr _) (fun g2 => ?_) (fun g2 => ?_)
  ·
   have g2' := g2
   try simp only [qq] at g2'
   first | exact absurd g2 (by decide) | (exfalso; simp at g2; done) | (exfalso; simp at g2; omega)
  ·
   have g2' := g2
   try simp only [qq] at g2'
   refine sq_yes rfl rfl (less_b g2) rfl (ev_mv (v := .sl _ _) (lr _)) ?_
   refine sq_yes rfl rfl (less_b g2) rfl (ev_call en45 (lr _) (slim_yes hls) ⟨lr _, trivial⟩) ?_
   refine sq_yes rfl rfl (less_b g2) rfl (ev_not (lr _)) ?_
   refine sq_ev rfl (ev_pickF (v := .raw _) (less_b g2) (lr _)) ?_
   refine mvr (lr _) rfl ?_
   refine sq_split 30 (lr _) (fun g3 => ?_) (fun g3 => ?_)
   ·
    have g3' := g3
    try simp only [qq] at g3'
    first | exact absurd g3 (by decide) | (exfalso; simp at g3; done) | (exfalso; simp at g3; omega)
   ·
    have g3' := g3
    try simp only [qq] at g3'
    refine sq_yes rfl rfl (less_b g3) rfl (ev_load_agg (lr _) rfl ty27 rfl) ?_
    refine sq_yes rfl rfl (less_b g3) rfl (ev_call en24 (lr _) (plan_yes hs hk) ⟨lr _, trivial⟩) ?_
    refine sq_yes rfl rfl (less_b g3) rfl (ev_not (lr _)) ?_
    refine sq_ev rfl (ev_pickF (v := .raw _) (less_b g3) (lr _)) ?_
    refine mvr (lr _) rfl ?_
    refine sq_split 35 (lr _) (fun g4 => ?_) (fun g4 => ?_)
    ·
     have g4' := g4
     try simp only [qq] at g4'
     first | exact absurd g4 (by decide) | (exfalso; simp at g4; done) | (exfalso; simp at g4; omega)
    ·
     have g4' := g4
     try simp only [qq] at g4'
     refine sq_yes rfl rfl (less_b g4) rfl (ev_load_agg (lr _) rfl ty27 rfl) ?_
     refine sq_yes rfl rfl (less_b g4) rfl (ev_mv (v := .sl _ _) (lr _)) ?_
     refine sq_yes rfl rfl (less_b g4) rfl (ev_call en47 (lr _) (cho_yesN hs hl hc) ⟨lr _, lr _, trivial⟩) ?_
     refine sq_yes rfl rfl (less_b g4) rfl (ev_not (lr _)) ?_
     refine sq_ev rfl (ev_pickF (v := .raw _) (less_b g4) (lr _)) ?_
     refine mvr (lr _) rfl ?_
     refine sq_split 41 (lr _) (fun g5 => ?_) (fun g5 => ?_)
     ·
      have g5' := g5
      try simp only [qq] at g5'
      first | exact absurd g5 (by decide) | (exfalso; simp at g5; done) | (exfalso; simp at g5; omega)
     ·
      have g5' := g5
      try simp only [qq] at g5'
      refine sq_yes rfl rfl (less_b g5) rfl (ev_load_agg (lr _) rfl ty27 rfl) ?_
      refine sq_yes rfl rfl (less_b g5) rfl (ev_mv (v := .sl _ _) (lr _)) ?_
      refine sq_yes rfl rfl (less_b g5) rfl (ev_mv (v := .sl _ _) (lr _)) ?_
      refine sq_yes rfl rfl (less_b g5) rfl (ev_call en58 (lr _) (hla) ⟨lr _, lr _, lr _, trivial⟩) ?_
      refine sq_yes rfl rfl (less_b g5) rfl (ev_not (lr _)) ?_
      refine sq_ev rfl (ev_pickF (v := .raw _) (less_b g5) (lr _)) ?_
      refine sq_nil ?_
      refine aw_cond (lr _) (fun c6 => ?_) (fun c6 => ?_)
      ·
       have c6' := c6
       try simp only [qq] at c6'
       first | exact absurd c6 (by decide) | (exfalso; simp at c6; done) | (exfalso; simp at c6; omega)
      ·
       have c6' := c6
       try simp only [qq] at c6'
       refine aw_skip (aw_seq (aw_region ?_))
       refine sq_ev rfl (ev_load_agg (lr _) rfl ty27 rfl) ?_
       refine sq_ev rfl (ev_mv (v := .sl _ _) (lr _)) ?_
       refine sq_ev rfl (ev_call en46 (lr _) (fl_yesN hs hl hch hcan) ⟨lr _, lr _, trivial⟩) ?_
       refine sq_ev rfl (ev_mv (v := .tup _) (lr _)) ?_
       refine sq_ev rfl (ev_extract (lr _) rfl) ?_
       refine sq_ev rfl (ev_extract (lr _) rfl) ?_
       refine sq_ev rfl (ev_extract (lr _) rfl) ?_
       refine asr (lr _) rfl ?_
       refine asr (lr _) rfl ?_
       refine asr (lr _) rfl ?_
       refine sq_nil (aw_seq (aw_region ?_))
       refine sq_ev rfl (ev_load_agg (lr _) rfl ty27 rfl) ?_
       refine sq_ev rfl (ev_mv (v := .sl _ _) (lr _)) ?_
       refine sq_ev rfl (ev_call en55 (lr _) (h55) ⟨lr _, lr _, trivial⟩) ?_
       refine sq_ev rfl (ev_mv (v := .tup _) (lr _)) ?_
       refine sq_ev rfl (ev_extract (lr _) rfl) ?_
       refine sq_ev rfl (ev_extract (lr _) rfl) ?_
       refine asr (lr _) rfl ?_
       refine asr (lr _) rfl ?_
       refine sq_nil (aw_seq (aw_region ?_))
       refine sq_ev rfl (ev_load_agg (lr _) rfl ty27 rfl) ?_
       refine sq_ev rfl (ev_mv (v := .sl _ _) (lr _)) ?_
       refine sq_ev rfl (ev_mv (v := .sl _ _) (lr _)) ?_
       refine sq_ev rfl (ev_call en59 (lr _) (h59) ⟨lr _, lr _, lr _, trivial⟩) ?_
       refine sq_ev rfl (ev_mv (v := .tup _) (lr _)) ?_
       refine sq_ev rfl (ev_extract (lr _) rfl) ?_
       refine sq_ev rfl (ev_extract (lr _) rfl) ?_
       refine asr (lr _) rfl ?_
       refine asr (lr _) rfl ?_
       refine sq_nil (aw_seq (aw_seq (aw_region ?_)))
       refine mvr (lr _) rfl ?_
       refine sq_ev rfl (ev_neq (lr _) (lr _)) ?_
       refine mvr (lr _) rfl ?_
       refine sq_split 71 (lr _) (fun g7 => ?_) (fun g7 => ?_)
       ·
        have g7' := g7
        try simp only [qq] at g7'
        refine sq_yes rfl rfl (less_b g7) rfl (ev_mv (v := .raw _) (lr _)) ?_
        refine sq_yes rfl rfl (less_b g7) rfl (ev_neq (lr _) (lr _)) ?_
        refine sq_ev rfl (ev_pickT (v := .raw _) (less_b g7) (lr _)) ?_
        refine mvr (lr _) rfl ?_
        refine sq_split 75 (lr _) (fun g8 => ?_) (fun g8 => ?_)
        ·
         have g8' := g8
         try simp only [qq] at g8'
         first | exact absurd g8 (by decide) | (exfalso; simp at g8; done) | (exfalso; simp at g8; omega)
        ·
         have g8' := g8
         try simp only [qq] at g8'
         refine sq_yes rfl rfl (less_b g8) rfl (ev_mv (v := .raw _) (lr _)) ?_
         refine sq_yes rfl rfl (less_b g8) rfl (ev_neq (lr _) (lr _)) ?_
         refine sq_ev rfl (ev_pickF (v := .raw _) (less_b g8) (lr _)) ?_
         refine mvr (lr _) rfl ?_
         refine sq_split 79 (lr _) (fun g9 => ?_) (fun g9 => ?_)
         ·
          have g9' := g9
          try simp only [qq] at g9'
          first | exact absurd g9 (by decide) | (exfalso; simp at g9; done) | (exfalso; simp at g9; omega)
         ·
          have g9' := g9
          try simp only [qq] at g9'
          refine sq_yes rfl rfl (less_b g9) rfl (ev_mv (v := .raw _) (lr _)) ?_
          refine sq_yes rfl rfl (less_b g9) rfl (ev_neq (lr _) (lr _)) ?_
          refine sq_ev rfl (ev_pickF (v := .raw _) (less_b g9) (lr _)) ?_
          refine mvr (lr _) rfl ?_
          refine sq_split 83 (lr _) (fun g10 => ?_) (fun g10 => ?_)
          ·
           have g10' := g10
           try simp only [qq] at g10'
           first | exact absurd g10 (by decide) | (exfalso; simp at g10; done) | (exfalso; simp at g10; omega)
          ·
           have g10' := g10
           try simp only [qq] at g10'
           refine sq_yes rfl rfl (less_b g10) rfl (ev_mv (v := .raw _) (lr _)) ?_
           refine sq_yes rfl rfl (less_b g10) rfl (ev_mv (v := .raw _) (lr _)) ?_
           refine sq_yes rfl rfl (less_b g10) rfl (ev_eql (lr _) (lr _)) ?_
           refine sq_yes rfl rfl (less_b g10) rfl (ev_neqB un4 (lr _) (lr _)) ?_
           refine sq_ev rfl (ev_pickF (v := .raw _) (less_b g10) (lr _)) ?_
           refine mvr (lr _) rfl ?_
           refine sq_split 89 (lr _) (fun g11 => ?_) (fun g11 => ?_)
           ·
            have g11' := g11
            try simp only [qq] at g11'
            first | exact absurd g11 (by decide) | (exfalso; simp at g11; done) | (exfalso; simp at g11; omega)
           ·
            have g11' := g11
            try simp only [qq] at g11'
            refine sq_yes rfl rfl (less_b g11) rfl (ev_mv (v := .raw _) (lr _)) ?_
            refine sq_yes rfl rfl (less_b g11) rfl (ev_mv (v := .raw _) (lr _)) ?_
            refine sq_split 91 (lr _) (fun g12 => ?_) (fun g12 => ?_)
            ·
             have g12' := g12
             try simp only [qq] at g12'
             refine sq_yes rfl rfl (less_b g12) rfl (ev_mv (v := .raw _) (lr _)) ?_
             refine sq_yes rfl rfl (less_b g12) rfl (ev_not (lr _)) ?_
             refine sq_yes rfl rfl (less_b g11) rfl (ev_pickT (v := .raw _) (less_b g12) (lr _)) ?_
             refine sq_ev rfl (ev_pickF (v := .raw _) (less_b g11) (lr _)) ?_
             refine sq_nil ?_
             refine aw_cond (lr _) (fun c13 => ?_) (fun c13 => ?_)
             ·
              have c13' := c13
              try simp only [qq] at c13'
              first | exact absurd c13 (by decide) | (exfalso; simp at c13; done) | (exfalso; simp at c13; omega)
             ·
              have c13' := c13
              try simp only [qq] at c13'
              refine aw_skip (aw_seq (aw_seq (aw_region ?_)))
              refine mvr (lr _) rfl ?_
              refine sq_nil ?_
              refine aw_cond (lr _) (fun c14 => ?_) (fun c14 => ?_)
              ·
               have c14' := c14
               try simp only [qq] at c14'
               refine aw_seq (aw_region ?_)
               refine sq_ev rfl (ev_call en21 (lr _) (known_pure) trivial) ?_
               refine asr (lr _) rfl ?_
               refine sq_nil (aw_ret ?_)
               exact retQ_pure (v := .raw _) rfl rfl (lr _)
              ·
               have c14' := c14
               try simp only [qq] at c14'
               first | exact absurd c14 (by decide) | (exfalso; simp at c14; done) | (exfalso; simp at c14; omega)
            ·
             have g12' := g12
             try simp only [qq] at g12'
             first | exact absurd g12 (by decide) | (exfalso; simp at g12; done) | (exfalso; simp at g12; omega)
       ·
        have g7' := g7
        try simp only [qq] at g7'
        first | exact absurd g7 (by decide) | (exfalso; simp at g7; done) | (exfalso; simp at g7; omega)

set_option maxHeartbeats 4000000 in
/-- kelir/kelirlaw03.NightProof -/
theorem law14_canF (p : Pl) (l : List Nat) (ls : List Int) (hs : p.scenes.length ≤ 12) (hl : l.length ≤ 12) (hls : ls.length ≤ 12) (hk : PlOK p = true) (hc : (Ris p (up l) && isCh p (up l)) = true) (gp : GP p) (wp : WP p) (cv : CV p l) (hL : lastsP p l ls = true) (hcan : canP p l = true) (hfi : canP (pFF p l ls) l = false) : APure Tryz.prog 14 [plan p, nats l, ints ls] (B true) := by
 refine apure_of (rs := [.tmp 6]) Tryz.func14 rfl rfl (Nat.le_of_ble_eq_true rfl) (by simp [AV.pureL, AV.pureB, AV.pureE, pureE_map]) (rfl) fun e0 he0 => ?_
 have hla := rlasts_pure p l ls cv (by omega)
 rw [hL] at hla
 have hch : chosenB p (up l) = true := by rw [chosenB, Bool.and_assoc, hc, hk]; rfl
 have inc := ris_inc (Bool.and_eq_true_iff.1 hc).1
 have hpp := parts_ok hk cv
 have hlen := (lasts_at hL).1
 have hlb := lasts_bds gp cv hL
 have h55 := cn_yes hs hl hch
 rw [hcan] at h55
 have h59 := ft_yes hs hl hch hL
 rw [hfi] at h59
 refine aw_seq (aw_region ?_)
 refine sq_box rfl (lr _) rfl ?_
 refine asr (lr _) rfl ?_
 refine sq_nil (aw_seq (aw_seq (aw_region ?_)))
 refine sq_ev rfl (ev_load_agg (lr _) rfl ty27 rfl) ?_
 refine sq_ev rfl (ev_call en20 (lr _) (short_yes hs) ⟨lr _, trivial⟩) ?_
 refine sq_ev rfl (ev_not (lr _)) ?_
 refine mvr (lr _) rfl ?_
 refine sq_split 20 (lr _) (fun g1 => ?_) (fun g1 => ?_)
 ·
  have g1' := g1
  try simp only [qq] at g1'
  first | exact absurd g1 (by decide) | (exfalso; simp at g1; done) | (exfalso; simp at g1; omega)
 ·
  have g1' := g1
  try simp only [qq] at g1'
  refine sq_yes rfl rfl (less_b g1) rfl (ev_mv (v := .sl _ _) (lr _)) ?_
  refine sq_yes rfl rfl (less_b g1) rfl (ev_call en45 (lr _) (slim_yesN hl) ⟨lr _, trivial⟩) ?_
  refine sq_yes rfl rfl (less_b g1) rfl (ev_not (lr _)) ?_
  refine sq_ev rfl (ev_pickF (v := .raw _) (less_b g1) (lr _)) ?_
  refine mvr (lr _) rfl ?_
  refine sq_split 25 (lr _) (fun g2 => ?_) (fun g2 => ?_)
  ·
   have g2' := g2
   try simp only [qq] at g2'
   first | exact absurd g2 (by decide) | (exfalso; simp at g2; done) | (exfalso; simp at g2; omega)
  ·
   have g2' := g2
   try simp only [qq] at g2'
   refine sq_yes rfl rfl (less_b g2) rfl (ev_mv (v := .sl _ _) (lr _)) ?_
   refine sq_yes rfl rfl (less_b g2) rfl (ev_call en45 (lr _) (slim_yes hls) ⟨lr _, trivial⟩) ?_
   refine sq_yes rfl rfl (less_b g2) rfl (ev_not (lr _)) ?_
   refine sq_ev rfl (ev_pickF (v := .raw _) (less_b g2) (lr _)) ?_
   refine mvr (lr _) rfl ?_
   refine sq_split 30 (lr _) (fun g3 => ?_) (fun g3 => ?_)
   ·
    have g3' := g3
    try simp only [qq] at g3'
    first | exact absurd g3 (by decide) | (exfalso; simp at g3; done) | (exfalso; simp at g3; omega)
   ·
    have g3' := g3
    try simp only [qq] at g3'
    refine sq_yes rfl rfl (less_b g3) rfl (ev_load_agg (lr _) rfl ty27 rfl) ?_
    refine sq_yes rfl rfl (less_b g3) rfl (ev_call en24 (lr _) (plan_yes hs hk) ⟨lr _, trivial⟩) ?_
    refine sq_yes rfl rfl (less_b g3) rfl (ev_not (lr _)) ?_
    refine sq_ev rfl (ev_pickF (v := .raw _) (less_b g3) (lr _)) ?_
    refine mvr (lr _) rfl ?_
    refine sq_split 35 (lr _) (fun g4 => ?_) (fun g4 => ?_)
    ·
     have g4' := g4
     try simp only [qq] at g4'
     first | exact absurd g4 (by decide) | (exfalso; simp at g4; done) | (exfalso; simp at g4; omega)
    ·
     have g4' := g4
     try simp only [qq] at g4'
     refine sq_yes rfl rfl (less_b g4) rfl (ev_load_agg (lr _) rfl ty27 rfl) ?_
     refine sq_yes rfl rfl (less_b g4) rfl (ev_mv (v := .sl _ _) (lr _)) ?_
     refine sq_yes rfl rfl (less_b g4) rfl (ev_call en47 (lr _) (cho_yesN hs hl hc) ⟨lr _, lr _, trivial⟩) ?_
     refine sq_yes rfl rfl (less_b g4) rfl (ev_not (lr _)) ?_
     refine sq_ev rfl (ev_pickF (v := .raw _) (less_b g4) (lr _)) ?_
     refine mvr (lr _) rfl ?_
     refine sq_split 41 (lr _) (fun g5 => ?_) (fun g5 => ?_)
     ·
      have g5' := g5
      try simp only [qq] at g5'
      first | exact absurd g5 (by decide) | (exfalso; simp at g5; done) | (exfalso; simp at g5; omega)
     ·
      have g5' := g5
      try simp only [qq] at g5'
      refine sq_yes rfl rfl (less_b g5) rfl (ev_load_agg (lr _) rfl ty27 rfl) ?_
      refine sq_yes rfl rfl (less_b g5) rfl (ev_mv (v := .sl _ _) (lr _)) ?_
      refine sq_yes rfl rfl (less_b g5) rfl (ev_mv (v := .sl _ _) (lr _)) ?_
      refine sq_yes rfl rfl (less_b g5) rfl (ev_call en58 (lr _) (hla) ⟨lr _, lr _, lr _, trivial⟩) ?_
      refine sq_yes rfl rfl (less_b g5) rfl (ev_not (lr _)) ?_
      refine sq_ev rfl (ev_pickF (v := .raw _) (less_b g5) (lr _)) ?_
      refine sq_nil ?_
      refine aw_cond (lr _) (fun c6 => ?_) (fun c6 => ?_)
      ·
       have c6' := c6
       try simp only [qq] at c6'
       first | exact absurd c6 (by decide) | (exfalso; simp at c6; done) | (exfalso; simp at c6; omega)
      ·
       have c6' := c6
       try simp only [qq] at c6'
       refine aw_skip (aw_seq (aw_region ?_))
       refine sq_ev rfl (ev_load_agg (lr _) rfl ty27 rfl) ?_
       refine sq_ev rfl (ev_mv (v := .sl _ _) (lr _)) ?_
       refine sq_ev rfl (ev_call en46 (lr _) (fl_yesN hs hl hch hcan) ⟨lr _, lr _, trivial⟩) ?_
       refine sq_ev rfl (ev_mv (v := .tup _) (lr _)) ?_
       refine sq_ev rfl (ev_extract (lr _) rfl) ?_
       refine sq_ev rfl (ev_extract (lr _) rfl) ?_
       refine sq_ev rfl (ev_extract (lr _) rfl) ?_
       refine asr (lr _) rfl ?_
       refine asr (lr _) rfl ?_
       refine asr (lr _) rfl ?_
       refine sq_nil (aw_seq (aw_region ?_))
       refine sq_ev rfl (ev_load_agg (lr _) rfl ty27 rfl) ?_
       refine sq_ev rfl (ev_mv (v := .sl _ _) (lr _)) ?_
       refine sq_ev rfl (ev_call en55 (lr _) (h55) ⟨lr _, lr _, trivial⟩) ?_
       refine sq_ev rfl (ev_mv (v := .tup _) (lr _)) ?_
       refine sq_ev rfl (ev_extract (lr _) rfl) ?_
       refine sq_ev rfl (ev_extract (lr _) rfl) ?_
       refine asr (lr _) rfl ?_
       refine asr (lr _) rfl ?_
       refine sq_nil (aw_seq (aw_region ?_))
       refine sq_ev rfl (ev_load_agg (lr _) rfl ty27 rfl) ?_
       refine sq_ev rfl (ev_mv (v := .sl _ _) (lr _)) ?_
       refine sq_ev rfl (ev_mv (v := .sl _ _) (lr _)) ?_
       refine sq_ev rfl (ev_call en59 (lr _) (h59) ⟨lr _, lr _, lr _, trivial⟩) ?_
       refine sq_ev rfl (ev_mv (v := .tup _) (lr _)) ?_
       refine sq_ev rfl (ev_extract (lr _) rfl) ?_
       refine sq_ev rfl (ev_extract (lr _) rfl) ?_
       refine asr (lr _) rfl ?_
       refine asr (lr _) rfl ?_
       refine sq_nil (aw_seq (aw_seq (aw_region ?_)))
       refine mvr (lr _) rfl ?_
       refine sq_ev rfl (ev_neq (lr _) (lr _)) ?_
       refine mvr (lr _) rfl ?_
       refine sq_split 71 (lr _) (fun g7 => ?_) (fun g7 => ?_)
       ·
        have g7' := g7
        try simp only [qq] at g7'
        refine sq_yes rfl rfl (less_b g7) rfl (ev_mv (v := .raw _) (lr _)) ?_
        refine sq_yes rfl rfl (less_b g7) rfl (ev_neq (lr _) (lr _)) ?_
        refine sq_ev rfl (ev_pickT (v := .raw _) (less_b g7) (lr _)) ?_
        refine mvr (lr _) rfl ?_
        refine sq_split 75 (lr _) (fun g8 => ?_) (fun g8 => ?_)
        ·
         have g8' := g8
         try simp only [qq] at g8'
         first | exact absurd g8 (by decide) | (exfalso; simp at g8; done) | (exfalso; simp at g8; omega)
        ·
         have g8' := g8
         try simp only [qq] at g8'
         refine sq_yes rfl rfl (less_b g8) rfl (ev_mv (v := .raw _) (lr _)) ?_
         refine sq_yes rfl rfl (less_b g8) rfl (ev_neq (lr _) (lr _)) ?_
         refine sq_ev rfl (ev_pickF (v := .raw _) (less_b g8) (lr _)) ?_
         refine mvr (lr _) rfl ?_
         refine sq_split 79 (lr _) (fun g9 => ?_) (fun g9 => ?_)
         ·
          have g9' := g9
          try simp only [qq] at g9'
          first | exact absurd g9 (by decide) | (exfalso; simp at g9; done) | (exfalso; simp at g9; omega)
         ·
          have g9' := g9
          try simp only [qq] at g9'
          refine sq_yes rfl rfl (less_b g9) rfl (ev_mv (v := .raw _) (lr _)) ?_
          refine sq_yes rfl rfl (less_b g9) rfl (ev_neq (lr _) (lr _)) ?_
          refine sq_ev rfl (ev_pickF (v := .raw _) (less_b g9) (lr _)) ?_
          refine mvr (lr _) rfl ?_
          refine sq_split 83 (lr _) (fun g10 => ?_) (fun g10 => ?_)
          ·
           have g10' := g10
           try simp only [qq] at g10'
           first | exact absurd g10 (by decide) | (exfalso; simp at g10; done) | (exfalso; simp at g10; omega)
          ·
           have g10' := g10
           try simp only [qq] at g10'
           refine sq_yes rfl rfl (less_b g10) rfl (ev_mv (v := .raw _) (lr _)) ?_
           refine sq_yes rfl rfl (less_b g10) rfl (ev_mv (v := .raw _) (lr _)) ?_
           refine sq_yes rfl rfl (less_b g10) rfl (ev_eql (lr _) (lr _)) ?_
           refine sq_yes rfl rfl (less_b g10) rfl (ev_neqB un4 (lr _) (lr _)) ?_
           refine sq_ev rfl (ev_pickF (v := .raw _) (less_b g10) (lr _)) ?_
           refine mvr (lr _) rfl ?_
           refine sq_split 89 (lr _) (fun g11 => ?_) (fun g11 => ?_)
           ·
            have g11' := g11
            try simp only [qq] at g11'
            first | exact absurd g11 (by decide) | (exfalso; simp at g11; done) | (exfalso; simp at g11; omega)
           ·
            have g11' := g11
            try simp only [qq] at g11'
            refine sq_yes rfl rfl (less_b g11) rfl (ev_mv (v := .raw _) (lr _)) ?_
            refine sq_yes rfl rfl (less_b g11) rfl (ev_mv (v := .raw _) (lr _)) ?_
            refine sq_split 91 (lr _) (fun g12 => ?_) (fun g12 => ?_)
            ·
             have g12' := g12
             try simp only [qq] at g12'
             first | exact absurd g12 (by decide) | (exfalso; simp at g12; done) | (exfalso; simp at g12; omega)
            ·
             have g12' := g12
             try simp only [qq] at g12'
             refine sq_no rfl rfl (less_b g12) rfl rfl ?_
             refine sq_no rfl rfl (less_b g12) rfl rfl ?_
             refine sq_yes rfl rfl (less_b g11) rfl (ev_pickF (v := .raw _) (less_b g12) (lr _)) ?_
             refine sq_ev rfl (ev_pickF (v := .raw _) (less_b g11) (lr _)) ?_
             refine sq_nil ?_
             refine aw_false (lr _) ?_
             refine aw_skip (aw_seq (aw_seq (aw_region ?_)))
             refine mvr (lr _) rfl ?_
             refine sq_nil ?_
             refine aw_cond (lr _) (fun c13 => ?_) (fun c13 => ?_)
             ·
              have c13' := c13
              try simp only [qq] at c13'
              refine aw_seq (aw_region ?_)
              refine sq_ev rfl (ev_call en21 (lr _) (known_pure) trivial) ?_
              refine asr (lr _) rfl ?_
              refine sq_nil (aw_ret ?_)
              exact retQ_pure (v := .raw _) rfl rfl (lr _)
             ·
              have c13' := c13
              try simp only [qq] at c13'
              first | exact absurd c13 (by decide) | (exfalso; simp at c13; done) | (exfalso; simp at c13; omega)
       ·
        have g7' := g7
        try simp only [qq] at g7'
        first | exact absurd g7 (by decide) | (exfalso; simp at g7; done) | (exfalso; simp at g7; omega)

set_option maxHeartbeats 4000000 in
/-- kelir/kelirlaw03.NightProof -/
theorem law14_S (p : Pl) (l : List Nat) (ls : List Int) (hs : p.scenes.length ≤ 12) (hl : l.length ≤ 12) (hls : ls.length ≤ 12) (hk : PlOK p = true) (hc : (Ris p (up l) && isCh p (up l)) = true) (gp : GP p) (wp : WP p) (cv : CV p l) (hL : lastsP p l ls = true) (k : Nat) (hk3 : k < 3) (hff : ffail p l = some (k, 1)) (hfi : canP (pFF p l ls) l = false) : APure Tryz.prog 14 [plan p, nats l, ints ls] (B true) := by
 refine apure_of (rs := [.tmp 6]) Tryz.func14 rfl rfl (Nat.le_of_ble_eq_true rfl) (by simp [AV.pureL, AV.pureB, AV.pureE, pureE_map]) (rfl) fun e0 he0 => ?_
 have hla := rlasts_pure p l ls cv (by omega)
 rw [hL] at hla
 have hch : chosenB p (up l) = true := by rw [chosenB, Bool.and_assoc, hc, hk]; rfl
 have inc := ris_inc (Bool.and_eq_true_iff.1 hc).1
 have hpp := parts_ok hk cv
 have hlen := (lasts_at hL).1
 have hlb := lasts_bds gp cv hL
 have h55 := cn_yes hs hl hch
 have hcf : canP p l = false := by simp [canP, hff]
 rw [hcf] at h55
 have h59 := ft_yes hs hl hch hL
 rw [hfi] at h59
 refine aw_seq (aw_region ?_)
 refine sq_box rfl (lr _) rfl ?_
 refine asr (lr _) rfl ?_
 refine sq_nil (aw_seq (aw_seq (aw_region ?_)))
 refine sq_ev rfl (ev_load_agg (lr _) rfl ty27 rfl) ?_
 refine sq_ev rfl (ev_call en20 (lr _) (short_yes hs) ⟨lr _, trivial⟩) ?_
 refine sq_ev rfl (ev_not (lr _)) ?_
 refine mvr (lr _) rfl ?_
 refine sq_split 20 (lr _) (fun g1 => ?_) (fun g1 => ?_)
 ·
  have g1' := g1
  try simp only [qq] at g1'
  first | exact absurd g1 (by decide) | (exfalso; simp at g1; done) | (exfalso; simp at g1; omega)
 ·
  have g1' := g1
  try simp only [qq] at g1'
  refine sq_yes rfl rfl (less_b g1) rfl (ev_mv (v := .sl _ _) (lr _)) ?_
  refine sq_yes rfl rfl (less_b g1) rfl (ev_call en45 (lr _) (slim_yesN hl) ⟨lr _, trivial⟩) ?_
  refine sq_yes rfl rfl (less_b g1) rfl (ev_not (lr _)) ?_
  refine sq_ev rfl (ev_pickF (v := .raw _) (less_b g1) (lr _)) ?_
  refine mvr (lr _) rfl ?_
  refine sq_split 25 (lr _) (fun g2 => ?_) (fun g2 => ?_)
  ·
   have g2' := g2
   try simp only [qq] at g2'
   first | exact absurd g2 (by decide) | (exfalso; simp at g2; done) | (exfalso; simp at g2; omega)
  ·
   have g2' := g2
   try simp only [qq] at g2'
   refine sq_yes rfl rfl (less_b g2) rfl (ev_mv (v := .sl _ _) (lr _)) ?_
   refine sq_yes rfl rfl (less_b g2) rfl (ev_call en45 (lr _) (slim_yes hls) ⟨lr _, trivial⟩) ?_
   refine sq_yes rfl rfl (less_b g2) rfl (ev_not (lr _)) ?_
   refine sq_ev rfl (ev_pickF (v := .raw _) (less_b g2) (lr _)) ?_
   refine mvr (lr _) rfl ?_
   refine sq_split 30 (lr _) (fun g3 => ?_) (fun g3 => ?_)
   ·
    have g3' := g3
    try simp only [qq] at g3'
    first | exact absurd g3 (by decide) | (exfalso; simp at g3; done) | (exfalso; simp at g3; omega)
   ·
    have g3' := g3
    try simp only [qq] at g3'
    refine sq_yes rfl rfl (less_b g3) rfl (ev_load_agg (lr _) rfl ty27 rfl) ?_
    refine sq_yes rfl rfl (less_b g3) rfl (ev_call en24 (lr _) (plan_yes hs hk) ⟨lr _, trivial⟩) ?_
    refine sq_yes rfl rfl (less_b g3) rfl (ev_not (lr _)) ?_
    refine sq_ev rfl (ev_pickF (v := .raw _) (less_b g3) (lr _)) ?_
    refine mvr (lr _) rfl ?_
    refine sq_split 35 (lr _) (fun g4 => ?_) (fun g4 => ?_)
    ·
     have g4' := g4
     try simp only [qq] at g4'
     first | exact absurd g4 (by decide) | (exfalso; simp at g4; done) | (exfalso; simp at g4; omega)
    ·
     have g4' := g4
     try simp only [qq] at g4'
     refine sq_yes rfl rfl (less_b g4) rfl (ev_load_agg (lr _) rfl ty27 rfl) ?_
     refine sq_yes rfl rfl (less_b g4) rfl (ev_mv (v := .sl _ _) (lr _)) ?_
     refine sq_yes rfl rfl (less_b g4) rfl (ev_call en47 (lr _) (cho_yesN hs hl hc) ⟨lr _, lr _, trivial⟩) ?_
     refine sq_yes rfl rfl (less_b g4) rfl (ev_not (lr _)) ?_
     refine sq_ev rfl (ev_pickF (v := .raw _) (less_b g4) (lr _)) ?_
     refine mvr (lr _) rfl ?_
     refine sq_split 41 (lr _) (fun g5 => ?_) (fun g5 => ?_)
     ·
      have g5' := g5
      try simp only [qq] at g5'
      first | exact absurd g5 (by decide) | (exfalso; simp at g5; done) | (exfalso; simp at g5; omega)
     ·
      have g5' := g5
      try simp only [qq] at g5'
      refine sq_yes rfl rfl (less_b g5) rfl (ev_load_agg (lr _) rfl ty27 rfl) ?_
      refine sq_yes rfl rfl (less_b g5) rfl (ev_mv (v := .sl _ _) (lr _)) ?_
      refine sq_yes rfl rfl (less_b g5) rfl (ev_mv (v := .sl _ _) (lr _)) ?_
      refine sq_yes rfl rfl (less_b g5) rfl (ev_call en58 (lr _) (hla) ⟨lr _, lr _, lr _, trivial⟩) ?_
      refine sq_yes rfl rfl (less_b g5) rfl (ev_not (lr _)) ?_
      refine sq_ev rfl (ev_pickF (v := .raw _) (less_b g5) (lr _)) ?_
      refine sq_nil ?_
      refine aw_cond (lr _) (fun c6 => ?_) (fun c6 => ?_)
      ·
       have c6' := c6
       try simp only [qq] at c6'
       first | exact absurd c6 (by decide) | (exfalso; simp at c6; done) | (exfalso; simp at c6; omega)
      ·
       have c6' := c6
       try simp only [qq] at c6'
       refine aw_skip (aw_seq (aw_region ?_))
       refine sq_ev rfl (ev_load_agg (lr _) rfl ty27 rfl) ?_
       refine sq_ev rfl (ev_mv (v := .sl _ _) (lr _)) ?_
       refine sq_ev rfl (ev_call en46 (lr _) (fl_notN hs hl hch hff) ⟨lr _, lr _, trivial⟩) ?_
       refine sq_ev rfl (ev_mv (v := .tup _) (lr _)) ?_
       refine sq_ev rfl (ev_extract (lr _) rfl) ?_
       refine sq_ev rfl (ev_extract (lr _) rfl) ?_
       refine sq_ev rfl (ev_extract (lr _) rfl) ?_
       refine asr (lr _) rfl ?_
       refine asr (lr _) rfl ?_
       refine asr (lr _) rfl ?_
       refine sq_nil (aw_seq (aw_region ?_))
       refine sq_ev rfl (ev_load_agg (lr _) rfl ty27 rfl) ?_
       refine sq_ev rfl (ev_mv (v := .sl _ _) (lr _)) ?_
       refine sq_ev rfl (ev_call en55 (lr _) (h55) ⟨lr _, lr _, trivial⟩) ?_
       refine sq_ev rfl (ev_mv (v := .tup _) (lr _)) ?_
       refine sq_ev rfl (ev_extract (lr _) rfl) ?_
       refine sq_ev rfl (ev_extract (lr _) rfl) ?_
       refine asr (lr _) rfl ?_
       refine asr (lr _) rfl ?_
       refine sq_nil (aw_seq (aw_region ?_))
       refine sq_ev rfl (ev_load_agg (lr _) rfl ty27 rfl) ?_
       refine sq_ev rfl (ev_mv (v := .sl _ _) (lr _)) ?_
       refine sq_ev rfl (ev_mv (v := .sl _ _) (lr _)) ?_
       refine sq_ev rfl (ev_call en59 (lr _) (h59) ⟨lr _, lr _, lr _, trivial⟩) ?_
       refine sq_ev rfl (ev_mv (v := .tup _) (lr _)) ?_
       refine sq_ev rfl (ev_extract (lr _) rfl) ?_
       refine sq_ev rfl (ev_extract (lr _) rfl) ?_
       refine asr (lr _) rfl ?_
       refine asr (lr _) rfl ?_
       refine sq_nil (aw_seq (aw_seq (aw_region ?_)))
       refine mvr (lr _) rfl ?_
       refine sq_ev rfl (ev_neq (lr _) (lr _)) ?_
       refine mvr (lr _) rfl ?_
       refine sq_split 71 (lr _) (fun g7 => ?_) (fun g7 => ?_)
       ·
        have g7' := g7
        try simp only [qq] at g7'
        first | exact absurd g7 (by decide) | (exfalso; simp at g7; done) | (exfalso; simp at g7; omega)
       ·
        have g7' := g7
        try simp only [qq] at g7'
        refine sq_no rfl rfl (less_b g7) rfl rfl ?_
        refine sq_no rfl rfl (less_b g7) rfl rfl ?_
        refine sq_ev rfl (ev_pickF (v := .raw _) (less_b g7) (lr _)) ?_
        refine mvr (lr _) rfl ?_
        refine sq_yes rfl rfl (lr _) rfl (ev_mv (v := .raw _) (lr _)) ?_
        refine sq_yes rfl rfl (lr _) rfl (ev_neq (lr _) (lr _)) ?_
        refine sq_ev rfl (ev_pickF (v := .raw _) (lr _) (lr _)) ?_
        refine mvr (lr _) rfl ?_
        refine sq_split 79 (lr _) (fun g8 => ?_) (fun g8 => ?_)
        ·
         have g8' := g8
         try simp only [qq] at g8'
         first | exact absurd g8 (by decide) | (exfalso; simp at g8; done) | (exfalso; simp at g8; omega)
        ·
         have g8' := g8
         try simp only [qq] at g8'
         refine sq_yes rfl rfl (less_b g8) rfl (ev_mv (v := .raw _) (lr _)) ?_
         refine sq_yes rfl rfl (less_b g8) rfl (ev_neq (lr _) (lr _)) ?_
         refine sq_ev rfl (ev_pickF (v := .raw _) (less_b g8) (lr _)) ?_
         refine mvr (lr _) rfl ?_
         refine sq_split 83 (lr _) (fun g9 => ?_) (fun g9 => ?_)
         ·
          have g9' := g9
          try simp only [qq] at g9'
          first | exact absurd g9 (by decide) | (exfalso; simp at g9; done) | (exfalso; simp at g9; omega)
         ·
          have g9' := g9
          try simp only [qq] at g9'
          refine sq_yes rfl rfl (less_b g9) rfl (ev_mv (v := .raw _) (lr _)) ?_
          refine sq_yes rfl rfl (less_b g9) rfl (ev_mv (v := .raw _) (lr _)) ?_
          refine sq_yes rfl rfl (less_b g9) rfl (ev_eql (lr _) (lr _)) ?_
          refine sq_yes rfl rfl (less_b g9) rfl (ev_neqB un4 (lr _) (lr _)) ?_
          refine sq_ev rfl (ev_pickF (v := .raw _) (less_b g9) (lr _)) ?_
          refine mvr (lr _) rfl ?_
          refine sq_split 89 (lr _) (fun g10 => ?_) (fun g10 => ?_)
          ·
           have g10' := g10
           try simp only [qq] at g10'
           first | exact absurd g10 (by decide) | (exfalso; simp at g10; done) | (exfalso; simp at g10; omega)
          ·
           have g10' := g10
           try simp only [qq] at g10'
           refine sq_yes rfl rfl (less_b g10) rfl (ev_mv (v := .raw _) (lr _)) ?_
           refine sq_yes rfl rfl (less_b g10) rfl (ev_mv (v := .raw _) (lr _)) ?_
           refine sq_split 91 (lr _) (fun g11 => ?_) (fun g11 => ?_)
           ·
            have g11' := g11
            try simp only [qq] at g11'
            first | exact absurd g11 (by decide) | (exfalso; simp at g11; done) | (exfalso; simp at g11; omega)
           ·
            have g11' := g11
            try simp only [qq] at g11'
            refine sq_no rfl rfl (less_b g11) rfl rfl ?_
            refine sq_no rfl rfl (less_b g11) rfl rfl ?_
            refine sq_yes rfl rfl (less_b g10) rfl (ev_pickF (v := .raw _) (less_b g11) (lr _)) ?_
            refine sq_ev rfl (ev_pickF (v := .raw _) (less_b g10) (lr _)) ?_
            refine sq_nil ?_
            refine aw_false (lr _) ?_
            refine aw_skip (aw_seq (aw_seq (aw_region ?_)))
            refine mvr (lr _) rfl ?_
            refine sq_nil ?_
            refine aw_cond (lr _) (fun c12 => ?_) (fun c12 => ?_)
            ·
             have c12' := c12
             try simp only [qq] at c12'
             first | exact absurd c12 (by decide) | (exfalso; simp at c12; done) | (exfalso; simp at c12; omega)
            ·
             have c12' := c12
             try simp only [qq] at c12'
             refine aw_skip (aw_seq (aw_seq (aw_region ?_)))
             refine mvr (lr _) rfl ?_
             refine sq_ev rfl (ev_lss (lr _) (lr _)) ?_
             refine mvr (lr _) rfl ?_
             refine sq_split 100 (lr _) (fun g13 => ?_) (fun g13 => ?_)
             ·
              have g13' := g13
              try simp only [qq] at g13'
              first | exact absurd g13 (by decide) | (exfalso; simp at g13; done) | (exfalso; simp at g13; omega)
             ·
              have g13' := g13
              try simp only [qq] at g13'
              refine sq_yes rfl rfl (less_b g13) rfl (ev_mv (v := .raw _) (lr _)) ?_
              refine sq_yes rfl rfl (less_b g13) rfl (ev_gtr (lr _) (lr _)) ?_
              refine sq_ev rfl (ev_pickF (v := .raw _) (less_b g13) (lr _)) ?_
              refine mvr (lr _) rfl ?_
              refine sq_split 104 (lr _) (fun g14 => ?_) (fun g14 => ?_)
              ·
               have g14' := g14
               try simp only [qq] at g14'
               first | exact absurd g14 (by decide) | (exfalso; simp at g14; done) | (exfalso; simp at g14; omega)
              ·
               have g14' := g14
               try simp only [qq] at g14'
               refine sq_yes rfl rfl (less_b g14) rfl (ev_mv (v := .raw _) (lr _)) ?_
               refine sq_yes rfl rfl (less_b g14) rfl (ev_neq (lr _) (lr _)) ?_
               refine sq_yes rfl rfl (less_b g14) rfl (ev_mv (v := .raw _) (lr _)) ?_
               refine sq_split 107 (lr _) (fun g15 => ?_) (fun g15 => ?_)
               ·
                have g15' := g15
                try simp only [qq] at g15'
                first | exact absurd g15 (by decide) | (exfalso; simp at g15; done) | (exfalso; simp at g15; omega)
               ·
                have g15' := g15
                try simp only [qq] at g15'
                refine sq_no rfl rfl (less_b g15) rfl rfl ?_
                refine sq_no rfl rfl (less_b g15) rfl rfl ?_
                refine sq_yes rfl rfl (less_b g14) rfl (ev_pickF (v := .raw _) (less_b g15) (lr _)) ?_
                refine sq_ev rfl (ev_pickF (v := .raw _) (less_b g14) (lr _)) ?_
                refine sq_nil ?_
                refine aw_false (lr _) ?_
                refine aw_skip (aw_seq (aw_seq (aw_region ?_)))
                refine asr (lr _) rfl ?_
                refine sq_nil (aw_block ?_)
                refine aw_loopk (ι := { i : Nat // i ≤ k ∧ ∀ j, j < i → wl p j ≤ endR p l ls j ∧ endR p l ls j ≤ wh p j }) [1, 2, 3, 7, 8] (fun i => [(14, I i.1)]) (fun H i => H) (fun i => k - i.1) (⟨0, by omega, by omega⟩) ⟨lr _, lr _, lr _, lr _, lr _, lr _, trivial⟩ rfl ?_
                rintro ⟨i, hi, hin⟩
                dsimp only [keepS, St.put, sget, slotsOf, List.map_cons, List.map_nil, List.cons_append, List.nil_append, List.length_cons, List.length_nil, Nat.reduceBEq, Nat.reduceAdd, cond_true, cond_false]
                refine aw_seq (aw_seq (aw_region ?_))
                refine mvr (lr _) rfl ?_
                refine mvr (lr _) rfl ?_
                refine sq_ev rfl (ev_lss (lr _) (lr _)) ?_
                refine sq_nil ?_
                refine aw_cond (lr _) (fun c16 => ?_) (fun c16 => ?_)
                ·
                 have c16' := c16
                 try simp only [qq] at c16'
                 refine aw_skip (aw_seq (aw_block (aw_seq ?_)))
                 refine aw_draw 10 mo (by kernel_rfl) ?_
                 refine dr_ev rfl (ev_load_agg (lr _) rfl ty27 rfl) ?_
                 refine dr_ev rfl (ev_mv (v := .sl _ _) (lr _)) ?_
                 refine dr_ev rfl (ev_mv (v := .sl _ _) (lr _)) ?_
                 refine dr_ev rfl (ev_mv (v := .raw _) (lr _)) ?_
                 refine dr_ev rfl (ev_call en61 (lr _) (rend_pure p l ls (i : Int) gp cv hlen hlb) ⟨lr _, lr _, lr _, lr _, trivial⟩) ?_
                 refine dr_ev rfl (ev_load_agg (lr _) rfl ty27 rfl) ?_
                 refine dr_ev rfl (ev_mv (v := .raw _) (lr _)) ?_
                 refine dr_ev rfl (ev_call en39 (lr _) (rwindow_pure p i (by omega)) ⟨lr _, lr _, trivial⟩) ?_
                 refine dr_ev rfl (ev_call en60 (lr _) (rwithin_pure _ _ _) ⟨lr _, lr _, trivial⟩) ?_
                 refine dr_ev rfl (ev_not (lr _)) ?_
                 refine dr_end (sq_nil ?_)
                 refine aw_cond (lr _) (fun c17 => ?_) (fun c17 => ?_)
                 ·
                  have c17' := c17
                  try simp only [qq] at c17'
                  refine aw_seq (aw_region ?_)
                  refine sq_ev rfl (ev_call en21 (lr _) (known_pure) trivial) ?_
                  refine asr (lr _) rfl ?_
                  refine sq_nil (aw_ret ?_)
                  exact retQ_pure (v := .raw _) rfl rfl (lr _)
                 ·
                  have c17' := c17
                  try simp only [qq] at c17'
                  refine aw_skip (aw_region ?_)
                  refine mvr (lr _) rfl ?_
                  refine sq_ev rfl (ev_add (lr _) (lr _) (wr (by omega) (by omega))) ?_
                  refine asr (lr _) rfl ?_
                  refine sq_nil ?_
                  exact ⟨⟨i + 1, by omega, fun j hj => (by by_cases e : j = i; (subst e; simpa [inn] using c17'); exact hin j (by omega))⟩, by simp only; omega, Sub.fin 1 ⟨lr _, lr _, lr _, lr _, lr _, lr _, trivial⟩ rfl (by simp [slotsIn, objsIn, sget, keepS, AObj.inB, AV.inB, AV.inL, AV.inE, inE_map]) (by simp [slotsIn, objsIn, sget, keepS, AObj.inB, AV.inB, AV.inL, AV.inE, inE_map]) (by simp [he0])⟩
                ·
                 have c16' := c16
                 try simp only [qq] at c16'
                 refine aw_exit (aw_seq ?_)
                 obtain rfl : i = k := by omega
                 have hsd := fail_side wp cv inc hL hpp hff hin
                 have hend : endR p l ls i < wl p i := by rcases hsd.2 with ⟨h1, h2⟩ | ⟨h1, h2⟩ <;> first | exact h2 | (exfalso; omega)
                 refine aw_drawc [8] [10] _ mo (by kernel_rfl) (HSub.refl _) ?_
                 refine dc_ev rfl (ev_load_agg (lr _) rfl ty27 rfl) ?_
                 refine dc_ev rfl (ev_mv (v := .sl _ _) (lr _)) ?_
                 refine dc_ev rfl (ev_mv (v := .sl _ _) (lr _)) ?_
                 refine dc_ev rfl (ev_mv (v := .raw _) (lr _)) ?_
                 refine dc_ev rfl (ev_call en61 (lr _) (rend_pure p l ls (i : Int) gp cv hlen hlb) ⟨lr _, lr _, lr _, lr _, trivial⟩) ?_
                 refine dc_ev rfl (ev_load_agg (lr _) rfl ty27 rfl) ?_
                 refine dc_ev rfl (ev_mv (v := .raw _) (lr _)) ?_
                 refine dc_ev rfl (ev_call en39 (lr _) (rwindow_pure p i hk3) ⟨lr _, lr _, trivial⟩) ?_
                 refine dc_alloc rfl rfl z23 ?_
                 refine dc_ev rfl (ev_as (v := .raw _) (lr _)) ?_
                 refine dc_eff rfl rfl (eff_store rfl (lr _) (lr _) rfl rfl ty23 rfl rfl) (by apply HL.sub; repeat' (first | exact HL.nil _ | apply HL.same | apply HL.tok)) ?_
                 refine dc_nil (aw_seq (aw_seq (aw_region ?_)))
                 refine mvr (lr _) rfl ?_
                 refine sq_ev rfl (ev_eql (lr _) (lr _)) ?_
                 refine sq_nil ?_
                 refine aw_cond (lr _) (fun c18 => ?_) (fun c18 => ?_)
                 ·
                  have c18' := c18
                  try simp only [qq] at c18'
                  refine aw_seq (aw_region ?_)
                  refine mvr (lr _) rfl ?_
                  refine sq_ev rfl (ev_fieldAddr fo23_0 (lr _)) ?_
                  refine sq_ev rfl (ev_load (lr _) rfl ty3 rfl) ?_
                  refine sq_ev rfl (ev_lss (lr _) (lr _)) ?_
                  refine mvr (lr _) rfl ?_
                  refine sq_split 142 (lr _) (fun g19 => ?_) (fun g19 => ?_)
                  ·
                   have g19' := g19
                   try simp only [qq] at g19'
                   refine sq_yes rfl rfl (less_b g19) rfl (ev_call en21 (lr _) (known_pure) trivial) ?_
                   refine sq_ev rfl (ev_pickT (v := .raw _) (less_b g19) (lr _)) ?_
                   refine asr (lr _) rfl ?_
                   refine sq_nil (aw_ret ?_)
                   exact retQ_pure (v := .raw _) rfl rfl (lr _)
                  ·
                   have g19' := g19
                   try simp only [qq] at g19'
                   first | exact absurd g19 (by decide) | (exfalso; simp at g19; done) | (exfalso; simp at g19; omega)
                 ·
                  have c18' := c18
                  try simp only [qq] at c18'
                  first | exact absurd c18 (by decide) | (exfalso; simp at c18; done) | (exfalso; simp at c18; omega)

set_option maxHeartbeats 4000000 in
/-- kelir/kelirlaw03.NightProof -/
theorem law14_O (p : Pl) (l : List Nat) (ls : List Int) (hs : p.scenes.length ≤ 12) (hl : l.length ≤ 12) (hls : ls.length ≤ 12) (hk : PlOK p = true) (hc : (Ris p (up l) && isCh p (up l)) = true) (gp : GP p) (wp : WP p) (cv : CV p l) (hL : lastsP p l ls = true) (k : Nat) (hk3 : k < 3) (hff : ffail p l = some (k, 2)) (hfi : canP (pFF p l ls) l = false) : APure Tryz.prog 14 [plan p, nats l, ints ls] (B true) := by
 refine apure_of (rs := [.tmp 6]) Tryz.func14 rfl rfl (Nat.le_of_ble_eq_true rfl) (by simp [AV.pureL, AV.pureB, AV.pureE, pureE_map]) (rfl) fun e0 he0 => ?_
 have hla := rlasts_pure p l ls cv (by omega)
 rw [hL] at hla
 have hch : chosenB p (up l) = true := by rw [chosenB, Bool.and_assoc, hc, hk]; rfl
 have inc := ris_inc (Bool.and_eq_true_iff.1 hc).1
 have hpp := parts_ok hk cv
 have hlen := (lasts_at hL).1
 have hlb := lasts_bds gp cv hL
 have h55 := cn_yes hs hl hch
 have hcf : canP p l = false := by simp [canP, hff]
 rw [hcf] at h55
 have h59 := ft_yes hs hl hch hL
 rw [hfi] at h59
 refine aw_seq (aw_region ?_)
 refine sq_box rfl (lr _) rfl ?_
 refine asr (lr _) rfl ?_
 refine sq_nil (aw_seq (aw_seq (aw_region ?_)))
 refine sq_ev rfl (ev_load_agg (lr _) rfl ty27 rfl) ?_
 refine sq_ev rfl (ev_call en20 (lr _) (short_yes hs) ⟨lr _, trivial⟩) ?_
 refine sq_ev rfl (ev_not (lr _)) ?_
 refine mvr (lr _) rfl ?_
 refine sq_split 20 (lr _) (fun g1 => ?_) (fun g1 => ?_)
 ·
  have g1' := g1
  try simp only [qq] at g1'
  first | exact absurd g1 (by decide) | (exfalso; simp at g1; done) | (exfalso; simp at g1; omega)
 ·
  have g1' := g1
  try simp only [qq] at g1'
  refine sq_yes rfl rfl (less_b g1) rfl (ev_mv (v := .sl _ _) (lr _)) ?_
  refine sq_yes rfl rfl (less_b g1) rfl (ev_call en45 (lr _) (slim_yesN hl) ⟨lr _, trivial⟩) ?_
  refine sq_yes rfl rfl (less_b g1) rfl (ev_not (lr _)) ?_
  refine sq_ev rfl (ev_pickF (v := .raw _) (less_b g1) (lr _)) ?_
  refine mvr (lr _) rfl ?_
  refine sq_split 25 (lr _) (fun g2 => ?_) (fun g2 => ?_)
  ·
   have g2' := g2
   try simp only [qq] at g2'
   first | exact absurd g2 (by decide) | (exfalso; simp at g2; done) | (exfalso; simp at g2; omega)
  ·
   have g2' := g2
   try simp only [qq] at g2'
   refine sq_yes rfl rfl (less_b g2) rfl (ev_mv (v := .sl _ _) (lr _)) ?_
   refine sq_yes rfl rfl (less_b g2) rfl (ev_call en45 (lr _) (slim_yes hls) ⟨lr _, trivial⟩) ?_
   refine sq_yes rfl rfl (less_b g2) rfl (ev_not (lr _)) ?_
   refine sq_ev rfl (ev_pickF (v := .raw _) (less_b g2) (lr _)) ?_
   refine mvr (lr _) rfl ?_
   refine sq_split 30 (lr _) (fun g3 => ?_) (fun g3 => ?_)
   ·
    have g3' := g3
    try simp only [qq] at g3'
    first | exact absurd g3 (by decide) | (exfalso; simp at g3; done) | (exfalso; simp at g3; omega)
   ·
    have g3' := g3
    try simp only [qq] at g3'
    refine sq_yes rfl rfl (less_b g3) rfl (ev_load_agg (lr _) rfl ty27 rfl) ?_
    refine sq_yes rfl rfl (less_b g3) rfl (ev_call en24 (lr _) (plan_yes hs hk) ⟨lr _, trivial⟩) ?_
    refine sq_yes rfl rfl (less_b g3) rfl (ev_not (lr _)) ?_
    refine sq_ev rfl (ev_pickF (v := .raw _) (less_b g3) (lr _)) ?_
    refine mvr (lr _) rfl ?_
    refine sq_split 35 (lr _) (fun g4 => ?_) (fun g4 => ?_)
    ·
     have g4' := g4
     try simp only [qq] at g4'
     first | exact absurd g4 (by decide) | (exfalso; simp at g4; done) | (exfalso; simp at g4; omega)
    ·
     have g4' := g4
     try simp only [qq] at g4'
     refine sq_yes rfl rfl (less_b g4) rfl (ev_load_agg (lr _) rfl ty27 rfl) ?_
     refine sq_yes rfl rfl (less_b g4) rfl (ev_mv (v := .sl _ _) (lr _)) ?_
     refine sq_yes rfl rfl (less_b g4) rfl (ev_call en47 (lr _) (cho_yesN hs hl hc) ⟨lr _, lr _, trivial⟩) ?_
     refine sq_yes rfl rfl (less_b g4) rfl (ev_not (lr _)) ?_
     refine sq_ev rfl (ev_pickF (v := .raw _) (less_b g4) (lr _)) ?_
     refine mvr (lr _) rfl ?_
     refine sq_split 41 (lr _) (fun g5 => ?_) (fun g5 => ?_)
     ·
      have g5' := g5
      try simp only [qq] at g5'
      first | exact absurd g5 (by decide) | (exfalso; simp at g5; done) | (exfalso; simp at g5; omega)
     ·
      have g5' := g5
      try simp only [qq] at g5'
      refine sq_yes rfl rfl (less_b g5) rfl (ev_load_agg (lr _) rfl ty27 rfl) ?_
      refine sq_yes rfl rfl (less_b g5) rfl (ev_mv (v := .sl _ _) (lr _)) ?_
      refine sq_yes rfl rfl (less_b g5) rfl (ev_mv (v := .sl _ _) (lr _)) ?_
      refine sq_yes rfl rfl (less_b g5) rfl (ev_call en58 (lr _) (hla) ⟨lr _, lr _, lr _, trivial⟩) ?_
      refine sq_yes rfl rfl (less_b g5) rfl (ev_not (lr _)) ?_
      refine sq_ev rfl (ev_pickF (v := .raw _) (less_b g5) (lr _)) ?_
      refine sq_nil ?_
      refine aw_cond (lr _) (fun c6 => ?_) (fun c6 => ?_)
      ·
       have c6' := c6
       try simp only [qq] at c6'
       first | exact absurd c6 (by decide) | (exfalso; simp at c6; done) | (exfalso; simp at c6; omega)
      ·
       have c6' := c6
       try simp only [qq] at c6'
       refine aw_skip (aw_seq (aw_region ?_))
       refine sq_ev rfl (ev_load_agg (lr _) rfl ty27 rfl) ?_
       refine sq_ev rfl (ev_mv (v := .sl _ _) (lr _)) ?_
       refine sq_ev rfl (ev_call en46 (lr _) (fl_notN hs hl hch hff) ⟨lr _, lr _, trivial⟩) ?_
       refine sq_ev rfl (ev_mv (v := .tup _) (lr _)) ?_
       refine sq_ev rfl (ev_extract (lr _) rfl) ?_
       refine sq_ev rfl (ev_extract (lr _) rfl) ?_
       refine sq_ev rfl (ev_extract (lr _) rfl) ?_
       refine asr (lr _) rfl ?_
       refine asr (lr _) rfl ?_
       refine asr (lr _) rfl ?_
       refine sq_nil (aw_seq (aw_region ?_))
       refine sq_ev rfl (ev_load_agg (lr _) rfl ty27 rfl) ?_
       refine sq_ev rfl (ev_mv (v := .sl _ _) (lr _)) ?_
       refine sq_ev rfl (ev_call en55 (lr _) (h55) ⟨lr _, lr _, trivial⟩) ?_
       refine sq_ev rfl (ev_mv (v := .tup _) (lr _)) ?_
       refine sq_ev rfl (ev_extract (lr _) rfl) ?_
       refine sq_ev rfl (ev_extract (lr _) rfl) ?_
       refine asr (lr _) rfl ?_
       refine asr (lr _) rfl ?_
       refine sq_nil (aw_seq (aw_region ?_))
       refine sq_ev rfl (ev_load_agg (lr _) rfl ty27 rfl) ?_
       refine sq_ev rfl (ev_mv (v := .sl _ _) (lr _)) ?_
       refine sq_ev rfl (ev_mv (v := .sl _ _) (lr _)) ?_
       refine sq_ev rfl (ev_call en59 (lr _) (h59) ⟨lr _, lr _, lr _, trivial⟩) ?_
       refine sq_ev rfl (ev_mv (v := .tup _) (lr _)) ?_
       refine sq_ev rfl (ev_extract (lr _) rfl) ?_
       refine sq_ev rfl (ev_extract (lr _) rfl) ?_
       refine asr (lr _) rfl ?_
       refine asr (lr _) rfl ?_
       refine sq_nil (aw_seq (aw_seq (aw_region ?_)))
       refine mvr (lr _) rfl ?_
       refine sq_ev rfl (ev_neq (lr _) (lr _)) ?_
       refine mvr (lr _) rfl ?_
       refine sq_split 71 (lr _) (fun g7 => ?_) (fun g7 => ?_)
       ·
        have g7' := g7
        try simp only [qq] at g7'
        first | exact absurd g7 (by decide) | (exfalso; simp at g7; done) | (exfalso; simp at g7; omega)
       ·
        have g7' := g7
        try simp only [qq] at g7'
        refine sq_no rfl rfl (less_b g7) rfl rfl ?_
        refine sq_no rfl rfl (less_b g7) rfl rfl ?_
        refine sq_ev rfl (ev_pickF (v := .raw _) (less_b g7) (lr _)) ?_
        refine mvr (lr _) rfl ?_
        refine sq_yes rfl rfl (lr _) rfl (ev_mv (v := .raw _) (lr _)) ?_
        refine sq_yes rfl rfl (lr _) rfl (ev_neq (lr _) (lr _)) ?_
        refine sq_ev rfl (ev_pickF (v := .raw _) (lr _) (lr _)) ?_
        refine mvr (lr _) rfl ?_
        refine sq_split 79 (lr _) (fun g8 => ?_) (fun g8 => ?_)
        ·
         have g8' := g8
         try simp only [qq] at g8'
         first | exact absurd g8 (by decide) | (exfalso; simp at g8; done) | (exfalso; simp at g8; omega)
        ·
         have g8' := g8
         try simp only [qq] at g8'
         refine sq_yes rfl rfl (less_b g8) rfl (ev_mv (v := .raw _) (lr _)) ?_
         refine sq_yes rfl rfl (less_b g8) rfl (ev_neq (lr _) (lr _)) ?_
         refine sq_ev rfl (ev_pickF (v := .raw _) (less_b g8) (lr _)) ?_
         refine mvr (lr _) rfl ?_
         refine sq_split 83 (lr _) (fun g9 => ?_) (fun g9 => ?_)
         ·
          have g9' := g9
          try simp only [qq] at g9'
          first | exact absurd g9 (by decide) | (exfalso; simp at g9; done) | (exfalso; simp at g9; omega)
         ·
          have g9' := g9
          try simp only [qq] at g9'
          refine sq_yes rfl rfl (less_b g9) rfl (ev_mv (v := .raw _) (lr _)) ?_
          refine sq_yes rfl rfl (less_b g9) rfl (ev_mv (v := .raw _) (lr _)) ?_
          refine sq_yes rfl rfl (less_b g9) rfl (ev_eql (lr _) (lr _)) ?_
          refine sq_yes rfl rfl (less_b g9) rfl (ev_neqB un4 (lr _) (lr _)) ?_
          refine sq_ev rfl (ev_pickF (v := .raw _) (less_b g9) (lr _)) ?_
          refine mvr (lr _) rfl ?_
          refine sq_split 89 (lr _) (fun g10 => ?_) (fun g10 => ?_)
          ·
           have g10' := g10
           try simp only [qq] at g10'
           first | exact absurd g10 (by decide) | (exfalso; simp at g10; done) | (exfalso; simp at g10; omega)
          ·
           have g10' := g10
           try simp only [qq] at g10'
           refine sq_yes rfl rfl (less_b g10) rfl (ev_mv (v := .raw _) (lr _)) ?_
           refine sq_yes rfl rfl (less_b g10) rfl (ev_mv (v := .raw _) (lr _)) ?_
           refine sq_split 91 (lr _) (fun g11 => ?_) (fun g11 => ?_)
           ·
            have g11' := g11
            try simp only [qq] at g11'
            first | exact absurd g11 (by decide) | (exfalso; simp at g11; done) | (exfalso; simp at g11; omega)
           ·
            have g11' := g11
            try simp only [qq] at g11'
            refine sq_no rfl rfl (less_b g11) rfl rfl ?_
            refine sq_no rfl rfl (less_b g11) rfl rfl ?_
            refine sq_yes rfl rfl (less_b g10) rfl (ev_pickF (v := .raw _) (less_b g11) (lr _)) ?_
            refine sq_ev rfl (ev_pickF (v := .raw _) (less_b g10) (lr _)) ?_
            refine sq_nil ?_
            refine aw_false (lr _) ?_
            refine aw_skip (aw_seq (aw_seq (aw_region ?_)))
            refine mvr (lr _) rfl ?_
            refine sq_nil ?_
            refine aw_cond (lr _) (fun c12 => ?_) (fun c12 => ?_)
            ·
             have c12' := c12
             try simp only [qq] at c12'
             first | exact absurd c12 (by decide) | (exfalso; simp at c12; done) | (exfalso; simp at c12; omega)
            ·
             have c12' := c12
             try simp only [qq] at c12'
             refine aw_skip (aw_seq (aw_seq (aw_region ?_)))
             refine mvr (lr _) rfl ?_
             refine sq_ev rfl (ev_lss (lr _) (lr _)) ?_
             refine mvr (lr _) rfl ?_
             refine sq_split 100 (lr _) (fun g13 => ?_) (fun g13 => ?_)
             ·
              have g13' := g13
              try simp only [qq] at g13'
              first | exact absurd g13 (by decide) | (exfalso; simp at g13; done) | (exfalso; simp at g13; omega)
             ·
              have g13' := g13
              try simp only [qq] at g13'
              refine sq_yes rfl rfl (less_b g13) rfl (ev_mv (v := .raw _) (lr _)) ?_
              refine sq_yes rfl rfl (less_b g13) rfl (ev_gtr (lr _) (lr _)) ?_
              refine sq_ev rfl (ev_pickF (v := .raw _) (less_b g13) (lr _)) ?_
              refine mvr (lr _) rfl ?_
              refine sq_split 104 (lr _) (fun g14 => ?_) (fun g14 => ?_)
              ·
               have g14' := g14
               try simp only [qq] at g14'
               first | exact absurd g14 (by decide) | (exfalso; simp at g14; done) | (exfalso; simp at g14; omega)
              ·
               have g14' := g14
               try simp only [qq] at g14'
               refine sq_yes rfl rfl (less_b g14) rfl (ev_mv (v := .raw _) (lr _)) ?_
               refine sq_yes rfl rfl (less_b g14) rfl (ev_neq (lr _) (lr _)) ?_
               refine sq_yes rfl rfl (less_b g14) rfl (ev_mv (v := .raw _) (lr _)) ?_
               refine sq_split 107 (lr _) (fun g15 => ?_) (fun g15 => ?_)
               ·
                have g15' := g15
                try simp only [qq] at g15'
                refine sq_yes rfl rfl (less_b g15) rfl (ev_mv (v := .raw _) (lr _)) ?_
                refine sq_yes rfl rfl (less_b g15) rfl (ev_neq (lr _) (lr _)) ?_
                refine sq_yes rfl rfl (less_b g14) rfl (ev_pickT (v := .raw _) (less_b g15) (lr _)) ?_
                refine sq_ev rfl (ev_pickF (v := .raw _) (less_b g14) (lr _)) ?_
                refine sq_nil ?_
                refine aw_cond (lr _) (fun c16 => ?_) (fun c16 => ?_)
                ·
                 have c16' := c16
                 try simp only [qq] at c16'
                 first | exact absurd c16 (by decide) | (exfalso; simp at c16; done) | (exfalso; simp at c16; omega)
                ·
                 have c16' := c16
                 try simp only [qq] at c16'
                 refine aw_skip (aw_seq (aw_seq (aw_region ?_)))
                 refine asr (lr _) rfl ?_
                 refine sq_nil (aw_block ?_)
                 refine aw_loopk (ι := { i : Nat // i ≤ k ∧ ∀ j, j < i → wl p j ≤ endR p l ls j ∧ endR p l ls j ≤ wh p j }) [1, 2, 3, 7, 8] (fun i => [(14, I i.1)]) (fun H i => H) (fun i => k - i.1) (⟨0, by omega, by omega⟩) ⟨lr _, lr _, lr _, lr _, lr _, lr _, trivial⟩ rfl ?_
                 rintro ⟨i, hi, hin⟩
                 dsimp only [keepS, St.put, sget, slotsOf, List.map_cons, List.map_nil, List.cons_append, List.nil_append, List.length_cons, List.length_nil, Nat.reduceBEq, Nat.reduceAdd, cond_true, cond_false]
                 refine aw_seq (aw_seq (aw_region ?_))
                 refine mvr (lr _) rfl ?_
                 refine mvr (lr _) rfl ?_
                 refine sq_ev rfl (ev_lss (lr _) (lr _)) ?_
                 refine sq_nil ?_
                 refine aw_cond (lr _) (fun c17 => ?_) (fun c17 => ?_)
                 ·
                  have c17' := c17
                  try simp only [qq] at c17'
                  refine aw_skip (aw_seq (aw_block (aw_seq ?_)))
                  refine aw_draw 10 mo (by kernel_rfl) ?_
                  refine dr_ev rfl (ev_load_agg (lr _) rfl ty27 rfl) ?_
                  refine dr_ev rfl (ev_mv (v := .sl _ _) (lr _)) ?_
                  refine dr_ev rfl (ev_mv (v := .sl _ _) (lr _)) ?_
                  refine dr_ev rfl (ev_mv (v := .raw _) (lr _)) ?_
                  refine dr_ev rfl (ev_call en61 (lr _) (rend_pure p l ls (i : Int) gp cv hlen hlb) ⟨lr _, lr _, lr _, lr _, trivial⟩) ?_
                  refine dr_ev rfl (ev_load_agg (lr _) rfl ty27 rfl) ?_
                  refine dr_ev rfl (ev_mv (v := .raw _) (lr _)) ?_
                  refine dr_ev rfl (ev_call en39 (lr _) (rwindow_pure p i (by omega)) ⟨lr _, lr _, trivial⟩) ?_
                  refine dr_ev rfl (ev_call en60 (lr _) (rwithin_pure _ _ _) ⟨lr _, lr _, trivial⟩) ?_
                  refine dr_ev rfl (ev_not (lr _)) ?_
                  refine dr_end (sq_nil ?_)
                  refine aw_cond (lr _) (fun c18 => ?_) (fun c18 => ?_)
                  ·
                   have c18' := c18
                   try simp only [qq] at c18'
                   refine aw_seq (aw_region ?_)
                   refine sq_ev rfl (ev_call en21 (lr _) (known_pure) trivial) ?_
                   refine asr (lr _) rfl ?_
                   refine sq_nil (aw_ret ?_)
                   exact retQ_pure (v := .raw _) rfl rfl (lr _)
                  ·
                   have c18' := c18
                   try simp only [qq] at c18'
                   refine aw_skip (aw_region ?_)
                   refine mvr (lr _) rfl ?_
                   refine sq_ev rfl (ev_add (lr _) (lr _) (wr (by omega) (by omega))) ?_
                   refine asr (lr _) rfl ?_
                   refine sq_nil ?_
                   exact ⟨⟨i + 1, by omega, fun j hj => (by by_cases e : j = i; (subst e; simpa [inn] using c18'); exact hin j (by omega))⟩, by simp only; omega, Sub.fin 1 ⟨lr _, lr _, lr _, lr _, lr _, lr _, trivial⟩ rfl (by simp [slotsIn, objsIn, sget, keepS, AObj.inB, AV.inB, AV.inL, AV.inE, inE_map]) (by simp [slotsIn, objsIn, sget, keepS, AObj.inB, AV.inB, AV.inL, AV.inE, inE_map]) (by simp [he0])⟩
                 ·
                  have c17' := c17
                  try simp only [qq] at c17'
                  refine aw_exit (aw_seq ?_)
                  obtain rfl : i = k := by omega
                  have hsd := fail_side wp cv inc hL hpp hff hin
                  have hend : wh p i < endR p l ls i := by rcases hsd.2 with ⟨h1, h2⟩ | ⟨h1, h2⟩ <;> first | exact h2 | (exfalso; omega)
                  refine aw_drawc [8] [10] _ mo (by kernel_rfl) (HSub.refl _) ?_
                  refine dc_ev rfl (ev_load_agg (lr _) rfl ty27 rfl) ?_
                  refine dc_ev rfl (ev_mv (v := .sl _ _) (lr _)) ?_
                  refine dc_ev rfl (ev_mv (v := .sl _ _) (lr _)) ?_
                  refine dc_ev rfl (ev_mv (v := .raw _) (lr _)) ?_
                  refine dc_ev rfl (ev_call en61 (lr _) (rend_pure p l ls (i : Int) gp cv hlen hlb) ⟨lr _, lr _, lr _, lr _, trivial⟩) ?_
                  refine dc_ev rfl (ev_load_agg (lr _) rfl ty27 rfl) ?_
                  refine dc_ev rfl (ev_mv (v := .raw _) (lr _)) ?_
                  refine dc_ev rfl (ev_call en39 (lr _) (rwindow_pure p i hk3) ⟨lr _, lr _, trivial⟩) ?_
                  refine dc_alloc rfl rfl z23 ?_
                  refine dc_ev rfl (ev_as (v := .raw _) (lr _)) ?_
                  refine dc_eff rfl rfl (eff_store rfl (lr _) (lr _) rfl rfl ty23 rfl rfl) (by apply HL.sub; repeat' (first | exact HL.nil _ | apply HL.same | apply HL.tok)) ?_
                  refine dc_nil (aw_seq (aw_seq (aw_region ?_)))
                  refine mvr (lr _) rfl ?_
                  refine sq_ev rfl (ev_eql (lr _) (lr _)) ?_
                  refine sq_nil ?_
                  refine aw_cond (lr _) (fun c19 => ?_) (fun c19 => ?_)
                  ·
                   have c19' := c19
                   try simp only [qq] at c19'
                   first | exact absurd c19 (by decide) | (exfalso; simp at c19; done) | (exfalso; simp at c19; omega)
                  ·
                   have c19' := c19
                   try simp only [qq] at c19'
                   refine aw_skip (aw_seq (aw_region ?_))
                   refine mvr (lr _) rfl ?_
                   refine sq_ev rfl (ev_fieldAddr fo23_1 (lr _)) ?_
                   refine sq_ev rfl (ev_load (lr _) rfl ty3 rfl) ?_
                   refine sq_ev rfl (ev_gtr (lr _) (lr _)) ?_
                   refine mvr (lr _) rfl ?_
                   refine sq_split 149 (lr _) (fun g20 => ?_) (fun g20 => ?_)
                   ·
                    have g20' := g20
                    try simp only [qq] at g20'
                    refine sq_yes rfl rfl (less_b g20) rfl (ev_call en21 (lr _) (known_pure) trivial) ?_
                    refine sq_ev rfl (ev_pickT (v := .raw _) (less_b g20) (lr _)) ?_
                    refine asr (lr _) rfl ?_
                    refine sq_nil (aw_ret ?_)
                    exact retQ_pure (v := .raw _) rfl rfl (lr _)
                   ·
                    have g20' := g20
                    try simp only [qq] at g20'
                    first | exact absurd g20 (by decide) | (exfalso; simp at g20; done) | (exfalso; simp at g20; omega)
               ·
                have g15' := g15
                try simp only [qq] at g15'
                first | exact absurd g15 (by decide) | (exfalso; simp at g15; done) | (exfalso; simp at g15; omega)

/-- **NightProof returns true.** -/
theorem law14 (p : Pl) (l ls : List Int) : APure Tryz.prog 14 [plan p, ints l, ints ls] (B true) := by
  by_cases hs : p.scenes.length ≤ 12
  · by_cases hl : l.length ≤ 12
    · by_cases hls : ls.length ≤ 12
      · cases hk : PlOK p with
        | false => exact law14_bad p l ls hs hl hls hk
        | true =>
          cases hc : (Ris p l && isCh p l) with
          | false => exact law14_cho p l ls hs hl hls hk hc
          | true =>
            obtain ⟨l', rfl, cv, gp, wp⟩ := chosen_up (p := p) (l := l) (by rw [chosenB, Bool.and_assoc, hc, hk]; rfl)
            rw [ints_up]
            have hl' : l'.length ≤ 12 := by simpa [up] using hl
            cases hL : lastsP p l' ls with
            | false => exact law14_last p l' ls hs hl' hls hk hc gp wp cv hL
            | true =>
              cases hf : ffail p l' with
              | none =>
                have hcan : canP p l' = true := by simp [canP, hf]
                cases hfi : canP (pFF p l' ls) l' with
                | true => exact law14_canT p l' ls hs hl' hls hk hc gp wp cv hL hcan hfi
                | false => exact law14_canF p l' ls hs hl' hls hk hc gp wp cv hL hcan hfi
              | some r =>
                obtain ⟨k, f⟩ := r
                have inc := ris_inc (Bool.and_eq_true_iff.1 hc).1
                have hpp := parts_ok hk cv
                obtain ⟨g1, g2, g3⟩ := pF_ok gp wp cv hL l'.length (Nat.le_refl _)
                have hfi : canP (pFF p l' ls) l' = false := by
                  have e : canP (pFF p l' ls) l' = can (pFF p l' ls) l' := canP_can g2 g3
                  rw [e, fits_iff gp wp cv inc hL hpp]
                  cases hr : rfits p l' ls with
                  | false => rfl
                  | true =>
                    have := can_of wp cv inc hL hpp hr
                    rw [can_ffail wp cv, hf] at this; cases this
                have hk3 : k < 3 ∧ (f = 1 ∨ f = 2) := by
                  unfold ffail at hf
                  have key : ∀ j, flt p l' j ≠ 0 → flt p l' j = 1 ∨ flt p l' j = 2 := fun j hj => by
                    unfold flt at hj ⊢
                    split
                    · left; rfl
                    · split
                      · right; rfl
                      · rename_i g1 g2; rw [if_neg g1, if_neg g2] at hj; exact absurd rfl hj
                  split at hf
                  · rename_i g; simp only [Option.some.injEq, Prod.mk.injEq] at hf; obtain ⟨rfl, rfl⟩ := hf; exact ⟨by omega, key _ g⟩
                  · split at hf
                    · rename_i g; simp only [Option.some.injEq, Prod.mk.injEq] at hf; obtain ⟨rfl, rfl⟩ := hf; exact ⟨by omega, key _ g⟩
                    · split at hf
                      · rename_i g; simp only [Option.some.injEq, Prod.mk.injEq] at hf; obtain ⟨rfl, rfl⟩ := hf; exact ⟨by omega, key _ g⟩
                      · cases hf
                rcases hk3.2 with rfl | rfl
                · exact law14_S p l' ls hs hl' hls hk hc gp wp cv hL k hk3.1 hf hfi
                · exact law14_O p l' ls hs hl' hls hk hc gp wp cv hL k hk3.1 hf hfi
      · exact law14_slims p l ls hs hl hls
    · exact law14_slim p l ls hs hl
  · exact law14_long p l ls hs

end Go.Proofs.YtjghdbdiejaacaaGreatDoor
