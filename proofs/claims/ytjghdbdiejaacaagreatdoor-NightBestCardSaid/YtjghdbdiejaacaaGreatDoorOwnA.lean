/-
  A part of the proof: conditions: none beyond each theorem's own.
-/
import Derived.Test.YtjghdbdiejaacaaGreatDoorSpecA
import Derived.Test.YtjghdbdiejaacaaGreatDoorLogicC
import Derived.KernelRfl
import Derived.Lib.LaidTab
import Derived.Lib.ItoaNum
import Derived.Test.YtjghdbdiejaacaaGreatDoorProg
import Derived.Test.YtjghdbdiejaacaaGreatDoorWalkA
import Derived.Test.YtjghdbdiejaacaaGreatDoorWalkF
import Derived.Test.YtjghdbdiejaacaaGreatDoorWalkG
import Derived.ChangeKeysEq
import Derived.Test.YtjghdbdiejaacaaGreatDoorLogicD
import Derived.Test.YtjghdbdiejaacaaGreatDoorLogicA
import Derived.Test.YtjghdbdiejaacaaGreatDoorLogicB
import Derived.Test.YtjghdbdiejaacaaGreatDoorShelf
import Derived.Test.YtjghdbdiejaacaaGreatDoorWalkB
import Derived.Test.YtjghdbdiejaacaaGreatDoorWalkC
import Derived.Test.YtjghdbdiejaacaaGreatDoorWalkD
import Derived.Test.YtjghdbdiejaacaaGreatDoorWalkE
import Derived.Test.YtjghdbdiejaacaaGreatDoorRow
set_option linter.all false
namespace Ni
theorem has_yes {l : List Int} {n : Int} {k : Nat} (h : k < l.length) (e : l[k] = n) : has l n = true := by
  simp only [has, decide_eq_true_eq]; exact e ▸ List.getElem_mem h
theorem has_no {l : List Int} {n : Int} {k : Nat} (hn : ¬ (k : Int) < l.length) (h : ∀ i, (h : i < l.length) → i < k → l[i] ≠ n) : has l n = false := by
  simp only [has, decide_eq_false_iff_not]
  intro hm
  obtain ⟨j, hj, e⟩ := List.getElem_of_mem hm
  exact h j hj (by omega) e
theorem ssum_take {f : Nat → Int} {c : Nat → Bool} {l : List Nat} {k : Nat} (h : k < l.length) : ssum f c (l.take (k + 1)) = ssum f c (l.take k) + (if c l[k] = true then f l[k] else 0) := by
  unfold ssum
  rw [List.take_succ_eq_append_getElem h, List.filter_append, List.map_append, List.sum_append]
  by_cases hc : c l[k] = true <;> simp [hc]
end Ni
namespace Ni
theorem lsts_inc {n : Nat} : ∀ {m : Nat} {now : List Nat}, now.Pairwise (· < ·) → (∀ x ∈ now, x < nxt now) → ∀ l ∈ lsts n m now, l.Pairwise (· < ·)
  | 0, now, h, _, l, hl => by
    simp only [lsts, List.mem_singleton] at hl
    subst hl; exact h
  | m + 1, now, h, hx, l, hl => by
    simp only [lsts] at hl
    obtain ⟨i, _, hl⟩ := mem_fm.1 hl
    refine lsts_inc (m := m) (now := now ++ [nxt now + i]) ?_ ?_ l hl
    · rw [List.pairwise_append]
      refine ⟨h, by simp, fun a ha b hb => ?_⟩
      simp only [List.mem_singleton] at hb
      have := hx a ha; omega
    · intro x hm
      rw [nxt_app]
      rcases List.mem_append.1 hm with hm | hm
      · have := hx x hm; omega
      · simp only [List.mem_singleton] at hm; omega
theorem allC_inc {p : Pl} {l : List Nat} (h : l ∈ allC p) : l.Pairwise (· < ·) := by
  obtain ⟨i, _, h⟩ := mem_fm.1 h
  unfold aA aL at h
  exact lsts_inc List.Pairwise.nil (by simp) l (List.mem_filter.1 h).1
theorem choicesC_inc {p : Pl} {l : List Nat} (h : l ∈ choicesC p) : l.Pairwise (· < ·) := allC_inc (List.mem_filter.1 h).1
theorem ssum_cons (f : Nat → Int) (c : Nat → Bool) (x : Nat) (l : List Nat) : ssum f c (x :: l) = (if c x = true then f x else 0) + ssum f c l := by
  unfold ssum; rw [List.filter_cons]; split
  · simp
  · simp
theorem ssum_split {f : Nat → Int} {c c1 c2 : Nat → Bool} : ∀ {l : List Nat}, (∀ x ∈ l, c x = (c1 x || c2 x) ∧ (c1 x && c2 x) = false) → ssum f c l = ssum f c1 l + ssum f c2 l
  | [], _ => rfl
  | x :: l, h => by
    have ih := ssum_split (f := f) (l := l) fun y hy => h y (List.mem_cons_of_mem _ hy)
    obtain ⟨h1, h2⟩ := h x (by simp)
    rw [ssum_cons, ssum_cons, ssum_cons, ih, h1]
    generalize c1 x = u at h2 ⊢
    generalize c2 x = v at h2 ⊢
    cases u <;> cases v <;> simp at h2 ⊢ <;> omega
theorem ssum_one {f : Nat → Int} {n : Nat} : ∀ {l : List Nat}, l.Pairwise (· < ·) → n ∈ l → ssum f (fun x => decide (x = n)) l = f n
  | [], _, h => by cases h
  | x :: l, h, hm => by
    rw [ssum_cons]
    rw [List.pairwise_cons] at h
    rcases List.mem_cons.1 hm with rfl | hm
    · have : ssum f (fun x => decide (x = n)) l = 0 := by
        unfold ssum
        rw [List.filter_eq_nil_iff.2 (fun y hy => by have := h.1 y hy; simp; omega)]; rfl
      rw [this]; simp
    · have := h.1 n hm
      rw [if_neg (by simp; omega), ssum_one h.2 hm]; omega
section
variable {p : Pl} {l : List Nat}
end
section
variable {p : Pl} {l : List Nat} (wp : WP p) (cv : CV p l) (hc : can p l = true)
include wp cv hc
end
end Ni
namespace Ni
def lsBad (p : Pl) (l : List Nat) (ls : List Int) (i : Nat) (h : i < l.length) : Bool := !inn (ls.getD i 0) (scn p l[i]).least (scn p l[i]).most
def lastsP (p : Pl) (l : List Nat) (ls : List Int) : Bool := decide (l.length = ls.length) && okAll l.length (lsBad p l ls)
def pF (p : Pl) (l : List Nat) (ls : List Int) : Nat → Pl
  | 0 => p
  | i + 1 => fixP (pF p l ls i) (l.getD i 0) (ls.getD i 0)
def pFF (p : Pl) (l : List Nat) (ls : List Int) : Pl := pF p l ls l.length
def endI (p : Pl) (l : List Nat) (ls : List Int) (k : Int) : Nat → Int
  | 0 => p.beg
  | i + 1 => endI p l ls k i + (if (scn p (l.getD i 0)).part ≤ k then ls.getD i 0 else 0)
def endR (p : Pl) (l : List Nat) (ls : List Int) (k : Int) : Int := endI p l ls k l.length
def rfBad (p : Pl) (l : List Nat) (ls : List Int) (k : Nat) (_ : k < 3) : Bool := !inn (endR p l ls k) (wl p k) (wh p k)
def rfits (p : Pl) (l : List Nat) (ls : List Int) : Bool := okAll 3 (rfBad p l ls)
theorem getD_at {α : Type} {l : List α} {i : Nat} (h : i < l.length) (d : α) : l.getD i d = l[i] := by rw [List.getD_eq_getElem?_getD, List.getElem?_eq_getElem h]; rfl
theorem lasts_at {p : Pl} {l : List Nat} {ls : List Int} (h : lastsP p l ls = true) : l.length = ls.length ∧ ∀ i (hi : i < l.length), (scn p l[i]).least ≤ ls.getD i 0 ∧ ls.getD i 0 ≤ (scn p l[i]).most := by
  simp only [lastsP, Bool.and_eq_true, decide_eq_true_eq, okAll_iff] at h
  refine ⟨h.1, fun i hi => ?_⟩
  have := h.2 i hi
  simpa [lsBad, inn] using this
theorem scn_fix {p : Pl} {k x : Nat} {n : Int} (h : k < p.scenes.length) : scn (fixP p k n) x = if x = k then fixS (scn p k) n else scn p x := by
  unfold scn fixP
  simp only [List.getD_eq_getElem?_getD, List.getElem?_set]
  by_cases e : x = k
  · subst e; simp [h, scn_eq h]
  · rw [if_neg (fun h => e h.symm), if_neg e]
theorem pF_fields (p : Pl) (l : List Nat) (ls : List Int) : ∀ i, (pF p l ls i).beg = p.beg ∧ (∀ k, wl (pF p l ls i) k = wl p k) ∧ (∀ k, wh (pF p l ls i) k = wh p k) ∧ (pF p l ls i).scenes.length = p.scenes.length
  | 0 => ⟨rfl, fun _ => rfl, fun _ => rfl, rfl⟩
  | i + 1 => by
    obtain ⟨h1, h2, h3, h4⟩ := pF_fields p l ls i
    exact ⟨h1, h2, h3, by simp only [pF]; rw [fixP_len]; exact h4⟩
theorem pF_part {p : Pl} {l : List Nat} {ls : List Int} (cv : CV p l) : ∀ i, i ≤ l.length → ∀ x, (scn (pF p l ls i) x).part = (scn p x).part
  | 0, _, _ => rfl
  | i + 1, hi, x => by
    have ih := pF_part (ls := ls) cv i (by omega)
    have hl : l.getD i 0 < (pF p l ls i).scenes.length := by rw [(pF_fields p l ls i).2.2.2, getD_at (by omega)]; exact cv.rng _ (List.getElem_mem _)
    simp only [pF, scn_fix hl]
    split
    · rename_i e; subst e; simp only [fixS]; exact ih _
    · exact ih x
theorem pF_len {p : Pl} {l : List Nat} {ls : List Int} (cv : CV p l) (inc : l.Pairwise (· < ·)) : ∀ i, i ≤ l.length → ∀ j (hj : j < l.length), j < i → (scn (pF p l ls i) l[j]).least = ls.getD j 0 ∧ (scn (pF p l ls i) l[j]).most = ls.getD j 0
  | 0, _, j, _, h => by omega
  | i + 1, hi, j, hj, h => by
    have hl : l.getD i 0 < (pF p l ls i).scenes.length := by rw [(pF_fields p l ls i).2.2.2, getD_at (by omega)]; exact cv.rng _ (List.getElem_mem _)
    simp only [pF, scn_fix hl]
    by_cases e : j = i
    · subst e
      rw [if_pos (getD_at hj 0).symm]; exact ⟨rfl, rfl⟩
    · have hne : l[j] ≠ l.getD i 0 := by
        rw [getD_at (by omega)]
        have := List.pairwise_iff_getElem.1 inc j i hj (by omega) (by omega)
        omega
      rw [if_neg hne]
      exact pF_len cv inc i (by omega) j hj (by omega)
theorem pF_ok {p : Pl} {l : List Nat} {ls : List Int} (gp : GP p) (wp : WP p) (cv : CV p l) (h : lastsP p l ls = true) : ∀ i, i ≤ l.length → GP (pF p l ls i) ∧ WP (pF p l ls i) ∧ CV (pF p l ls i) l
  | 0, _ => ⟨gp, wp, cv⟩
  | i + 1, hi => by
    obtain ⟨h1, h2, h3⟩ := pF_ok gp wp cv h i (by omega)
    have hv := (lasts_at h).2 i (by omega)
    have a1 := gp.least (cv.rng _ (List.getElem_mem (show i < l.length by omega)))
    have a2 := gp.most (cv.rng _ (List.getElem_mem (show i < l.length by omega)))
    exact ⟨fixP_gp h1 _ (by omega), fixP_wp h2 _ _, fixP_cv h3 _ _⟩
section
variable {p : Pl} {l : List Nat} {ls : List Int} (gp : GP p) (wp : WP p) (cv : CV p l) (inc : l.Pairwise (· < ·)) (h : lastsP p l ls = true) (hp : ∀ x ∈ l, 0 ≤ (scn p x).part ∧ (scn p x).part ≤ 2)
abbrev sL (p : Pl) (l : List Nat) (ls : List Int) (k : Int) : Int := ssum (fun x => (scn (pFF p l ls) x).least) (fun x => decide ((scn p x).part = k)) l
include cv inc
theorem pl_sL (k : Nat) : pl (pFF p l ls) l k = sL p l ls k ∧ ph (pFF p l ls) l k = sL p l ls k := by
  have e : (fun x => inPart (pFF p l ls) k x) = (fun x => decide ((scn p x).part = k)) := by
    funext x; unfold inPart pFF; rw [pF_part cv _ (Nat.le_refl _)]
  constructor
  · show lsum _ (ofP _ l k) = _
    unfold lsum leasts ofP sL ssum
    rw [show inPart (pFF p l ls) k = fun x => decide ((scn p x).part = k) from e]
  · show hsum _ (ofP _ l k) = _
    unfold hsum mosts ofP sL ssum
    rw [show inPart (pFF p l ls) k = fun x => decide ((scn p x).part = k) from e]
    refine congrArg List.sum (List.map_congr_left fun x hx => ?_)
    obtain ⟨j, hj, rfl⟩ := List.getElem_of_mem (List.mem_filter.1 hx).1
    obtain ⟨h1, h2⟩ := pF_len (ls := ls) cv inc l.length (Nat.le_refl _) j hj hj
    exact h2.trans h1.symm
theorem endI_ssum (k : Int) : ∀ i, i ≤ l.length → endI p l ls k i = p.beg + ssum (fun x => (scn (pFF p l ls) x).least) (fun x => decide ((scn p x).part ≤ k)) (l.take i)
  | 0, _ => by simp [endI, ssum]
  | i + 1, hi => by
    rw [endI, endI_ssum k i (by omega), ssum_take (by omega), getD_at (by omega) 0]
    obtain ⟨h1, h2⟩ := pF_len (ls := ls) cv inc l.length (Nat.le_refl _) i (by omega) (by omega)
    have h1 : (scn (pFF p l ls) l[i]).least = ls.getD i 0 := h1
    by_cases c : (scn p l[i]).part ≤ k
    · rw [if_pos c, if_pos (by simpa using c), h1]; omega
    · rw [if_neg c, if_neg (by simpa using c)]; omega
theorem endR_ssum (k : Int) : endR p l ls k = p.beg + ssum (fun x => (scn (pFF p l ls) x).least) (fun x => decide ((scn p x).part ≤ k)) l := by
  have := endI_ssum (ls := ls) cv inc k l.length (Nat.le_refl _)
  rwa [List.take_length] at this
include hp
theorem endR_eq : endR p l ls 0 = p.beg + sL p l ls 0 ∧ endR p l ls 1 = p.beg + sL p l ls 0 + sL p l ls 1 ∧ endR p l ls 2 = p.beg + sL p l ls 0 + sL p l ls 1 + sL p l ls 2 := by
  have key : ∀ k : Int, ssum (fun x => (scn (pFF p l ls) x).least) (fun x => decide ((scn p x).part ≤ k + 1)) l = ssum (fun x => (scn (pFF p l ls) x).least) (fun x => decide ((scn p x).part ≤ k)) l + sL p l ls (k + 1) := fun k => by
    refine ssum_split fun x hx => ⟨?_, ?_⟩
    · rw [Bool.eq_iff_iff]; simp only [Bool.or_eq_true, decide_eq_true_eq]; omega
    · rw [Bool.and_eq_false_iff]; simp only [decide_eq_false_iff_not]; omega
  have hm : ssum (fun x => (scn (pFF p l ls) x).least) (fun x => decide ((scn p x).part ≤ -1)) l = 0 := by
    unfold ssum
    rw [List.filter_eq_nil_iff.2 (fun x hx => by have := hp x hx; simp; omega)]; rfl
  have k0 := key (-1); have k1 := key 0; have k2 := key 1
  rw [hm] at k0
  refine ⟨?_, ?_, ?_⟩
  · rw [endR_ssum cv inc]; simp only [Int.reduceNeg, Int.reduceAdd] at k0; omega
  · rw [endR_ssum cv inc]; simp only [Int.reduceNeg, Int.reduceAdd] at k0 k1; omega
  · rw [endR_ssum cv inc]; simp only [Int.reduceNeg, Int.reduceAdd] at k0 k1 k2; omega
include gp wp h
theorem fits_iff : can (pFF p l ls) l = rfits p l ls := by
  obtain ⟨g1, g2, g3⟩ := pF_ok gp wp cv h l.length (Nat.le_refl _)
  obtain ⟨q1, q2, q3, q4⟩ := pF_fields p l ls l.length
  have q1 : (pFF p l ls).beg = p.beg := q1
  obtain ⟨s0, t0⟩ := pl_sL (ls := ls) cv inc 0
  obtain ⟨s1, t1⟩ := pl_sL (ls := ls) cv inc 1
  obtain ⟨s2, t2⟩ := pl_sL (ls := ls) cv inc 2
  obtain ⟨e0, e1, e2⟩ := endR_eq (ls := ls) cv inc hp
  have w0 : (pFF p l ls).s0l = wl p 0 := q2 0
  have w0' : (pFF p l ls).s0h = wh p 0 := q3 0
  have w1 : (pFF p l ls).s1l = wl p 1 := q2 1
  have w1' : (pFF p l ls).s1h = wh p 1 := q3 1
  have w2 : (pFF p l ls).dl = wl p 2 := q2 2
  have w2' : (pFF p l ls).dh = wh p 2 := q3 2
  have z0 : ((0 : Nat) : Int) = 0 := rfl
  have z1 : ((1 : Nat) : Int) = 1 := rfl
  have z2 : ((2 : Nat) : Int) = 2 := rfl
  rw [z0] at s0 t0; rw [z1] at s1 t1; rw [z2] at s2 t2
  rw [Bool.eq_iff_iff]
  refine (can_fit g2 g3).trans ?_
  unfold rfits
  rw [okAll_iff]
  constructor
  · rintro ⟨a, b, c, h1, h2, h3, h4, h5, h6, h7, h8, h9, h10, h11, h12⟩ k hk
    change (pFF p l ls).s0l ≤ a at h1; change a ≤ (pFF p l ls).s0h at h2; change (pFF p l ls).s1l ≤ b at h3; change b ≤ (pFF p l ls).s1h at h4; change (pFF p l ls).dl ≤ c at h5; change c ≤ (pFF p l ls).dh at h6
    change pl (pFF p l ls) l 0 ≤ a - (pFF p l ls).beg at h7; change a - (pFF p l ls).beg ≤ ph (pFF p l ls) l 0 at h8
    change pl (pFF p l ls) l 1 ≤ b - a at h9; change b - a ≤ ph (pFF p l ls) l 1 at h10; change pl (pFF p l ls) l 2 ≤ c - b at h11; change c - b ≤ ph (pFF p l ls) l 2 at h12
    unfold rfBad inn
    rcases k with _ | _ | _ | k
    · simp only [z0, Bool.not_eq_false', Bool.and_eq_true, decide_eq_true_eq]; omega
    · simp only [Nat.zero_add, z1, Bool.not_eq_false', Bool.and_eq_true, decide_eq_true_eq]; omega
    · simp only [Nat.zero_add, Nat.reduceAdd, z2, Bool.not_eq_false', Bool.and_eq_true, decide_eq_true_eq]; omega
    · omega
  · intro hk
    have k0 := hk 0 (by omega); have k1 := hk 1 (by omega); have k2 := hk 2 (by omega)
    simp only [rfBad, inn, z0, z1, z2, Bool.not_eq_false', Bool.and_eq_true, decide_eq_true_eq] at k0 k1 k2
    refine ⟨endR p l ls 0, endR p l ls 1, endR p l ls 2, ?_⟩
    show Fit (pFF p l ls) l _ _ _
    constructor <;> omega
end
end Ni
namespace Ni
theorem nxt_lt {now : List Nat} {x : Nat} (h : ∀ y ∈ now, y < x) : nxt now ≤ x := nxt_le h
theorem mem_lsts {n : Nat} : ∀ (r now : List Nat), (now ++ r).Pairwise (· < ·) → (∀ x ∈ r, x < n) → now ++ r ∈ lsts n r.length now
  | [], now, _, _ => by simp [lsts]
  | x :: r, now, h, hx => by
    have h1 : nxt now ≤ x := nxt_lt fun y hy => by
      rw [List.pairwise_append] at h
      exact h.2.2 y hy x (by simp)
    have h2 := hx x (by simp)
    simp only [List.length_cons, lsts]
    refine mem_fm.2 ⟨x - nxt now, by omega, ?_⟩
    rw [show nxt now + (x - nxt now) = x by omega]
    have := mem_lsts r (now ++ [x]) (by simpa using h) fun y hy => hx y (List.mem_cons_of_mem _ hy)
    simpa using this
theorem inc_len {n : Nat} {l : List Nat} (h : l.Pairwise (· < ·)) (hx : ∀ x ∈ l, x < n) : l.length ≤ n := by
  have key : ∀ i (hi : i < l.length), i ≤ l[i] := by
    intro i
    induction i with
    | zero => intro _; omega
    | succ i ih =>
      intro hi
      have h1 := ih (by omega)
      have h2 := List.pairwise_iff_getElem.1 h i (i + 1) (by omega) hi (by omega)
      omega
  rcases Nat.eq_zero_or_pos l.length with h0 | h0
  · omega
  · have h1 := key (l.length - 1) (by omega)
    have h2 := hx _ (List.getElem_mem (show l.length - 1 < l.length by omega))
    omega
theorem mem_allC {p : Pl} {l : List Nat} (h : l.Pairwise (· < ·)) (hx : ∀ x ∈ l, x < p.scenes.length) (hc : isC p l = true) : l ∈ allC p := by
  have hl := inc_len h hx
  refine mem_fm.2 ⟨p.scenes.length - l.length, by omega, ?_⟩
  unfold aA aL
  rw [show p.scenes.length - (p.scenes.length - l.length) = l.length by omega]
  exact List.mem_filter.2 ⟨by simpa using mem_lsts (n := p.scenes.length) l [] (by simpa using h) hx, hc⟩
theorem allC_iff {p : Pl} {l : List Nat} : l ∈ allC p ↔ l.Pairwise (· < ·) ∧ (∀ x ∈ l, x < p.scenes.length) ∧ isC p l = true := by
  constructor
  · intro h
    refine ⟨allC_inc h, ?_⟩
    obtain ⟨i, _, h⟩ := mem_fm.1 h
    unfold aA aL at h
    obtain ⟨h1, h2⟩ := List.mem_filter.1 h
    exact ⟨(lsts_mem (by simp) l h1).2, h2⟩
  · rintro ⟨h1, h2, h3⟩; exact mem_allC h1 h2 h3
theorem ris_inc {p : Pl} {l : List Nat} (h : Ris p (up l) = true) : l.Pairwise (· < ·) := by
  unfold Ris at h
  rw [okAll_iff] at h
  have hl : (up l).length = l.length := by simp [up]
  have hs : ∀ i (h1 : i < l.length) (h2 : 0 < i), l[i - 1] < l[i] := fun i h1 h2 => by
    have := h i (by rw [hl]; exact h1)
    simp only [risBad, Bool.or_eq_false_iff, Bool.and_eq_false_iff, decide_eq_false_iff_not] at this
    have e : ∀ j (hj : j < l.length), (up l)[j]'(by rw [hl]; exact hj) = (l[j] : Int) := fun j hj => by simp [up]
    have h3 := this.2
    rw [e i h1, e (i - 1) (by omega)] at h3
    omega
  have step : ∀ d i (h1 : i + d + 1 < l.length), l[i] < l[i + d + 1] := by
    intro d
    induction d with
    | zero => intro i h1; have := hs (i + 1) h1 (by omega); simpa using this
    | succ d ih =>
      intro i h1
      have a := ih i (by omega)
      have b := hs (i + (d + 1) + 1) h1 (by omega)
      simp only [Nat.add_sub_cancel] at b
      have e : i + (d + 1) = i + d + 1 := by omega
      simp only [e] at b
      exact Nat.lt_trans a b
  refine List.pairwise_iff_getElem.2 fun i j h1 h2 h3 => ?_
  obtain ⟨d, rfl⟩ : ∃ d, j = i + d + 1 := ⟨j - i - 1, by omega⟩
  exact step d i h2
theorem inc_ris {p : Pl} {l : List Nat} (h : l.Pairwise (· < ·)) (hx : ∀ x ∈ l, x < p.scenes.length) : Ris p (up l) = true := by
  unfold Ris
  rw [okAll_iff]
  have hl : (up l).length = l.length := by simp [up]
  have e : ∀ j (hj : j < l.length), (up l)[j]'(by rw [hl]; exact hj) = (l[j] : Int) := fun j hj => by simp [up]
  intro i hi
  have hi' : i < l.length := by rw [hl] at hi; exact hi
  have h1 := hx _ (List.getElem_mem hi')
  simp only [risBad, Bool.or_eq_false_iff, Bool.and_eq_false_iff, decide_eq_false_iff_not, Bool.not_eq_false', isSc, inn, Bool.and_eq_true, decide_eq_true_eq]
  rw [e i hi']
  refine ⟨by omega, ?_⟩
  rcases Nat.eq_zero_or_pos i with h0 | h0
  · left; omega
  · right; rw [e (i - 1) (by omega)]
    have := List.pairwise_iff_getElem.1 h (i - 1) i (by omega) hi' (by omega)
    omega
theorem lsts_pre {n : Nat} : ∀ {m : Nat} {now l : List Nat}, l ∈ lsts n m now → ∃ r, l = now ++ r
  | 0, now, l, h => by simp only [lsts, List.mem_singleton] at h; exact ⟨[], by simp [h]⟩
  | m + 1, now, l, h => by
    simp only [lsts] at h
    obtain ⟨i, _, h⟩ := mem_fm.1 h
    obtain ⟨r, hr⟩ := lsts_pre h
    exact ⟨(nxt now + i) :: r, by rw [hr]; simp⟩
theorem fm_pairwise {α : Type} {R : α → α → Prop} {n : Nat} {f : Nat → List α} (h1 : ∀ i, i < n → (f i).Pairwise R) (h2 : ∀ i j, i < j → j < n → ∀ a ∈ f i, ∀ b ∈ f j, R a b) : (fm n f).Pairwise R := by
  induction n with
  | zero => exact List.Pairwise.nil
  | succ n ih =>
    rw [fm_succ, List.pairwise_append]
    refine ⟨ih (fun i hi => h1 i (by omega)) (fun i j hij hj => h2 i j hij (by omega)), h1 n (by omega), fun a ha b hb => ?_⟩
    obtain ⟨i, hi, ha⟩ := mem_fm.1 ha
    exact h2 i n hi (by omega) a ha b hb
theorem aA_len2 {p : Pl} {i : Nat} {l : List Nat} (h : l ∈ aA p i) : l.length = p.scenes.length - i := by
  have := (lsts_mem (by simp) l (List.mem_filter.1 h).1).1
  simpa using this
end Ni
namespace Ni
section
variable {p : Pl} {l : List Nat} {ls : List Int} (gp : GP p) (wp : WP p) (cv : CV p l) (inc : l.Pairwise (· < ·)) (h : lastsP p l ls = true) (hp : ∀ x ∈ l, 0 ≤ (scn p x).part ∧ (scn p x).part ≤ 2)
include cv inc h
theorem pFF_bd : ∀ x ∈ l, (scn p x).least ≤ (scn (pFF p l ls) x).least ∧ (scn (pFF p l ls) x).least ≤ (scn p x).most := fun x hx => by
  obtain ⟨j, hj, rfl⟩ := List.getElem_of_mem hx
  obtain ⟨h1, _⟩ := pF_len (ls := ls) cv inc l.length (Nat.le_refl _) j hj hj
  have h1 : (scn (pFF p l ls) l[j]).least = ls.getD j 0 := h1
  rw [h1]; exact (lasts_at h).2 j hj
theorem sL_bd (k : Nat) : pl p l k ≤ sL p l ls k ∧ sL p l ls k ≤ ph p l k := by
  have e : (fun x => inPart p k x) = (fun x => decide ((scn p x).part = k)) := rfl
  constructor
  · show lsum p (ofP p l k) ≤ _
    unfold lsum leasts ofP sL ssum
    exact sum_le fun x hx => (pFF_bd cv inc h x (List.mem_filter.1 hx).1).1
  · show _ ≤ hsum p (ofP p l k)
    unfold hsum mosts ofP sL ssum
    exact sum_le fun x hx => (pFF_bd cv inc h x (List.mem_filter.1 hx).1).2
include hp
theorem ends_bd : (pl p l 0 ≤ endR p l ls 0 - p.beg ∧ endR p l ls 0 - p.beg ≤ ph p l 0) ∧ (pl p l 1 ≤ endR p l ls 1 - endR p l ls 0 ∧ endR p l ls 1 - endR p l ls 0 ≤ ph p l 1) ∧ (pl p l 2 ≤ endR p l ls 2 - endR p l ls 1 ∧ endR p l ls 2 - endR p l ls 1 ≤ ph p l 2) := by
  obtain ⟨e0, e1, e2⟩ := endR_eq (ls := ls) cv inc hp
  have b0 := sL_bd cv inc h 0; have b1 := sL_bd cv inc h 1; have b2 := sL_bd cv inc h 2
  simp only [Int.natCast_zero, show ((1 : Nat) : Int) = 1 from rfl, show ((2 : Nat) : Int) = 2 from rfl] at b0 b1 b2
  omega
theorem fit_of (hf : rfits p l ls = true) : Fit p l (endR p l ls 0) (endR p l ls 1) (endR p l ls 2) := by
  obtain ⟨b0, b1, b2⟩ := ends_bd cv inc h hp
  unfold rfits at hf
  rw [okAll_iff] at hf
  have k0 := hf 0 (by omega); have k1 := hf 1 (by omega); have k2 := hf 2 (by omega)
  have z0 : ((0 : Nat) : Int) = 0 := rfl
  have z1 : ((1 : Nat) : Int) = 1 := rfl
  have z2 : ((2 : Nat) : Int) = 2 := rfl
  simp only [rfBad, inn, z0, z1, z2, Bool.not_eq_false', Bool.and_eq_true, decide_eq_true_eq] at k0 k1 k2
  have w0 : wl p 0 = p.s0l := rfl
  have w0' : wh p 0 = p.s0h := rfl
  have w1 : wl p 1 = p.s1l := rfl
  have w1' : wh p 1 = p.s1h := rfl
  have w2 : wl p 2 = p.dl := rfl
  have w2' : wh p 2 = p.dh := rfl
  constructor <;> omega
include wp
theorem can_of (hf : rfits p l ls = true) : can p l = true := (can_fit wp cv).2 ⟨_, _, _, fit_of cv inc h hp hf⟩
end
end Ni
namespace Ni
def lexB : List Int → List Int → Bool
  | x :: a, y :: b => if x = y then lexB a b else decide (x < y)
  | _, _ => false
def soonB (a b : List Int) : Bool := if a.length ≠ b.length then decide (b.length < a.length) else lexB a b
theorem lexB_at {u v : Int} {x y : List Int} (h : u ≠ v) : ∀ c : List Int, lexB (c ++ u :: x) (c ++ v :: y) = decide (u < v)
  | [] => by simp [lexB, h]
  | z :: c => by simp [lexB, lexB_at h c]
theorem lexB_self : ∀ a : List Int, lexB a a = false
  | [] => rfl
  | x :: a => by simp [lexB, lexB_self a]
theorem lexB_asymm : ∀ {a b : List Int}, lexB a b = true → lexB b a = false
  | [], _, h => by simp [lexB] at h
  | _ :: _, [], h => by simp [lexB] at h
  | x :: a, y :: b, h => by
    unfold lexB at h ⊢
    by_cases e : x = y
    · rw [if_pos e] at h; rw [if_pos e.symm]; exact lexB_asymm h
    · rw [if_neg e] at h; rw [if_neg (fun k => e k.symm)]
      simp only [decide_eq_true_eq] at h
      simp only [decide_eq_false_iff_not]; omega
theorem soonB_self (a : List Int) : soonB a a = false := by unfold soonB; rw [if_neg (by simp)]; exact lexB_self a
theorem soonB_asymm {a b : List Int} (h : soonB a b = true) : soonB b a = false := by
  unfold soonB at h ⊢
  by_cases e : a.length = b.length
  · rw [if_neg (by simpa using e)] at h; rw [if_neg (by simpa using e.symm)]; exact lexB_asymm h
  · rw [if_pos e] at h; rw [if_pos (fun k => e k.symm)]
    simp only [decide_eq_true_eq] at h
    simp only [decide_eq_false_iff_not]; omega
theorem lexB_diff {a b : List Int} {k : Nat} (ha : k < a.length) (hb : k < b.length) (h : ∀ j, (h : j < k) → a[j]'(by omega) = b[j]'(by omega)) (hd : a[k] ≠ b[k]) : lexB a b = decide (a[k] < b[k]) := by
  have e : a.take k = b.take k := List.ext_getElem (by simp; omega) fun i h1 h2 => by
    rw [List.getElem_take, List.getElem_take]
    exact h i (by simp at h1; omega)
  have e1 : a = a.take k ++ a[k] :: a.drop (k + 1) := by rw [List.getElem_cons_drop, List.take_append_drop]
  have e2 : b = a.take k ++ b[k] :: b.drop (k + 1) := by rw [e, List.getElem_cons_drop, List.take_append_drop]
  have := lexB_at (x := a.drop (k + 1)) (y := b.drop (k + 1)) hd (a.take k)
  rwa [← e1, ← e2] at this
theorem lexB_same {a b : List Int} (hl : a.length = b.length) (h : ∀ j, (h : j < a.length) → a[j] = b[j]'(by omega)) : lexB a b = false := by
  have : a = b := List.ext_getElem hl fun i h1 h2 => h i h1
  rw [this]; exact lexB_self b
theorem lexB_ex : ∀ {a b : List Int}, lexB a b = true → a.length = b.length → ∃ k, ∃ ha : k < a.length, ∃ hb : k < b.length, (∀ j, (h : j < k) → a[j] = b[j]) ∧ a[k] < b[k]
  | [], _, h, _ => by simp [lexB] at h
  | _ :: _, [], h, _ => by simp [lexB] at h
  | x :: a, y :: b, h, hl => by
    unfold lexB at h
    by_cases e : x = y
    · rw [if_pos e] at h
      obtain ⟨k, ha, hb, h1, h2⟩ := lexB_ex h (by simpa using hl)
      refine ⟨k + 1, by simp; omega, by simp; omega, fun j hj => ?_, by simpa using h2⟩
      rcases j with _ | j
      · simpa using e
      · simpa using h1 j (by omega)
    · rw [if_neg e] at h
      exact ⟨0, by simp, by simp, fun j hj => by omega, by simpa using h⟩
theorem lsts_lexB {n : Nat} : ∀ (m : Nat) (now : List Nat), (lsts n m now).Pairwise fun a b => lexB (up a) (up b) = true
  | 0, now => by simp [lsts]
  | m + 1, now => by
    simp only [lsts]
    refine fm_pairwise (fun i _ => lsts_lexB m _) fun i j hij _ a ha b hb => ?_
    obtain ⟨x, rfl⟩ := lsts_pre ha
    obtain ⟨y, rfl⟩ := lsts_pre hb
    have := lexB_at (u := ((nxt now + i : Nat) : Int)) (v := ((nxt now + j : Nat) : Int)) (x := up x) (y := up y) (by omega) (up now)
    have e1 : up (now ++ [nxt now + i] ++ x) = up now ++ ((nxt now + i : Nat) : Int) :: up x := by simp [up]
    have e2 : up (now ++ [nxt now + j] ++ y) = up now ++ ((nxt now + j : Nat) : Int) :: up y := by simp [up]
    rw [e1, e2, this]; exact decide_eq_true (by omega)
theorem allC_orderB (p : Pl) : (allC p).Pairwise fun a b => soonB (up a) (up b) = true := by
  refine fm_pairwise (fun i _ => ?_) fun i j hij hj a ha b hb => ?_
  · unfold aA
    refine List.Pairwise.filter _ ?_
    unfold aL
    refine List.Pairwise.imp_of_mem ?_ (lsts_lexB _ _)
    intro a b ha hb hab
    have h1 := (lsts_mem (by simp) a ha).1
    have h2 := (lsts_mem (by simp) b hb).1
    unfold soonB
    rw [if_neg (by simp [up]; omega)]
    exact hab
  · have h1 := aA_len2 ha
    have h2 := aA_len2 hb
    unfold soonB
    rw [if_pos (by simp [up]; omega)]
    simp [up]; omega
theorem choicesC_order (p : Pl) : (choicesC p).Pairwise fun a b => soonB (up a) (up b) = true := (allC_orderB p).filter _
theorem inc_ext : ∀ {l m : List Nat}, l.Pairwise (· < ·) → m.Pairwise (· < ·) → (∀ x, x ∈ l ↔ x ∈ m) → l = m
  | [], [], _, _, _ => rfl
  | [], y :: m, _, _, h => by have := (h y).2 (by simp); cases this
  | x :: l, [], _, _, h => by have := (h x).1 (by simp); cases this
  | x :: l, y :: m, hl, hm, h => by
    rw [List.pairwise_cons] at hl hm
    have e : x = y := by
      rcases List.mem_cons.1 ((h x).1 (by simp)) with h1 | h1
      · exact h1
      · rcases List.mem_cons.1 ((h y).2 (by simp)) with h2 | h2
        · exact h2.symm
        · have := hm.1 x h1; have := hl.1 y h2; omega
    subst e
    congr 1
    refine inc_ext hl.2 hm.2 fun z => ⟨fun hz => ?_, fun hz => ?_⟩
    · rcases List.mem_cons.1 ((h z).1 (List.mem_cons_of_mem _ hz)) with h1 | h1
      · subst h1; have := hl.1 z hz; omega
      · exact h1
    · rcases List.mem_cons.1 ((h z).2 (List.mem_cons_of_mem _ hz)) with h1 | h1
      · subst h1; have := hm.1 z hz; omega
      · exact h1
def subsL : List Nat → List (List Nat)
  | [] => [[]]
  | x :: xs => subsL xs ++ (subsL xs).map (x :: ·)
theorem subsL_len : ∀ l, (subsL l).length = 2 ^ l.length
  | [] => rfl
  | x :: l => by rw [subsL, List.length_append, List.length_map, subsL_len l, List.length_cons, Nat.pow_succ]; omega
theorem mem_subsL {q : Nat → Bool} : ∀ l : List Nat, l.filter q ∈ subsL l
  | [] => by simp [subsL]
  | x :: l => by
    rw [List.filter_cons, subsL]
    split
    · exact List.mem_append_right _ (List.mem_map.2 ⟨_, mem_subsL l, rfl⟩)
    · exact List.mem_append_left _ (mem_subsL l)
theorem nodup_len {α : Type} [DecidableEq α] : ∀ {l m : List α}, l.Nodup → (∀ x ∈ l, x ∈ m) → l.length ≤ m.length
  | [], _, _, _ => Nat.zero_le _
  | x :: l, m, hn, hs => by
    rw [List.nodup_cons] at hn
    have hx := hs x (by simp)
    have h1 := nodup_len (l := l) (m := m.erase x) hn.2 fun y hy => by
      have hne : y ≠ x := fun e => hn.1 (e ▸ hy)
      exact (List.mem_erase_of_ne hne).2 (hs y (List.mem_cons_of_mem _ hy))
    rw [List.length_erase_of_mem hx] at h1
    have := List.length_pos_of_mem hx
    simp only [List.length_cons]; omega
def looseL (p : Pl) : List Nat := (List.range p.scenes.length).filter fun x => (scn p x).loose
theorem looseL_len (p : Pl) : (looseL p).length = loosies p.scenes := by
  unfold looseL loosies
  have key : ∀ l : List Sc, ((List.range l.length).filter fun x => (l.getD x default).loose).length = l.countP (·.loose) := by
    intro l
    induction l with
    | nil => rfl
    | cons a l ih =>
      rw [List.length_cons, List.range_succ_eq_map, List.filter_cons, List.countP_cons]
      have e : ((List.map Nat.succ (List.range l.length)).filter fun x => ((a :: l).getD x default).loose).length = ((List.range l.length).filter fun x => (l.getD x default).loose).length := by
        rw [List.filter_map, List.length_map]; rfl
      have e0 : (a :: l).getD 0 default = a := rfl
      rw [e0]
      split
      · rw [List.length_cons, e, ih]
      · rw [e, ih]; rfl
  exact key p.scenes
theorem allC_has {p : Pl} {l : List Nat} (h : l ∈ allC p) {x : Nat} (hx : x < p.scenes.length) (hl : (scn p x).loose = false) : x ∈ l := by
  obtain ⟨_, _, hc⟩ := allC_iff.1 h
  unfold isC isCh at hc
  rw [okAll_iff] at hc
  have := hc x hx
  simp only [chBad, Bool.or_eq_false_iff, Bool.and_eq_false_iff, Bool.not_eq_false'] at this
  rw [scn_eq hx] at hl
  rcases this.1 with g | g
  · simp only [has, up, decide_eq_true_eq, List.mem_map] at g
    obtain ⟨y, hy, e⟩ := g
    obtain rfl : y = x := by omega
    exact hy
  · rw [hl] at g; cases g
theorem allC_64 {p : Pl} (ok : PlOK p = true) : (allC p).length ≤ 64 := by
  have hlo : (looseL p).length ≤ 6 := by
    rw [looseL_len]
    simp only [PlOK, Bool.and_eq_true, decide_eq_true_eq] at ok
    exact ok.2.2
  have hp : (looseL p).Pairwise (· < ·) := List.Pairwise.filter _ List.pairwise_lt_range
  have hf : ∀ l ∈ allC p, l.filter (fun x => (scn p x).loose) = (looseL p).filter fun x => decide (x ∈ l) := fun l hl => by
    obtain ⟨h1, h2, h3⟩ := allC_iff.1 hl
    refine inc_ext (h1.filter _) (hp.filter _) fun x => ?_
    simp only [List.mem_filter, looseL, List.mem_range, decide_eq_true_eq]
    constructor
    · rintro ⟨a, b⟩; exact ⟨⟨h2 x a, b⟩, a⟩
    · rintro ⟨⟨a, b⟩, c⟩; exact ⟨c, b⟩
  have hn : (allC p).Nodup := (allC_orderB p).imp fun {a b} h e => by subst e; rw [soonB_self] at h; cases h
  have hinj : ((allC p).map fun l => l.filter fun x => (scn p x).loose).Nodup := by
    refine List.pairwise_map.2 (List.Pairwise.imp_of_mem (fun {a b} ha hb hab e => hab ?_) hn)
    obtain ⟨a1, a2, a3⟩ := allC_iff.1 ha
    obtain ⟨b1, b2, b3⟩ := allC_iff.1 hb
    refine inc_ext a1 b1 fun x => ⟨fun hx => ?_, fun hx => ?_⟩
    · cases hl : (scn p x).loose with
      | false => exact allC_has hb (a2 x hx) hl
      | true =>
        have : x ∈ a.filter fun x => (scn p x).loose := List.mem_filter.2 ⟨hx, hl⟩
        rw [e] at this; exact (List.mem_filter.1 this).1
    · cases hl : (scn p x).loose with
      | false => exact allC_has ha (b2 x hx) hl
      | true =>
        have : x ∈ b.filter fun x => (scn p x).loose := List.mem_filter.2 ⟨hx, hl⟩
        rw [← e] at this; exact (List.mem_filter.1 this).1
  have := nodup_len (m := subsL (looseL p)) hinj fun x hx => by
    obtain ⟨l, hl, rfl⟩ := List.mem_map.1 hx
    rw [hf l hl]; exact mem_subsL _
  rw [List.length_map, subsL_len] at this
  have h2 : 2 ^ (looseL p).length ≤ 2 ^ 6 := Nat.pow_le_pow_right (by decide) hlo
  omega
theorem choicesC_64 {p : Pl} (ok : PlOK p = true) : (choicesC p).length ≤ 64 := Nat.le_trans (List.length_filter_le _ _) (allC_64 ok)
end Ni
namespace Ni
section
variable {p : Pl} {l : List Nat} {k : Nat}
theorem fix_part (hk : k < p.scenes.length) (n : Int) (x : Nat) : (scn (fixP p k n) x).part = (scn p x).part := by
  rw [scn_fix hk]; split
  · rename_i e; subst e; rfl
  · rfl
theorem fix_of (hk : k < p.scenes.length) (n : Int) (j : Int) : ofP (fixP p k n) l j = ofP p l j :=
  List.filter_congr fun x _ => by unfold inPart; rw [fix_part hk]
theorem fix_sum (cv : CV p l) (inc : l.Pairwise (· < ·)) (hm : k ∈ l) (n : Int) (j : Nat) :
    pl (fixP p k n) l j = pl p l j + (if (scn p k).part = (j : Int) then n - (scn p k).least else 0) ∧ ph (fixP p k n) l j = ph p l j + (if (scn p k).part = (j : Int) then n - (scn p k).most else 0) := by
  have hk := cv.rng k hm
  have key : ∀ (f g : Nat → Int), (∀ x, x ≠ k → g x = f x) → ssum g (inPart p j) l = ssum f (inPart p j) l + (if (scn p k).part = (j : Int) then g k - f k else 0) := by
    intro f g hfg
    have h1 := ssum_split (f := f) (c := inPart p j) (c1 := fun x => decide (x = k) && inPart p j k) (c2 := fun x => !decide (x = k) && inPart p j x) (l := l) fun x _ => by
      by_cases e : x = k
      · subst e; simp
      · simp [e]
    have h2 := ssum_split (f := g) (c := inPart p j) (c1 := fun x => decide (x = k) && inPart p j k) (c2 := fun x => !decide (x = k) && inPart p j x) (l := l) fun x _ => by
      by_cases e : x = k
      · subst e; simp
      · simp [e]
    have h3 : ssum g (fun x => !decide (x = k) && inPart p j x) l = ssum f (fun x => !decide (x = k) && inPart p j x) l := by
      unfold ssum
      refine congrArg List.sum (List.map_congr_left fun x hx => hfg x ?_)
      have := (List.mem_filter.1 hx).2
      rintro rfl; simp at this
    have h4 : ∀ f : Nat → Int, ssum f (fun x => decide (x = k) && inPart p j k) l = if (scn p k).part = (j : Int) then f k else 0 := fun f => by
      by_cases e : (scn p k).part = (j : Int)
      · have : inPart p j k = true := by simpa [inPart] using e
        simp only [this, Bool.and_true]
        rw [if_pos e]; exact ssum_one inc hm
      · have : inPart p j k = false := by simpa [inPart] using e
        simp only [this, Bool.and_false]
        rw [if_neg e]; unfold ssum; rw [List.filter_eq_nil_iff.2 (by simp)]; rfl
    rw [h1, h2, h3, h4 f, h4 g]
    split <;> omega
  constructor
  · have := key (fun x => (scn p x).least) (fun x => (scn (fixP p k n) x).least) (fun x hx => by simp only [scn_fix hk, if_neg hx])
    simp only [scn_fix hk, if_true] at this
    unfold pl lsum leasts
    rw [fix_of hk]
    have e2 : (fixS (scn p k) n).least = n := rfl
    rw [e2] at this
    simp only [scn_fix hk]
    exact this
  · have := key (fun x => (scn p x).most) (fun x => (scn (fixP p k n) x).most) (fun x hx => by simp only [scn_fix hk, if_neg hx])
    simp only [scn_fix hk, if_true] at this
    unfold ph hsum mosts
    rw [fix_of hk]
    have e2 : (fixS (scn p k) n).most = n := rfl
    rw [e2] at this
    simp only [scn_fix hk]
    exact this
theorem can_fix_le (wp : WP p) (cv : CV p l) (inc : l.Pairwise (· < ·)) (hm : k ∈ l) {n : Int} (h1 : (scn p k).least ≤ n) (h2 : n ≤ (scn p k).most) (hc : can (fixP p k n) l = true) : can p l = true := by
  obtain ⟨a, b, c, f⟩ := (can_fit (fixP_wp wp k n) (fixP_cv cv k n)).1 hc
  obtain ⟨g1, g2, g3, g4, g5, g6, g7, g8, g9, g10, g11, g12⟩ := f
  have s0 := fix_sum cv inc hm n 0; have s1 := fix_sum cv inc hm n 1; have s2 := fix_sum cv inc hm n 2
  have hb : (fixP p k n).beg = p.beg := rfl
  rw [hb] at g7 g8
  refine (can_fit wp cv).2 ⟨a, b, c, ⟨g1, g2, g3, g4, g5, g6, ?_, ?_, ?_, ?_, ?_, ?_⟩⟩
  · have := s0.1; split at this <;> omega
  · have := s0.2; split at this <;> omega
  · have := s1.1; split at this <;> omega
  · have := s1.2; split at this <;> omega
  · have := s2.1; split at this <;> omega
  · have := s2.2; split at this <;> omega
theorem can_fix_ex (wp : WP p) (cv : CV p l) (inc : l.Pairwise (· < ·)) (hm : k ∈ l) (hpk : 0 ≤ (scn p k).part ∧ (scn p k).part ≤ 2) (hc : can p l = true) : ∃ v, (scn p k).least ≤ v ∧ v ≤ (scn p k).most ∧ can (fixP p k v) l = true := by
  obtain ⟨a, b, c, f⟩ := (can_fit wp cv).1 hc
  obtain ⟨g1, g2, g3, g4, g5, g6, g7, g8, g9, g10, g11, g12⟩ := f
  have hlm := wp.lm _ (scn_mem (cv.rng k hm))
  -- the others of the part
  have oth : ∀ j : Nat, (scn p k).part = (j : Int) → pl p l j - (scn p k).least ≤ ph p l j - (scn p k).most := fun j hj => by
    have := pl_le (fixP_wp wp k 0) (fixP_cv cv k 0) (l := l) j
    have s := fix_sum cv inc hm 0 j
    rw [if_pos hj, if_pos hj] at s
    omega
  have fin : ∀ v, (∀ j : Nat, j < 3 → (scn p k).part = (j : Int) → pl p l j - (scn p k).least + v ≤ (prH p (a, b, c) j).2 - (prH p (a, b, c) j).1 ∧ (prH p (a, b, c) j).2 - (prH p (a, b, c) j).1 ≤ ph p l j - (scn p k).most + v) → can (fixP p k v) l = true := fun v hv => by
    have s0 := fix_sum cv inc hm v 0; have s1 := fix_sum cv inc hm v 1; have s2 := fix_sum cv inc hm v 2
    have v0 := hv 0 (by omega); have v1 := hv 1 (by omega); have v2 := hv 2 (by omega)
    simp only [prH, if_true, Nat.reduceEqDiff, if_false] at v0 v1 v2
    have hb : (fixP p k v).beg = p.beg := rfl
    refine (can_fit (fixP_wp wp k v) (fixP_cv cv k v)).2 ⟨a, b, c, ⟨g1, g2, g3, g4, g5, g6, ?_, ?_, ?_, ?_, ?_, ?_⟩⟩
    · rw [hb]; have := s0.1; split at this
      · rename_i e; have := (v0 e).1; omega
      · omega
    · rw [hb]; have := s0.2; split at this
      · rename_i e; have := (v0 e).2; omega
      · omega
    · have := s1.1; split at this
      · rename_i e; have := (v1 e).1; omega
      · omega
    · have := s1.2; split at this
      · rename_i e; have := (v1 e).2; omega
      · omega
    · have := s2.1; split at this
      · rename_i e; have := (v2 e).1; omega
      · omega
    · have := s2.2; split at this
      · rename_i e; have := (v2 e).2; omega
      · omega
  have one : ∀ (j : Nat) (d : Int), (scn p k).part = (j : Int) → pl p l j ≤ d → d ≤ ph p l j → ∃ v, (scn p k).least ≤ v ∧ v ≤ (scn p k).most ∧ pl p l j - (scn p k).least + v ≤ d ∧ d ≤ ph p l j - (scn p k).most + v := fun j d hj h1 h2 => by
    have := oth j hj
    exact ⟨max (scn p k).least (d - (ph p l j - (scn p k).most)), by omega, by omega, by omega, by omega⟩
  have z : ∀ {i j : Nat}, (scn p k).part = (i : Int) → (scn p k).part = (j : Int) → i = j := fun h1 h2 => by omega
  rcases (show (scn p k).part = 0 ∨ (scn p k).part = 1 ∨ (scn p k).part = 2 by omega) with e | e | e
  · obtain ⟨v, h1, h2, h3, h4⟩ := one 0 (a - p.beg) e g7 g8
    exact ⟨v, h1, h2, fin v fun j hj ej => by obtain rfl : 0 = j := z e ej; exact ⟨h3, h4⟩⟩
  · obtain ⟨v, h1, h2, h3, h4⟩ := one 1 (b - a) e g9 g10
    exact ⟨v, h1, h2, fin v fun j hj ej => by obtain rfl : 1 = j := z e ej; exact ⟨h3, h4⟩⟩
  · obtain ⟨v, h1, h2, h3, h4⟩ := one 2 (c - b) e g11 g12
    exact ⟨v, h1, h2, fin v fun j hj ej => by obtain rfl : 2 = j := z e ej; exact ⟨h3, h4⟩⟩
theorem climb_end : ∀ (f : Nat) (n : Int), fuel p k n ≤ f → goOn p l k (climb p l k f n) = false ∧ ∀ m, n ≤ m → m < climb p l k f n → goOn p l k m = true
  | 0, n, h => by
    have hn : (scn p k).most ≤ n := by unfold fuel at h; omega
    refine ⟨?_, fun m h1 h2 => by simp only [climb] at h2; omega⟩
    show (decide (n < (scn p k).most) && !can (fixP p k n) l) = false
    rw [Bool.and_eq_false_iff]; left
    exact decide_eq_false (by omega)
  | f + 1, n, h => by
    simp only [climb]
    split
    · rename_i g
      have hn : n < (scn p k).most := by simp [goOn] at g; exact g.1
      obtain ⟨h1, h2⟩ := climb_end f (n + 1) (by unfold fuel at h ⊢; omega)
      refine ⟨h1, fun m a b => ?_⟩
      rcases Int.lt_or_eq_of_le a with c | c
      · exact h2 m (by omega) b
      · subst c; exact g
    · rename_i g
      exact ⟨by simpa using g, fun m h1 h2 => by omega⟩
theorem len1_spec (wp : WP p) (cv : CV p l) (inc : l.Pairwise (· < ·)) (hm : k ∈ l) (hpk : 0 ≤ (scn p k).part ∧ (scn p k).part ≤ 2) (hc : can p l = true) :
    (scn p k).least ≤ len1 p l k ∧ len1 p l k ≤ (scn p k).most ∧ can (fixP p k (len1 p l k)) l = true ∧ ∀ n, (scn p k).least ≤ n → n < len1 p l k → ¬ can (fixP p k n) l = true := by
  obtain ⟨h1, h2⟩ := climb_end (p := p) (l := l) (k := k) (fuel p k (scn p k).least) (scn p k).least (Nat.le_refl _)
  have hb := climb_bd (p := p) (l := l) (k := k) (fuel p k (scn p k).least) (scn p k).least
  have hlm := wp.lm _ (scn_mem (cv.rng k hm))
  change goOn p l k (len1 p l k) = false at h1
  change ∀ m, (scn p k).least ≤ m → m < len1 p l k → goOn p l k m = true at h2
  change (scn p k).least ≤ len1 p l k ∧ (len1 p l k ≤ (scn p k).least ∨ len1 p l k ≤ (scn p k).most) at hb
  have no : ∀ n, (scn p k).least ≤ n → n < len1 p l k → ¬ can (fixP p k n) l = true := fun n a b hcn => by
    have := h2 n a b
    simp [goOn, hcn] at this
  refine ⟨hb.1, by omega, ?_, no⟩
  simp only [goOn, Bool.and_eq_false_iff, decide_eq_false_iff_not, Bool.not_eq_false'] at h1
  rcases h1 with g | g
  · obtain ⟨v, v1, v2, v3⟩ := can_fix_ex wp cv inc hm hpk hc
    have : len1 p l k ≤ v := by
      rcases Int.lt_or_le v (len1 p l k) with c | c
      · exact absurd v3 (no v v1 c)
      · exact c
    have e : v = len1 p l k := by omega
    rw [← e]; exact v3
  · exact g
end
section
variable {p : Pl} {l : List Nat} (wp : WP p) (cv : CV p l) (inc : l.Pairwise (· < ·)) (hp : ∀ x ∈ l, 0 ≤ (scn p x).part ∧ (scn p x).part ≤ 2) (hc : can p l = true)
theorem oS_get : ∀ (i j : Nat) (h : j < i) (h2 : j < (oS p l i).length), (oS p l i)[j] = len1 (pS p l j) l (l.getD j 0)
  | i + 1, j, h, h2 => by
    simp only [oS]
    rcases Nat.lt_or_eq_of_le (Nat.le_of_lt_succ h) with c | c
    · rw [List.getElem_append_left (by rw [oS_len]; exact c)]; exact oS_get i j c _
    · subst c; rw [List.getElem_append_right (by rw [oS_len]; exact Nat.le_refl _)]; simp [oS_len]
theorem pF_pS : ∀ i, i ≤ l.length → pF p l (firstL p l) i = pS p l i
  | 0, _ => rfl
  | i + 1, h => by
    have hl : i < (firstL p l).length := by unfold firstL; rw [oS_len]; omega
    rw [pF, pS, pF_pS i (by omega), getD_at hl 0]
    congr 1
    exact oS_get l.length i (by omega) hl
include wp cv inc hp hc
theorem pS_all : ∀ i, i ≤ l.length → WP (pS p l i) ∧ CV (pS p l i) l ∧ (∀ x, (scn (pS p l i) x).part = (scn p x).part) ∧ can (pS p l i) l = true ∧ ∀ j (hj : j < l.length), i ≤ j → scn (pS p l i) l[j] = scn p l[j]
  | 0, _ => ⟨wp, cv, fun _ => rfl, hc, fun _ _ _ => rfl⟩
  | i + 1, h => by
    obtain ⟨h1, h2, h3, h4, h5⟩ := pS_all i (by omega)
    have hm : l[i] ∈ l := List.getElem_mem (by omega)
    have e : l.getD i 0 = l[i] := getD_at (by omega) 0
    have hk := h2.rng _ hm
    have hs := len1_spec h1 h2 inc hm (by rw [h3]; exact hp _ hm) h4
    simp only [pS, e]
    refine ⟨fixP_wp h1 _ _, fixP_cv h2 _ _, fun x => by rw [fix_part hk, h3], hs.2.2.1, fun j hj hij => ?_⟩
    have hne : l[j] ≠ l[i] := by have := List.pairwise_iff_getElem.1 inc i j (by omega) hj (by omega); omega
    rw [scn_fix hk, if_neg hne]; exact h5 j hj (by omega)
theorem first_lasts : lastsP p l (firstL p l) = true := by
  unfold lastsP
  rw [Bool.and_eq_true, okAll_iff]
  refine ⟨by simp [firstL, oS_len], fun i hi => ?_⟩
  obtain ⟨h1, h2, h3, h4, h5⟩ := pS_all wp cv inc hp hc i (by omega)
  have hm : l[i] ∈ l := List.getElem_mem hi
  have e : l.getD i 0 = l[i] := getD_at hi 0
  have hs := len1_spec h1 h2 inc hm (by rw [h3]; exact hp _ hm) h4
  rw [h5 i hi (Nat.le_refl _)] at hs
  have hl : i < (firstL p l).length := by unfold firstL; rw [oS_len]; exact hi
  have hg : (firstL p l).getD i 0 = len1 (pS p l i) l l[i] := by rw [getD_at hl 0, ← e]; exact oS_get l.length i hi hl
  unfold lsBad
  rw [hg]
  simp only [inn, Bool.not_eq_false', Bool.and_eq_true, decide_eq_true_eq]
  exact ⟨hs.1, hs.2.1⟩
theorem first_fits : can (pFF p l (firstL p l)) l = true := by
  unfold pFF
  rw [pF_pS l.length (Nat.le_refl _)]
  exact (pS_all wp cv inc hp hc l.length (Nat.le_refl _)).2.2.2.1
theorem first_least {ls : List Int} (gp : GP p) (hL : lastsP p l ls = true) (hf : can (pFF p l ls) l = true) : lexB ls (firstL p l) = false := by
  obtain ⟨hlen, hv⟩ := lasts_at hL
  have hfl : (firstL p l).length = l.length := by unfold firstL; exact oS_len p l _
  cases hx : lexB ls (firstL p l) with
  | false => rfl
  | true =>
    exfalso
    obtain ⟨k, ha, hb, h1, h2⟩ := lexB_ex hx (by omega)
    have hk : k < l.length := by omega
    -- the plans are the same so far
    have same : ∀ i, i ≤ k → pF p l ls i = pS p l i := by
      intro i
      induction i with
      | zero => intro _; rfl
      | succ i ih =>
        intro hi
        rw [← pF_pS (i + 1) (by omega), pF, pF, ih (by omega), pF_pS i (by omega), getD_at (show i < ls.length by omega), getD_at (show i < (firstL p l).length by omega), h1 i (by omega)]
    -- what is fixed later takes away only
    have down : ∀ d, d ≤ l.length → can (pF p l ls (l.length - d)) l = true := by
      intro d
      induction d with
      | zero => intro _; exact hf
      | succ d ih =>
        intro hd
        have h3 := ih (by omega)
        have e : l.length - d = l.length - (d + 1) + 1 := by omega
        rw [e, pF] at h3
        obtain ⟨q1, q2, q3⟩ := pF_ok gp wp cv hL (l.length - (d + 1)) (by omega)
        have hi : l.length - (d + 1) < l.length := by omega
        rw [getD_at hi 0] at h3
        have hsc : scn (pF p l ls (l.length - (d + 1))) l[l.length - (d + 1)] = scn p l[l.length - (d + 1)] := by
          have key : ∀ i, i ≤ l.length → ∀ j (hj : j < l.length), i ≤ j → scn (pF p l ls i) l[j] = scn p l[j] := by
            intro i
            induction i with
            | zero => intro _ _ _ _; rfl
            | succ i ihh =>
              intro hi j hj hij
              have hkk : l.getD i 0 < (pF p l ls i).scenes.length := by rw [(pF_fields p l ls i).2.2.2, getD_at (by omega)]; exact cv.rng _ (List.getElem_mem _)
              rw [pF, scn_fix hkk, if_neg (by rw [getD_at (show i < l.length by omega)]; have := List.pairwise_iff_getElem.1 inc i j (by omega) hj (by omega); omega)]
              exact ihh (by omega) j hj (by omega)
          exact key _ (by omega) _ hi (Nat.le_refl _)
        have hvv := hv _ hi
        exact can_fix_le q2 q3 inc (List.getElem_mem hi) (by rw [hsc]; exact hvv.1) (by rw [hsc]; exact hvv.2) h3
    have hk1 := down (l.length - (k + 1)) (by omega)
    rw [show l.length - (l.length - (k + 1)) = k + 1 by omega, pF, same k (Nat.le_refl _), getD_at hk 0, getD_at ha 0] at hk1
    obtain ⟨g1, g2, g3, g4, g5⟩ := pS_all wp cv inc hp hc k (by omega)
    have hm : l[k] ∈ l := List.getElem_mem hk
    have hs := len1_spec g1 g2 inc hm (by rw [g3]; exact hp _ hm) g4
    have e : l.getD k 0 = l[k] := getD_at hk 0
    have hfk : (firstL p l)[k] = len1 (pS p l k) l l[k] := by rw [← e]; exact oS_get l.length k hk hb
    have hvk := hv k hk
    rw [getD_at ha 0] at hvk
    refine hs.2.2.2 ls[k] ?_ (by rw [← hfk]; exact h2) hk1
    rw [g5 k hk (Nat.le_refl _)]; exact hvk.1
end
end Ni
namespace Go.Proofs.YtjghdbdiejaacaaGreatDoor
open Go Go.Ab Ni
section
variable [Tabs] {c : Ctx} {ops : Array Oper} {Q : AExit → St → Prop} {i : Nat} {rest : List Oper} {s : St} {d : Option Tmp} {x y z : Operand} {t : TypeId} {p : String} {af : Array Edge} {v : Value} {j u n : Nat} {want : Bool} {l : List (List AV)}
theorem pf (hd : dOK c.nt d = true) (hx : Less (s.op x) (.raw (.bool false))) (h : Less (s.op z) (.raw v)) (k : SeqWP c ops Q (i + 1) rest (s.put d (.raw v))) : SeqWP c ops Q i (⟨d, .pick x y z, t, p, af, none⟩ :: rest) s := sq_ev hd (ev_pickF hx h) k
theorem ysl (hj : gslot ops j = some u) (ht : Nat.blt u c.nt = true) (hb : Less (sget s.sl u) (.raw (.bool want))) (hd : dOK c.nt d = true) (h : Less (s.op x) (.sl n l)) (k : SeqWP c ops Q (i + 1) rest (s.put d (.sl n l))) : SeqWP c ops Q i (⟨d, .move x, t, p, af, some (j, want)⟩ :: rest) s := sq_yes hj ht hb hd (ev_mv h) k
theorem xtr {m : List AV} {w : AV} (hd : dOK c.nt d = true) (hx : Less (s.op x) (.tup m)) (hv : m[n]? = some w) (k : SeqWP c ops Q (i + 1) rest (s.put d w)) : SeqWP c ops Q i (⟨d, .extract x n, t, p, af, none⟩ :: rest) s := sq_ev hd (ev_extract hx hv) k
theorem mvs (hd : dOK c.nt d = true) (h : Less (s.op x) (.sl n l)) (k : SeqWP c ops Q (i + 1) rest (s.put d (.sl n l))) : SeqWP c ops Q i (⟨d, .move x, t, p, af, none⟩ :: rest) s := sq_ev hd (ev_mv h) k
theorem ass (hd : dOK c.nt d = true) (h : Less (s.op x) (.sl n l)) (k : SeqWP c ops Q (i + 1) rest (s.put d (.sl n l))) : SeqWP c ops Q i (⟨d, .assign x, t, p, af, none⟩ :: rest) s := sq_ev hd (ev_as h) k
theorem ymr (hj : gslot ops j = some u) (ht : Nat.blt u c.nt = true) (hb : Less (sget s.sl u) (.raw (.bool want))) (hd : dOK c.nt d = true) (h : Less (s.op x) (.raw v)) (k : SeqWP c ops Q (i + 1) rest (s.put d (.raw v))) : SeqWP c ops Q i (⟨d, .move x, t, p, af, some (j, want)⟩ :: rest) s := sq_yes hj ht hb hd (ev_mv h) k
end
theorem en35 : Ent Tryz.prog 35 := Ent.of Tryz.func35 (by kernel_rfl) rfl
theorem en62 : Ent Tryz.prog 62 := Ent.of Tryz.func62 (by kernel_rfl) rfl
theorem en89 : Ent Tryz.prog 89 := Ent.of Tryz.func89 (by kernel_rfl) rfl
theorem en90 : Ent Tryz.prog 90 := Ent.of Tryz.func90 (by kernel_rfl) rfl
theorem en91 : Ent Tryz.prog 91 := Ent.of Tryz.func91 (by kernel_rfl) rfl
set_option maxHeartbeats 400000 in
theorem in_pure (n lo hi : Int) : APure Tryz.prog 89 [I n, I lo, I hi] (B (inn n lo hi)) := by
 refine apure_of (rs := [.tmp 6]) Tryz.func89 rfl rfl (Nat.le_of_ble_eq_true rfl) (by simp [AV.pureL, AV.pureB, AV.pureE, pureE_map]) (rfl) fun e0 he0 => ?_
 refine aw_seq (aw_region ?_)
 refine asr (lr _) rfl ?_
 refine sq_nil (aw_seq (aw_region ?_))
 refine mvr (lr _) rfl ?_
 refine mvr (lr _) rfl ?_
 refine sq_ev rfl (ev_geq (lr _) (lr _)) ?_
 refine mvr (lr _) rfl ?_
 refine sq_split 10 (lr _) (fun g1 => ?_) (fun g1 => ?_)
 ·
  have g1' := g1
  try simp only [qq] at g1'
  refine sq_yes rfl rfl (less_b g1) rfl (ev_mv (v := .raw _) (lr _)) ?_
  refine sq_yes rfl rfl (less_b g1) rfl (ev_mv (v := .raw _) (lr _)) ?_
  refine sq_yes rfl rfl (less_b g1) rfl (ev_leq (lr _) (lr _)) ?_
  refine sq_ev rfl (ev_pickT (v := .raw _) (less_b g1) (lr _)) ?_
  refine asr (lr _) rfl ?_
  refine sq_nil (aw_ret ?_)
  exact retQ_pure (v := .raw _) rfl rfl (Less.eq (by simp [inn, *]))
 ·
  have g1' := g1
  try simp only [qq] at g1'
  refine sq_no rfl rfl (less_b g1) rfl rfl ?_
  refine sq_no rfl rfl (less_b g1) rfl rfl ?_
  refine sq_no rfl rfl (less_b g1) rfl rfl ?_
  refine sq_ev rfl (ev_pickF (v := .raw _) (less_b g1) (lr _)) ?_
  refine asr (lr _) rfl ?_
  refine sq_nil (aw_ret ?_)
  exact retQ_pure (v := .raw _) rfl rfl (Less.eq (by simp [inn, *]))
set_option maxHeartbeats 400000 in
theorem window_pure (lo hi : Int) : APure Tryz.prog 90 [.agg [I lo, I hi]] (B (wnd lo hi)) := by
 refine apure_of (rs := [.tmp 2]) Tryz.func90 rfl rfl (Nat.le_of_ble_eq_true rfl) (by simp [AV.pureL, AV.pureB, AV.pureE, pureE_map]) (rfl) fun e0 he0 => ?_
 refine aw_seq (aw_region ?_)
 refine sq_box rfl (lr _) rfl ?_
 refine asr (lr _) rfl ?_
 refine sq_nil (aw_seq (aw_region ?_))
 refine sq_ev rfl (ev_fieldAddr fo23_0 (lr _)) ?_
 refine sq_ev rfl (ev_load (lr _) rfl ty3 rfl) ?_
 refine sq_ev rfl (ev_call en89 (lr _) (in_pure _ _ _) ⟨lr _, lr _, lr _, trivial⟩) ?_
 refine mvr (lr _) rfl ?_
 refine sq_split 6 (lr _) (fun g1 => ?_) (fun g1 => ?_)
 ·
  have g1' := g1
  try simp only [qq] at g1'
  refine sq_yes rfl rfl (less_b g1) rfl (ev_fieldAddr fo23_1 (lr _)) ?_
  refine sq_yes rfl rfl (less_b g1) rfl (ev_load (lr _) rfl ty3 rfl) ?_
  refine sq_yes rfl rfl (less_b g1) rfl (ev_fieldAddr fo23_0 (lr _)) ?_
  refine sq_yes rfl rfl (less_b g1) rfl (ev_load (lr _) rfl ty3 rfl) ?_
  refine sq_yes rfl rfl (less_b g1) rfl (ev_call en89 (lr _) (in_pure _ _ _) ⟨lr _, lr _, lr _, trivial⟩) ?_
  refine sq_ev rfl (ev_pickT (v := .raw _) (less_b g1) (lr _)) ?_
  refine mvr (lr _) rfl ?_
  refine sq_split 13 (lr _) (fun g2 => ?_) (fun g2 => ?_)
  ·
   have g2' := g2
   try simp only [qq] at g2'
   simp only [inn, Bool.and_eq_true, decide_eq_true_eq] at g1' g2'
   refine sq_yes rfl rfl (less_b g2) rfl (ev_fieldAddr fo23_1 (lr _)) ?_
   refine sq_yes rfl rfl (less_b g2) rfl (ev_load (lr _) rfl ty3 rfl) ?_
   refine sq_yes rfl rfl (less_b g2) rfl (ev_fieldAddr fo23_0 (lr _)) ?_
   refine sq_yes rfl rfl (less_b g2) rfl (ev_load (lr _) rfl ty3 rfl) ?_
   refine sq_yes rfl rfl (less_b g2) rfl (ev_sub (lr _) (lr _) (wr (by omega) (by omega))) ?_
   refine sq_yes rfl rfl (less_b g2) rfl (ev_leq (lr _) (lr _)) ?_
   refine sq_ev rfl (ev_pickT (v := .raw _) (less_b g2) (lr _)) ?_
   refine asr (lr _) rfl ?_
   refine sq_nil (aw_ret ?_)
   exact retQ_pure (v := .raw _) rfl rfl (Less.eq (by simp [wnd, *]))
  ·
   have g2' := g2
   try simp only [qq] at g2'
   refine sq_no rfl rfl (less_b g2) rfl rfl ?_
   refine sq_no rfl rfl (less_b g2) rfl rfl ?_
   refine sq_no rfl rfl (less_b g2) rfl rfl ?_
   refine sq_no rfl rfl (less_b g2) rfl rfl ?_
   refine sq_no rfl rfl (less_b g2) rfl rfl ?_
   refine sq_no rfl rfl (less_b g2) rfl rfl ?_
   refine sq_ev rfl (ev_pickF (v := .raw _) (less_b g2) (lr _)) ?_
   refine asr (lr _) rfl ?_
   refine sq_nil (aw_ret ?_)
   exact retQ_pure (v := .raw _) rfl rfl (Less.eq (by simp [wnd, *]))
 ·
  have g1' := g1
  try simp only [qq] at g1'
  refine sq_no rfl rfl (less_b g1) rfl rfl ?_
  refine sq_no rfl rfl (less_b g1) rfl rfl ?_
  refine sq_no rfl rfl (less_b g1) rfl rfl ?_
  refine sq_no rfl rfl (less_b g1) rfl rfl ?_
  refine sq_no rfl rfl (less_b g1) rfl rfl ?_
  refine sq_ev rfl (ev_pickF (v := .raw _) (less_b g1) (lr _)) ?_
  refine mvr (lr _) rfl ?_
  refine sq_no rfl rfl (lr _) rfl rfl ?_
  refine sq_no rfl rfl (lr _) rfl rfl ?_
  refine sq_no rfl rfl (lr _) rfl rfl ?_
  refine sq_no rfl rfl (lr _) rfl rfl ?_
  refine sq_no rfl rfl (lr _) rfl rfl ?_
  refine sq_no rfl rfl (lr _) rfl rfl ?_
  refine pf rfl (lr _) (lr _) ?_
  refine asr (lr _) rfl ?_
  refine sq_nil (aw_ret ?_)
  exact retQ_pure (v := .raw _) rfl rfl (Less.eq (by simp [wnd, *]))
set_option maxHeartbeats 2000000 in
theorem scenes_pure (p : Pl) (hl : p.scenes.length ≤ 1000000) : APure Tryz.prog 91 [plan p] (B (decide (ScOK p.scenes))) := by
 refine apure_of (rs := [.tmp 2]) Tryz.func91 rfl rfl (Nat.le_of_ble_eq_true rfl) (by simp [AV.pureL, AV.pureB, AV.pureE, pureE_map]) (rfl) fun e0 he0 => ?_
 refine aw_seq (aw_region ?_)
 refine sq_box rfl (lr _) rfl ?_
 refine asr (lr _) rfl ?_
 refine sq_nil (aw_seq (aw_region ?_))
 refine asr (lr _) rfl ?_
 refine sq_nil (aw_seq (aw_seq (aw_region ?_)))
 refine asr (lr _) rfl ?_
 refine sq_nil (aw_block ?_)
 refine aw_loopk (ι := { k : Nat // k ≤ p.scenes.length ∧ ∀ i, (h : i < p.scenes.length) → i < k → scBad p.scenes i h = false }) [1] (fun i => [(3, I (loosies (p.scenes.take i.1))), (4, I i.1)]) (fun H i => H) (fun i => p.scenes.length - i.1) (⟨0, Nat.zero_le _, by omega⟩) ⟨lr _, lr _, lr _, trivial⟩ rfl ?_
 rintro ⟨k, hk, hok⟩
 dsimp only [keepS, St.put, sget, slotsOf, List.map_cons, List.map_nil, List.cons_append, List.nil_append, List.length_cons, List.length_nil, Nat.reduceBEq, Nat.reduceAdd, cond_true, cond_false]
 have hlo := loosies_le (p.scenes.take k)
 have hlt := List.length_take_le k p.scenes
 refine aw_seq (aw_seq (aw_region ?_))
 refine mvr (lr _) rfl ?_
 refine sq_ev rfl (ev_fieldAddr fo27_3 (lr _)) ?_
 refine sq_ev rfl (ev_load (lr _) rfl ty25 rfl) ?_
 refine sq_ev rfl (ev_len_map sl25 (lr _)) ?_
 refine sq_ev rfl (ev_lss (lr _) (lr _)) ?_
 refine sq_nil ?_
 refine aw_cond (lr _) (fun c1 => ?_) (fun c1 => ?_)
 ·
  have c1' := c1
  try simp only [qq] at c1'
  refine aw_skip (aw_seq (aw_block (aw_seq (aw_region ?_))))
  refine sq_ev rfl (ev_fieldAddr fo27_3 (lr _)) ?_
  refine sq_ev rfl (ev_load (lr _) rfl ty25 rfl) ?_
  refine mvr (lr _) rfl ?_
  refine sq_ev rfl (ev_index_map sl25 (lr _) (lr _) rfl (by omega)) ?_
  refine sq_ev rfl (ev_load_agg_i (lr _) ty84 (Nat.le_of_ble_eq_true rfl)) ?_
  refine sq_alloc rfl z84 ?_
  refine sq_store rfl (lr _) (lr _) rfl rfl ty84 rfl rfl ?_
  refine sq_nil (aw_seq (aw_seq ?_))
  refine aw_draw 50 mo (by kernel_rfl) ?_
  refine dr_ev rfl (ev_fieldAddr fo84_0 (lr _)) ?_
  refine dr_ev rfl (ev_load (lr _) rfl ty3 rfl) ?_
  refine dr_ev rfl (ev_call en89 (lr _) (in_pure _ _ _) ⟨lr _, lr _, lr _, trivial⟩) ?_
  refine dr_ev rfl (ev_not (lr _)) ?_
  refine dr_ev rfl (ev_mv (v := .raw _) (lr _)) ?_
  refine dr_split 22 (lr _) (fun g2 => ?_) (fun g2 => ?_)
  ·
   have g2' := g2
   try simp only [qq] at g2'
   refine dr_no rfl rfl (less_b g2) rfl rfl ?_
   refine dr_no rfl rfl (less_b g2) rfl rfl ?_
   refine dr_no rfl rfl (less_b g2) rfl rfl ?_
   refine dr_no rfl rfl (lr _) rfl rfl ?_
   refine dr_no rfl rfl (lr _) rfl rfl ?_
   refine dr_no rfl rfl (lr _) rfl rfl ?_
   refine dr_no rfl rfl (lr _) rfl rfl ?_
   refine dr_no rfl rfl (lr _) rfl rfl ?_
   refine dr_no rfl rfl (lr _) rfl rfl ?_
   refine dr_no rfl rfl (lr _) rfl rfl ?_
   refine dr_no rfl rfl (lr _) rfl rfl ?_
   refine dr_no rfl rfl (lr _) rfl rfl ?_
   refine dr_no rfl rfl (lr _) rfl rfl ?_
   refine dr_no rfl rfl (less_b g2) rfl rfl ?_
   refine dr_ev rfl (ev_pickT (v := .raw _) (less_b g2) (lr _)) ?_
   refine dr_ev rfl (ev_mv (v := .raw _) (lr _)) ?_
   refine dr_no rfl rfl (lr _) rfl rfl ?_
   refine dr_no rfl rfl (lr _) rfl rfl ?_
   refine dr_no rfl rfl (lr _) rfl rfl ?_
   refine dr_no rfl rfl (lr _) rfl rfl ?_
   refine dr_ev rfl (ev_pickT (v := .raw _) (lr _) (lr _)) ?_
   refine dr_ev rfl (ev_mv (v := .raw _) (lr _)) ?_
   refine dr_no rfl rfl (lr _) rfl rfl ?_
   refine dr_no rfl rfl (lr _) rfl rfl ?_
   refine dr_no rfl rfl (lr _) rfl rfl ?_
   refine dr_no rfl rfl (lr _) rfl rfl ?_
   refine dr_no rfl rfl (lr _) rfl rfl ?_
   refine dr_no rfl rfl (lr _) rfl rfl ?_
   refine dr_ev rfl (ev_pickT (v := .raw _) (lr _) (lr _)) ?_
   refine dr_ev rfl (ev_mv (v := .raw _) (lr _)) ?_
   refine dr_no rfl rfl (lr _) rfl rfl ?_
   refine dr_no rfl rfl (lr _) rfl rfl ?_
   refine dr_no rfl rfl (lr _) rfl rfl ?_
   refine dr_no rfl rfl (lr _) rfl rfl ?_
   refine dr_no rfl rfl (lr _) rfl rfl ?_
   refine dr_no rfl rfl (lr _) rfl rfl ?_
   refine dr_no rfl rfl (lr _) rfl rfl ?_
   refine dr_no rfl rfl (lr _) rfl rfl ?_
   refine dr_ev rfl (ev_pickT (v := .raw _) (lr _) (lr _)) ?_
   refine dr_ev rfl (ev_mv (v := .raw _) (lr _)) ?_
   refine dr_no rfl rfl (lr _) rfl rfl ?_
   refine dr_no rfl rfl (lr _) rfl rfl ?_
   refine dr_no rfl rfl (lr _) rfl rfl ?_
   refine dr_no rfl rfl (lr _) rfl rfl ?_
   refine dr_ev rfl (ev_pickT (v := .raw _) (lr _) (lr _)) ?_
   refine dr_end (sq_nil ?_)
   refine aw_true (lr _) ?_
   refine aw_seq (aw_region ?_)
   refine asr (lr _) rfl ?_
   refine sq_nil (aw_ret ?_)
   exact retQ_pure (v := .raw _) rfl rfl (Less.eq (by rw [scOK_bad (i := k) (by omega) (by simp [scBad, *])]))
  ·
   have g2' := g2
   try simp only [qq] at g2'
   refine dr_yes rfl rfl (less_b g2) rfl (ev_mv (v := .raw _) (lr _)) ?_
   refine dr_yes rfl rfl (less_b g2) rfl (ev_gtr (lr _) (lr _)) ?_
   refine dr_yes rfl rfl (less_b g2) rfl (ev_mv (v := .raw _) (lr _)) ?_
   refine dr_split 25 (lr _) (fun g3 => ?_) (fun g3 => ?_)
   ·
    have g3' := g3
    try simp only [qq] at g3'
    have g3n : 0 < k := by omega
    refine dr_yes rfl rfl (less_b g3) rfl (ev_fieldAddr fo84_0 (lr _)) ?_
    refine dr_yes rfl rfl (less_b g3) rfl (ev_load (lr _) rfl ty3 rfl) ?_
    refine dr_yes rfl rfl (less_b g3) rfl (ev_fieldAddr fo27_3 (lr _)) ?_
    refine dr_yes rfl rfl (less_b g3) rfl (ev_load (lr _) rfl ty25 rfl) ?_
    refine dr_yes rfl rfl (less_b g3) rfl (ev_mv (v := .raw _) (lr _)) ?_
    refine dr_yes rfl rfl (less_b g3) rfl (ev_sub (lr _) (lr _) (wr (by omega) (by omega))) ?_
    refine dr_yes rfl rfl (less_b g3) rfl (ev_index_map sl25 (lr _) (lr _) (show ((k : Int) - 1) = ((k - 1 : Nat) : Int) by omega) (by omega)) ?_
    refine dr_yes rfl rfl (less_b g3) rfl (ev_fieldAddr_i fo84_0 (lr _)) ?_
    refine dr_yes rfl rfl (less_b g3) rfl (ev_load_i (lr _) ty3 rfl) ?_
    refine dr_yes rfl rfl (less_b g3) rfl (ev_lss (lr _) (lr _)) ?_
    refine dr_yes rfl rfl (less_b g2) rfl (ev_pickT (v := .raw _) (less_b g3) (lr _)) ?_
    refine dr_ev rfl (ev_pickF (v := .raw _) (less_b g2) (lr _)) ?_
    refine dr_ev rfl (ev_mv (v := .raw _) (lr _)) ?_
    refine dr_split 38 (lr _) (fun g4 => ?_) (fun g4 => ?_)
    ·
     have g4' := g4
     try simp only [qq] at g4'
     refine dr_no rfl rfl (less_b g4) rfl rfl ?_
     refine dr_no rfl rfl (less_b g4) rfl rfl ?_
     refine dr_no rfl rfl (less_b g4) rfl rfl ?_
     refine dr_no rfl rfl (less_b g4) rfl rfl ?_
     refine dr_ev rfl (ev_pickT (v := .raw _) (less_b g4) (lr _)) ?_
     refine dr_ev rfl (ev_mv (v := .raw _) (lr _)) ?_
     refine dr_no rfl rfl (lr _) rfl rfl ?_
     refine dr_no rfl rfl (lr _) rfl rfl ?_
     refine dr_no rfl rfl (lr _) rfl rfl ?_
     refine dr_no rfl rfl (lr _) rfl rfl ?_
     refine dr_no rfl rfl (lr _) rfl rfl ?_
     refine dr_no rfl rfl (lr _) rfl rfl ?_
     refine dr_ev rfl (ev_pickT (v := .raw _) (lr _) (lr _)) ?_
     refine dr_ev rfl (ev_mv (v := .raw _) (lr _)) ?_
     refine dr_no rfl rfl (lr _) rfl rfl ?_
     refine dr_no rfl rfl (lr _) rfl rfl ?_
     refine dr_no rfl rfl (lr _) rfl rfl ?_
     refine dr_no rfl rfl (lr _) rfl rfl ?_
     refine dr_no rfl rfl (lr _) rfl rfl ?_
     refine dr_no rfl rfl (lr _) rfl rfl ?_
     refine dr_no rfl rfl (lr _) rfl rfl ?_
     refine dr_no rfl rfl (lr _) rfl rfl ?_
     refine dr_ev rfl (ev_pickT (v := .raw _) (lr _) (lr _)) ?_
     refine dr_ev rfl (ev_mv (v := .raw _) (lr _)) ?_
     refine dr_no rfl rfl (lr _) rfl rfl ?_
     refine dr_no rfl rfl (lr _) rfl rfl ?_
     refine dr_no rfl rfl (lr _) rfl rfl ?_
     refine dr_no rfl rfl (lr _) rfl rfl ?_
     refine dr_ev rfl (ev_pickT (v := .raw _) (lr _) (lr _)) ?_
     refine dr_end (sq_nil ?_)
     refine aw_true (lr _) ?_
     refine aw_seq (aw_region ?_)
     refine asr (lr _) rfl ?_
     refine sq_nil (aw_ret ?_)
     exact retQ_pure (v := .raw _) rfl rfl (Less.eq (by rw [scOK_bad (i := k) (by omega) (by simp [scBad, *])]))
    ·
     have g4' := g4
     try simp only [qq] at g4'
     refine dr_yes rfl rfl (less_b g4) rfl (ev_fieldAddr fo84_1 (lr _)) ?_
     refine dr_yes rfl rfl (less_b g4) rfl (ev_load (lr _) rfl ty3 rfl) ?_
     refine dr_yes rfl rfl (less_b g4) rfl (ev_call en89 (lr _) (in_pure _ _ _) ⟨lr _, lr _, lr _, trivial⟩) ?_
     refine dr_yes rfl rfl (less_b g4) rfl (ev_not (lr _)) ?_
     refine dr_ev rfl (ev_pickF (v := .raw _) (less_b g4) (lr _)) ?_
     refine dr_ev rfl (ev_mv (v := .raw _) (lr _)) ?_
     refine dr_split 44 (lr _) (fun g5 => ?_) (fun g5 => ?_)
     ·
      have g5' := g5
      try simp only [qq] at g5'
      refine dr_no rfl rfl (less_b g5) rfl rfl ?_
      refine dr_no rfl rfl (less_b g5) rfl rfl ?_
      refine dr_no rfl rfl (less_b g5) rfl rfl ?_
      refine dr_no rfl rfl (less_b g5) rfl rfl ?_
      refine dr_no rfl rfl (less_b g5) rfl rfl ?_
      refine dr_no rfl rfl (less_b g5) rfl rfl ?_
      refine dr_ev rfl (ev_pickT (v := .raw _) (less_b g5) (lr _)) ?_
      refine dr_ev rfl (ev_mv (v := .raw _) (lr _)) ?_
      refine dr_no rfl rfl (lr _) rfl rfl ?_
      refine dr_no rfl rfl (lr _) rfl rfl ?_
      refine dr_no rfl rfl (lr _) rfl rfl ?_
      refine dr_no rfl rfl (lr _) rfl rfl ?_
      refine dr_no rfl rfl (lr _) rfl rfl ?_
      refine dr_no rfl rfl (lr _) rfl rfl ?_
      refine dr_no rfl rfl (lr _) rfl rfl ?_
      refine dr_no rfl rfl (lr _) rfl rfl ?_
      refine dr_ev rfl (ev_pickT (v := .raw _) (lr _) (lr _)) ?_
      refine dr_ev rfl (ev_mv (v := .raw _) (lr _)) ?_
      refine dr_no rfl rfl (lr _) rfl rfl ?_
      refine dr_no rfl rfl (lr _) rfl rfl ?_
      refine dr_no rfl rfl (lr _) rfl rfl ?_
      refine dr_no rfl rfl (lr _) rfl rfl ?_
      refine dr_ev rfl (ev_pickT (v := .raw _) (lr _) (lr _)) ?_
      refine dr_end (sq_nil ?_)
      refine aw_true (lr _) ?_
      refine aw_seq (aw_region ?_)
      refine asr (lr _) rfl ?_
      refine sq_nil (aw_ret ?_)
      exact retQ_pure (v := .raw _) rfl rfl (Less.eq (by rw [scOK_bad (i := k) (by omega) (by simp [scBad, *])]))
     ·
      have g5' := g5
      try simp only [qq] at g5'
      refine dr_yes rfl rfl (less_b g5) rfl (ev_fieldAddr fo84_2 (lr _)) ?_
      refine dr_yes rfl rfl (less_b g5) rfl (ev_load (lr _) rfl ty3 rfl) ?_
      refine dr_yes rfl rfl (less_b g5) rfl (ev_fieldAddr fo84_1 (lr _)) ?_
      refine dr_yes rfl rfl (less_b g5) rfl (ev_load (lr _) rfl ty3 rfl) ?_
      refine dr_yes rfl rfl (less_b g5) rfl (ev_call en89 (lr _) (in_pure _ _ _) ⟨lr _, lr _, lr _, trivial⟩) ?_
      refine dr_yes rfl rfl (less_b g5) rfl (ev_not (lr _)) ?_
      refine dr_ev rfl (ev_pickF (v := .raw _) (less_b g5) (lr _)) ?_
      refine dr_ev rfl (ev_mv (v := .raw _) (lr _)) ?_
      refine dr_split 52 (lr _) (fun g6 => ?_) (fun g6 => ?_)
      ·
       have g6' := g6
       try simp only [qq] at g6'
       refine dr_no rfl rfl (less_b g6) rfl rfl ?_
       refine dr_no rfl rfl (less_b g6) rfl rfl ?_
       refine dr_no rfl rfl (less_b g6) rfl rfl ?_
       refine dr_no rfl rfl (less_b g6) rfl rfl ?_
       refine dr_no rfl rfl (less_b g6) rfl rfl ?_
       refine dr_no rfl rfl (less_b g6) rfl rfl ?_
       refine dr_no rfl rfl (less_b g6) rfl rfl ?_
       refine dr_no rfl rfl (less_b g6) rfl rfl ?_
       refine dr_ev rfl (ev_pickT (v := .raw _) (less_b g6) (lr _)) ?_
       refine dr_ev rfl (ev_mv (v := .raw _) (lr _)) ?_
       refine dr_no rfl rfl (lr _) rfl rfl ?_
       refine dr_no rfl rfl (lr _) rfl rfl ?_
       refine dr_no rfl rfl (lr _) rfl rfl ?_
       refine dr_no rfl rfl (lr _) rfl rfl ?_
       refine dr_ev rfl (ev_pickT (v := .raw _) (lr _) (lr _)) ?_
       refine dr_end (sq_nil ?_)
       refine aw_true (lr _) ?_
       refine aw_seq (aw_region ?_)
       refine asr (lr _) rfl ?_
       refine sq_nil (aw_ret ?_)
       exact retQ_pure (v := .raw _) rfl rfl (Less.eq (by rw [scOK_bad (i := k) (by omega) (by simp [scBad, *])]))
      ·
       have g6' := g6
       try simp only [qq] at g6'
       refine dr_yes rfl rfl (less_b g6) rfl (ev_fieldAddr fo84_4 (lr _)) ?_
       refine dr_yes rfl rfl (less_b g6) rfl (ev_load (lr _) rfl ty3 rfl) ?_
       refine dr_yes rfl rfl (less_b g6) rfl (ev_fieldAddr fo27_3 (lr _)) ?_
       refine dr_yes rfl rfl (less_b g6) rfl (ev_load (lr _) rfl ty25 rfl) ?_
       refine dr_yes rfl rfl (less_b g6) rfl (ev_len_map sl25 (lr _)) ?_
       refine dr_yes rfl rfl (less_b g6) rfl (ev_sub (lr _) (lr _) (wr (by omega) (by omega))) ?_
       refine dr_yes rfl rfl (less_b g6) rfl (ev_call en89 (lr _) (in_pure _ _ _) ⟨lr _, lr _, lr _, trivial⟩) ?_
       refine dr_yes rfl rfl (less_b g6) rfl (ev_not (lr _)) ?_
       refine dr_ev rfl (ev_pickF (v := .raw _) (less_b g6) (lr _)) ?_
       refine dr_ev rfl (ev_mv (v := .raw _) (lr _)) ?_
       refine dr_split 62 (lr _) (fun g7 => ?_) (fun g7 => ?_)
       ·
        have g7' := g7
        try simp only [qq] at g7'
        refine dr_no rfl rfl (less_b g7) rfl rfl ?_
        refine dr_no rfl rfl (less_b g7) rfl rfl ?_
        refine dr_no rfl rfl (less_b g7) rfl rfl ?_
        refine dr_no rfl rfl (less_b g7) rfl rfl ?_
        refine dr_ev rfl (ev_pickT (v := .raw _) (less_b g7) (lr _)) ?_
        refine dr_end (sq_nil ?_)
        refine aw_true (lr _) ?_
        refine aw_seq (aw_region ?_)
        refine asr (lr _) rfl ?_
        refine sq_nil (aw_ret ?_)
        exact retQ_pure (v := .raw _) rfl rfl (Less.eq (by rw [scOK_bad (i := k) (by omega) (by simp [scBad, *])]))
       ·
        have g7' := g7
        try simp only [qq] at g7'
        refine dr_yes rfl rfl (less_b g7) rfl (ev_fieldAddr fo84_4 (lr _)) ?_
        refine dr_yes rfl rfl (less_b g7) rfl (ev_load (lr _) rfl ty3 rfl) ?_
        refine dr_yes rfl rfl (less_b g7) rfl (ev_mv (v := .raw _) (lr _)) ?_
        refine dr_yes rfl rfl (less_b g7) rfl (ev_eql (lr _) (lr _)) ?_
        refine dr_ev rfl (ev_pickF (v := .raw _) (less_b g7) (lr _)) ?_
        refine dr_end (sq_nil ?_)
        refine aw_cond (lr _) (fun c8 => ?_) (fun c8 => ?_)
        ·
         have c8' := c8
         try simp only [qq] at c8'
         refine aw_seq (aw_region ?_)
         refine asr (lr _) rfl ?_
         refine sq_nil (aw_ret ?_)
         exact retQ_pure (v := .raw _) rfl rfl (Less.eq (by rw [scOK_bad (i := k) (by omega) (by simp [scBad, *])]))
        ·
         have c8' := c8
         try simp only [qq] at c8'
         refine aw_skip (aw_seq (aw_region ?_))
         refine sq_ev rfl (ev_fieldAddr fo84_3 (lr _)) ?_
         refine sq_ev rfl (ev_load (lr _) rfl ty4 rfl) ?_
         refine sq_nil ?_
         refine aw_cond (lr _) (fun c9 => ?_) (fun c9 => ?_)
         ·
          have c9' := c9
          try simp only [qq] at c9'
          refine aw_region ?_
          refine mvr (lr _) rfl ?_
          refine sq_ev rfl (ev_add (lr _) (lr _) (wr (by omega) (by omega))) ?_
          refine asr (lr _) rfl ?_
          refine sq_nil (aw_region ?_)
          refine mvr (lr _) rfl ?_
          refine sq_ev rfl (ev_add (lr _) (lr _) (wr (by omega) (by omega))) ?_
          refine asr (lr _) rfl ?_
          refine sq_nil ?_
          have hstep := loosies_take (l := p.scenes) (k := k) (by omega)
          have hgood : scBad p.scenes k (by omega) = false := by simp [scBad, *]
          exact ⟨⟨k + 1, by omega, fun i h hi => (by by_cases e : i = k; (subst e; exact hgood); exact hok i h (by omega))⟩, by simp only; omega, Sub.fin 1 ⟨less_int (by rw [hstep]; simp [*]), lr _, lr _, trivial⟩ rfl (by simp [slotsIn, objsIn, sget, keepS, AObj.inB, AV.inB, AV.inL, AV.inE, inE_map]) (by simp [slotsIn, objsIn, sget, keepS, AObj.inB, AV.inB, AV.inL, AV.inE, inE_map]) (by simp [he0])⟩
         ·
          have c9' := c9
          try simp only [qq] at c9'
          refine aw_skip (aw_region ?_)
          refine mvr (lr _) rfl ?_
          refine sq_ev rfl (ev_add (lr _) (lr _) (wr (by omega) (by omega))) ?_
          refine asr (lr _) rfl ?_
          refine sq_nil ?_
          have hstep := loosies_take (l := p.scenes) (k := k) (by omega)
          have hgood : scBad p.scenes k (by omega) = false := by simp [scBad, *]
          exact ⟨⟨k + 1, by omega, fun i h hi => (by by_cases e : i = k; (subst e; exact hgood); exact hok i h (by omega))⟩, by simp only; omega, Sub.fin 1 ⟨less_int (by rw [hstep]; simp [*]), lr _, lr _, trivial⟩ rfl (by simp [slotsIn, objsIn, sget, keepS, AObj.inB, AV.inB, AV.inL, AV.inE, inE_map]) (by simp [slotsIn, objsIn, sget, keepS, AObj.inB, AV.inB, AV.inL, AV.inE, inE_map]) (by simp [he0])⟩
   ·
    have g3' := g3
    try simp only [qq] at g3'
    have g3n : ¬ (0 < k) := by omega
    refine dr_no rfl rfl (less_b g3) rfl rfl ?_
    refine dr_no rfl rfl (less_b g3) rfl rfl ?_
    refine dr_no rfl rfl (less_b g3) rfl rfl ?_
    refine dr_no rfl rfl (less_b g3) rfl rfl ?_
    refine dr_no rfl rfl (less_b g3) rfl rfl ?_
    refine dr_no rfl rfl (less_b g3) rfl rfl ?_
    refine dr_no rfl rfl (less_b g3) rfl rfl ?_
    refine dr_no rfl rfl (less_b g3) rfl rfl ?_
    refine dr_no rfl rfl (less_b g3) rfl rfl ?_
    refine dr_no rfl rfl (less_b g3) rfl rfl ?_
    refine dr_yes rfl rfl (less_b g2) rfl (ev_pickF (v := .raw _) (less_b g3) (lr _)) ?_
    refine dr_ev rfl (ev_pickF (v := .raw _) (less_b g2) (lr _)) ?_
    refine dr_ev rfl (ev_mv (v := .raw _) (lr _)) ?_
    refine dr_yes rfl rfl (lr _) rfl (ev_fieldAddr fo84_1 (lr _)) ?_
    refine dr_yes rfl rfl (lr _) rfl (ev_load (lr _) rfl ty3 rfl) ?_
    refine dr_yes rfl rfl (lr _) rfl (ev_call en89 (lr _) (in_pure _ _ _) ⟨lr _, lr _, lr _, trivial⟩) ?_
    refine dr_yes rfl rfl (lr _) rfl (ev_not (lr _)) ?_
    refine dr_ev rfl (ev_pickF (v := .raw _) (lr _) (lr _)) ?_
    refine dr_ev rfl (ev_mv (v := .raw _) (lr _)) ?_
    refine dr_split 44 (lr _) (fun g10 => ?_) (fun g10 => ?_)
    ·
     have g10' := g10
     try simp only [qq] at g10'
     refine dr_no rfl rfl (less_b g10) rfl rfl ?_
     refine dr_no rfl rfl (less_b g10) rfl rfl ?_
     refine dr_no rfl rfl (less_b g10) rfl rfl ?_
     refine dr_no rfl rfl (less_b g10) rfl rfl ?_
     refine dr_no rfl rfl (less_b g10) rfl rfl ?_
     refine dr_no rfl rfl (less_b g10) rfl rfl ?_
     refine dr_ev rfl (ev_pickT (v := .raw _) (less_b g10) (lr _)) ?_
     refine dr_ev rfl (ev_mv (v := .raw _) (lr _)) ?_
     refine dr_no rfl rfl (lr _) rfl rfl ?_
     refine dr_no rfl rfl (lr _) rfl rfl ?_
     refine dr_no rfl rfl (lr _) rfl rfl ?_
     refine dr_no rfl rfl (lr _) rfl rfl ?_
     refine dr_no rfl rfl (lr _) rfl rfl ?_
     refine dr_no rfl rfl (lr _) rfl rfl ?_
     refine dr_no rfl rfl (lr _) rfl rfl ?_
     refine dr_no rfl rfl (lr _) rfl rfl ?_
     refine dr_ev rfl (ev_pickT (v := .raw _) (lr _) (lr _)) ?_
     refine dr_ev rfl (ev_mv (v := .raw _) (lr _)) ?_
     refine dr_no rfl rfl (lr _) rfl rfl ?_
     refine dr_no rfl rfl (lr _) rfl rfl ?_
     refine dr_no rfl rfl (lr _) rfl rfl ?_
     refine dr_no rfl rfl (lr _) rfl rfl ?_
     refine dr_ev rfl (ev_pickT (v := .raw _) (lr _) (lr _)) ?_
     refine dr_end (sq_nil ?_)
     refine aw_true (lr _) ?_
     refine aw_seq (aw_region ?_)
     refine asr (lr _) rfl ?_
     refine sq_nil (aw_ret ?_)
     exact retQ_pure (v := .raw _) rfl rfl (Less.eq (by rw [scOK_bad (i := k) (by omega) (by simp [scBad, *])]))
    ·
     have g10' := g10
     try simp only [qq] at g10'
     refine dr_yes rfl rfl (less_b g10) rfl (ev_fieldAddr fo84_2 (lr _)) ?_
     refine dr_yes rfl rfl (less_b g10) rfl (ev_load (lr _) rfl ty3 rfl) ?_
     refine dr_yes rfl rfl (less_b g10) rfl (ev_fieldAddr fo84_1 (lr _)) ?_
     refine dr_yes rfl rfl (less_b g10) rfl (ev_load (lr _) rfl ty3 rfl) ?_
     refine dr_yes rfl rfl (less_b g10) rfl (ev_call en89 (lr _) (in_pure _ _ _) ⟨lr _, lr _, lr _, trivial⟩) ?_
     refine dr_yes rfl rfl (less_b g10) rfl (ev_not (lr _)) ?_
     refine dr_ev rfl (ev_pickF (v := .raw _) (less_b g10) (lr _)) ?_
     refine dr_ev rfl (ev_mv (v := .raw _) (lr _)) ?_
     refine dr_split 52 (lr _) (fun g11 => ?_) (fun g11 => ?_)
     ·
      have g11' := g11
      try simp only [qq] at g11'
      refine dr_no rfl rfl (less_b g11) rfl rfl ?_
      refine dr_no rfl rfl (less_b g11) rfl rfl ?_
      refine dr_no rfl rfl (less_b g11) rfl rfl ?_
      refine dr_no rfl rfl (less_b g11) rfl rfl ?_
      refine dr_no rfl rfl (less_b g11) rfl rfl ?_
      refine dr_no rfl rfl (less_b g11) rfl rfl ?_
      refine dr_no rfl rfl (less_b g11) rfl rfl ?_
      refine dr_no rfl rfl (less_b g11) rfl rfl ?_
      refine dr_ev rfl (ev_pickT (v := .raw _) (less_b g11) (lr _)) ?_
      refine dr_ev rfl (ev_mv (v := .raw _) (lr _)) ?_
      refine dr_no rfl rfl (lr _) rfl rfl ?_
      refine dr_no rfl rfl (lr _) rfl rfl ?_
      refine dr_no rfl rfl (lr _) rfl rfl ?_
      refine dr_no rfl rfl (lr _) rfl rfl ?_
      refine dr_ev rfl (ev_pickT (v := .raw _) (lr _) (lr _)) ?_
      refine dr_end (sq_nil ?_)
      refine aw_true (lr _) ?_
      refine aw_seq (aw_region ?_)
      refine asr (lr _) rfl ?_
      refine sq_nil (aw_ret ?_)
      exact retQ_pure (v := .raw _) rfl rfl (Less.eq (by rw [scOK_bad (i := k) (by omega) (by simp [scBad, *])]))
     ·
      have g11' := g11
      try simp only [qq] at g11'
      refine dr_yes rfl rfl (less_b g11) rfl (ev_fieldAddr fo84_4 (lr _)) ?_
      refine dr_yes rfl rfl (less_b g11) rfl (ev_load (lr _) rfl ty3 rfl) ?_
      refine dr_yes rfl rfl (less_b g11) rfl (ev_fieldAddr fo27_3 (lr _)) ?_
      refine dr_yes rfl rfl (less_b g11) rfl (ev_load (lr _) rfl ty25 rfl) ?_
      refine dr_yes rfl rfl (less_b g11) rfl (ev_len_map sl25 (lr _)) ?_
      refine dr_yes rfl rfl (less_b g11) rfl (ev_sub (lr _) (lr _) (wr (by omega) (by omega))) ?_
      refine dr_yes rfl rfl (less_b g11) rfl (ev_call en89 (lr _) (in_pure _ _ _) ⟨lr _, lr _, lr _, trivial⟩) ?_
      refine dr_yes rfl rfl (less_b g11) rfl (ev_not (lr _)) ?_
      refine dr_ev rfl (ev_pickF (v := .raw _) (less_b g11) (lr _)) ?_
      refine dr_ev rfl (ev_mv (v := .raw _) (lr _)) ?_
      refine dr_split 62 (lr _) (fun g12 => ?_) (fun g12 => ?_)
      ·
       have g12' := g12
       try simp only [qq] at g12'
       refine dr_no rfl rfl (less_b g12) rfl rfl ?_
       refine dr_no rfl rfl (less_b g12) rfl rfl ?_
       refine dr_no rfl rfl (less_b g12) rfl rfl ?_
       refine dr_no rfl rfl (less_b g12) rfl rfl ?_
       refine dr_ev rfl (ev_pickT (v := .raw _) (less_b g12) (lr _)) ?_
       refine dr_end (sq_nil ?_)
       refine aw_true (lr _) ?_
       refine aw_seq (aw_region ?_)
       refine asr (lr _) rfl ?_
       refine sq_nil (aw_ret ?_)
       exact retQ_pure (v := .raw _) rfl rfl (Less.eq (by rw [scOK_bad (i := k) (by omega) (by simp [scBad, *])]))
      ·
       have g12' := g12
       try simp only [qq] at g12'
       refine dr_yes rfl rfl (less_b g12) rfl (ev_fieldAddr fo84_4 (lr _)) ?_
       refine dr_yes rfl rfl (less_b g12) rfl (ev_load (lr _) rfl ty3 rfl) ?_
       refine dr_yes rfl rfl (less_b g12) rfl (ev_mv (v := .raw _) (lr _)) ?_
       refine dr_yes rfl rfl (less_b g12) rfl (ev_eql (lr _) (lr _)) ?_
       refine dr_ev rfl (ev_pickF (v := .raw _) (less_b g12) (lr _)) ?_
       refine dr_end (sq_nil ?_)
       refine aw_cond (lr _) (fun c13 => ?_) (fun c13 => ?_)
       ·
        have c13' := c13
        try simp only [qq] at c13'
        refine aw_seq (aw_region ?_)
        refine asr (lr _) rfl ?_
        refine sq_nil (aw_ret ?_)
        exact retQ_pure (v := .raw _) rfl rfl (Less.eq (by rw [scOK_bad (i := k) (by omega) (by simp [scBad, *])]))
       ·
        have c13' := c13
        try simp only [qq] at c13'
        refine aw_skip (aw_seq (aw_region ?_))
        refine sq_ev rfl (ev_fieldAddr fo84_3 (lr _)) ?_
        refine sq_ev rfl (ev_load (lr _) rfl ty4 rfl) ?_
        refine sq_nil ?_
        refine aw_cond (lr _) (fun c14 => ?_) (fun c14 => ?_)
        ·
         have c14' := c14
         try simp only [qq] at c14'
         refine aw_region ?_
         refine mvr (lr _) rfl ?_
         refine sq_ev rfl (ev_add (lr _) (lr _) (wr (by omega) (by omega))) ?_
         refine asr (lr _) rfl ?_
         refine sq_nil (aw_region ?_)
         refine mvr (lr _) rfl ?_
         refine sq_ev rfl (ev_add (lr _) (lr _) (wr (by omega) (by omega))) ?_
         refine asr (lr _) rfl ?_
         refine sq_nil ?_
         have hstep := loosies_take (l := p.scenes) (k := k) (by omega)
         have hgood : scBad p.scenes k (by omega) = false := by simp [scBad, *]
         exact ⟨⟨k + 1, by omega, fun i h hi => (by by_cases e : i = k; (subst e; exact hgood); exact hok i h (by omega))⟩, by simp only; omega, Sub.fin 1 ⟨less_int (by rw [hstep]; simp [*]), lr _, lr _, trivial⟩ rfl (by simp [slotsIn, objsIn, sget, keepS, AObj.inB, AV.inB, AV.inL, AV.inE, inE_map]) (by simp [slotsIn, objsIn, sget, keepS, AObj.inB, AV.inB, AV.inL, AV.inE, inE_map]) (by simp [he0])⟩
        ·
         have c14' := c14
         try simp only [qq] at c14'
         refine aw_skip (aw_region ?_)
         refine mvr (lr _) rfl ?_
         refine sq_ev rfl (ev_add (lr _) (lr _) (wr (by omega) (by omega))) ?_
         refine asr (lr _) rfl ?_
         refine sq_nil ?_
         have hstep := loosies_take (l := p.scenes) (k := k) (by omega)
         have hgood : scBad p.scenes k (by omega) = false := by simp [scBad, *]
         exact ⟨⟨k + 1, by omega, fun i h hi => (by by_cases e : i = k; (subst e; exact hgood); exact hok i h (by omega))⟩, by simp only; omega, Sub.fin 1 ⟨less_int (by rw [hstep]; simp [*]), lr _, lr _, trivial⟩ rfl (by simp [slotsIn, objsIn, sget, keepS, AObj.inB, AV.inB, AV.inL, AV.inE, inE_map]) (by simp [slotsIn, objsIn, sget, keepS, AObj.inB, AV.inB, AV.inL, AV.inE, inE_map]) (by simp [he0])⟩
 ·
  have c1' := c1
  try simp only [qq] at c1'
  refine aw_exit (aw_seq (aw_region ?_))
  refine mvr (lr _) rfl ?_
  refine sq_ev rfl (ev_leq (lr _) (lr _)) ?_
  refine asr (lr _) rfl ?_
  refine sq_nil (aw_ret ?_)
  exact retQ_pure (v := .raw _) rfl rfl (Less.eq (by rw [scOK_end hk c1' hok]))
set_option maxHeartbeats 1000000 in
theorem plan_pure (p : Pl) (hl : p.scenes.length ≤ 1000000) : APure Tryz.prog 24 [plan p] (B (PlOK p)) := by
 refine apure_of (rs := [.tmp 2]) Tryz.func24 rfl rfl (Nat.le_of_ble_eq_true rfl) (by simp [AV.pureL, AV.pureB, AV.pureE, pureE_map]) (rfl) fun e0 he0 => ?_
 refine aw_seq (aw_region ?_)
 refine sq_box rfl (lr _) rfl ?_
 refine asr (lr _) rfl ?_
 refine sq_nil (aw_seq (aw_region ?_))
 refine sq_ev rfl (ev_fieldAddr fo27_0 (lr _)) ?_
 refine sq_ev rfl (ev_load (lr _) rfl ty3 rfl) ?_
 refine sq_ev rfl (ev_call en89 (lr _) (in_pure _ _ _) ⟨lr _, lr _, lr _, trivial⟩) ?_
 refine mvr (lr _) rfl ?_
 refine sq_split 6 (lr _) (fun g1 => ?_) (fun g1 => ?_)
 ·
  have g1' := g1
  try simp only [qq] at g1'
  refine sq_yes rfl rfl (less_b g1) rfl (ev_fieldAddr fo27_1 (lr _)) ?_
  refine sq_yes rfl rfl (less_b g1) rfl (ev_index_box ar24 (lr _) (lr _) rfl (by decide)) ?_
  refine sq_yes rfl rfl (less_b g1) rfl (ev_load_agg (lr _) rfl ty23 rfl) ?_
  refine sq_yes rfl rfl (less_b g1) rfl (ev_call en90 (lr _) (window_pure _ _) ⟨lr _, trivial⟩) ?_
  refine sq_ev rfl (ev_pickT (v := .raw _) (less_b g1) (lr _)) ?_
  refine mvr (lr _) rfl ?_
  refine sq_split 12 (lr _) (fun g2 => ?_) (fun g2 => ?_)
  ·
   have g2' := g2
   try simp only [qq] at g2'
   refine sq_yes rfl rfl (less_b g2) rfl (ev_fieldAddr fo27_1 (lr _)) ?_
   refine sq_yes rfl rfl (less_b g2) rfl (ev_index_box ar24 (lr _) (lr _) rfl (by decide)) ?_
   refine sq_yes rfl rfl (less_b g2) rfl (ev_load_agg (lr _) rfl ty23 rfl) ?_
   refine sq_yes rfl rfl (less_b g2) rfl (ev_call en90 (lr _) (window_pure _ _) ⟨lr _, trivial⟩) ?_
   refine sq_ev rfl (ev_pickT (v := .raw _) (less_b g2) (lr _)) ?_
   refine mvr (lr _) rfl ?_
   refine sq_split 18 (lr _) (fun g3 => ?_) (fun g3 => ?_)
   ·
    have g3' := g3
    try simp only [qq] at g3'
    refine sq_yes rfl rfl (less_b g3) rfl (ev_fieldAddr fo27_2 (lr _)) ?_
    refine sq_yes rfl rfl (less_b g3) rfl (ev_load_agg (lr _) rfl ty23 rfl) ?_
    refine sq_yes rfl rfl (less_b g3) rfl (ev_call en90 (lr _) (window_pure _ _) ⟨lr _, trivial⟩) ?_
    refine sq_ev rfl (ev_pickT (v := .raw _) (less_b g3) (lr _)) ?_
    refine mvr (lr _) rfl ?_
    refine sq_split 23 (lr _) (fun g4 => ?_) (fun g4 => ?_)
    ·
     have g4' := g4
     try simp only [qq] at g4'
     refine sq_yes rfl rfl (less_b g4) rfl (ev_fieldAddr fo27_3 (lr _)) ?_
     refine sq_yes rfl rfl (less_b g4) rfl (ev_load (lr _) rfl ty25 rfl) ?_
     refine sq_yes rfl rfl (less_b g4) rfl (ev_len_map sl25 (lr _)) ?_
     refine sq_yes rfl rfl (less_b g4) rfl (ev_call en89 (lr _) (in_pure _ _ _) ⟨lr _, lr _, lr _, trivial⟩) ?_
     refine sq_ev rfl (ev_pickT (v := .raw _) (less_b g4) (lr _)) ?_
     refine mvr (lr _) rfl ?_
     refine sq_split 29 (lr _) (fun g5 => ?_) (fun g5 => ?_)
     ·
      have g5' := g5
      try simp only [qq] at g5'
      refine sq_yes rfl rfl (less_b g5) rfl (ev_load_agg (lr _) rfl ty27 rfl) ?_
      refine sq_yes rfl rfl (less_b g5) rfl (ev_call en91 (lr _) (scenes_pure _ hl) ⟨lr _, trivial⟩) ?_
      refine sq_ev rfl (ev_pickT (v := .raw _) (less_b g5) (lr _)) ?_
      refine asr (lr _) rfl ?_
      refine sq_nil (aw_ret ?_)
      exact retQ_pure (v := .raw _) rfl rfl (Less.eq (by simp [PlOK, *]))
     ·
      have g5' := g5
      try simp only [qq] at g5'
      refine sq_no rfl rfl (less_b g5) rfl rfl ?_
      refine sq_no rfl rfl (less_b g5) rfl rfl ?_
      refine sq_ev rfl (ev_pickF (v := .raw _) (less_b g5) (lr _)) ?_
      refine asr (lr _) rfl ?_
      refine sq_nil (aw_ret ?_)
      exact retQ_pure (v := .raw _) rfl rfl (Less.eq (by simp [PlOK, *]))
    ·
     have g4' := g4
     try simp only [qq] at g4'
     refine sq_no rfl rfl (less_b g4) rfl rfl ?_
     refine sq_no rfl rfl (less_b g4) rfl rfl ?_
     refine sq_no rfl rfl (less_b g4) rfl rfl ?_
     refine sq_no rfl rfl (less_b g4) rfl rfl ?_
     refine sq_ev rfl (ev_pickF (v := .raw _) (less_b g4) (lr _)) ?_
     refine mvr (lr _) rfl ?_
     refine sq_no rfl rfl (lr _) rfl rfl ?_
     refine sq_no rfl rfl (lr _) rfl rfl ?_
     refine pf rfl (lr _) (lr _) ?_
     refine asr (lr _) rfl ?_
     refine sq_nil (aw_ret ?_)
     exact retQ_pure (v := .raw _) rfl rfl (Less.eq (by simp [PlOK, *]))
   ·
    have g3' := g3
    try simp only [qq] at g3'
    refine sq_no rfl rfl (less_b g3) rfl rfl ?_
    refine sq_no rfl rfl (less_b g3) rfl rfl ?_
    refine sq_no rfl rfl (less_b g3) rfl rfl ?_
    refine sq_ev rfl (ev_pickF (v := .raw _) (less_b g3) (lr _)) ?_
    refine mvr (lr _) rfl ?_
    refine sq_no rfl rfl (lr _) rfl rfl ?_
    refine sq_no rfl rfl (lr _) rfl rfl ?_
    refine sq_no rfl rfl (lr _) rfl rfl ?_
    refine sq_no rfl rfl (lr _) rfl rfl ?_
    refine pf rfl (lr _) (lr _) ?_
    refine mvr (lr _) rfl ?_
    refine sq_no rfl rfl (lr _) rfl rfl ?_
    refine sq_no rfl rfl (lr _) rfl rfl ?_
    refine pf rfl (lr _) (lr _) ?_
    refine asr (lr _) rfl ?_
    refine sq_nil (aw_ret ?_)
    exact retQ_pure (v := .raw _) rfl rfl (Less.eq (by simp [PlOK, *]))
  ·
   have g2' := g2
   try simp only [qq] at g2'
   refine sq_no rfl rfl (less_b g2) rfl rfl ?_
   refine sq_no rfl rfl (less_b g2) rfl rfl ?_
   refine sq_no rfl rfl (less_b g2) rfl rfl ?_
   refine sq_no rfl rfl (less_b g2) rfl rfl ?_
   refine sq_ev rfl (ev_pickF (v := .raw _) (less_b g2) (lr _)) ?_
   refine mvr (lr _) rfl ?_
   refine sq_no rfl rfl (lr _) rfl rfl ?_
   refine sq_no rfl rfl (lr _) rfl rfl ?_
   refine sq_no rfl rfl (lr _) rfl rfl ?_
   refine pf rfl (lr _) (lr _) ?_
   refine mvr (lr _) rfl ?_
   refine sq_no rfl rfl (lr _) rfl rfl ?_
   refine sq_no rfl rfl (lr _) rfl rfl ?_
   refine sq_no rfl rfl (lr _) rfl rfl ?_
   refine sq_no rfl rfl (lr _) rfl rfl ?_
   refine pf rfl (lr _) (lr _) ?_
   refine mvr (lr _) rfl ?_
   refine sq_no rfl rfl (lr _) rfl rfl ?_
   refine sq_no rfl rfl (lr _) rfl rfl ?_
   refine pf rfl (lr _) (lr _) ?_
   refine asr (lr _) rfl ?_
   refine sq_nil (aw_ret ?_)
   exact retQ_pure (v := .raw _) rfl rfl (Less.eq (by simp [PlOK, *]))
 ·
  have g1' := g1
  try simp only [qq] at g1'
  refine sq_no rfl rfl (less_b g1) rfl rfl ?_
  refine sq_no rfl rfl (less_b g1) rfl rfl ?_
  refine sq_no rfl rfl (less_b g1) rfl rfl ?_
  refine sq_no rfl rfl (less_b g1) rfl rfl ?_
  refine sq_ev rfl (ev_pickF (v := .raw _) (less_b g1) (lr _)) ?_
  refine mvr (lr _) rfl ?_
  refine sq_no rfl rfl (lr _) rfl rfl ?_
  refine sq_no rfl rfl (lr _) rfl rfl ?_
  refine sq_no rfl rfl (lr _) rfl rfl ?_
  refine sq_no rfl rfl (lr _) rfl rfl ?_
  refine pf rfl (lr _) (lr _) ?_
  refine mvr (lr _) rfl ?_
  refine sq_no rfl rfl (lr _) rfl rfl ?_
  refine sq_no rfl rfl (lr _) rfl rfl ?_
  refine sq_no rfl rfl (lr _) rfl rfl ?_
  refine pf rfl (lr _) (lr _) ?_
  refine mvr (lr _) rfl ?_
  refine sq_no rfl rfl (lr _) rfl rfl ?_
  refine sq_no rfl rfl (lr _) rfl rfl ?_
  refine sq_no rfl rfl (lr _) rfl rfl ?_
  refine sq_no rfl rfl (lr _) rfl rfl ?_
  refine pf rfl (lr _) (lr _) ?_
  refine mvr (lr _) rfl ?_
  refine sq_no rfl rfl (lr _) rfl rfl ?_
  refine sq_no rfl rfl (lr _) rfl rfl ?_
  refine pf rfl (lr _) (lr _) ?_
  refine asr (lr _) rfl ?_
  refine sq_nil (aw_ret ?_)
  exact retQ_pure (v := .raw _) rfl rfl (Less.eq (by simp [PlOK, *]))
set_option maxHeartbeats 400000 in
theorem scene_pure (p : Pl) (n : Int) (hl : p.scenes.length ≤ 1000000) : APure Tryz.prog 35 [plan p, I n] (B (isSc p n)) := by
 refine apure_of (rs := [.tmp 4]) Tryz.func35 rfl rfl (Nat.le_of_ble_eq_true rfl) (by simp [AV.pureL, AV.pureB, AV.pureE, pureE_map]) (rfl) fun e0 he0 => ?_
 refine aw_seq (aw_region ?_)
 refine sq_box rfl (lr _) rfl ?_
 refine asr (lr _) rfl ?_
 refine sq_nil (aw_seq (aw_region ?_))
 refine mvr (lr _) rfl ?_
 refine sq_ev rfl (ev_fieldAddr fo27_3 (lr _)) ?_
 refine sq_ev rfl (ev_load (lr _) rfl ty25 rfl) ?_
 refine sq_ev rfl (ev_len_map sl25 (lr _)) ?_
 refine sq_ev rfl (ev_sub (lr _) (lr _) (wr (by omega) (by omega))) ?_
 refine sq_ev rfl (ev_call en89 (lr _) (in_pure _ _ _) ⟨lr _, lr _, lr _, trivial⟩) ?_
 refine asr (lr _) rfl ?_
 refine sq_nil (aw_ret ?_)
 exact retQ_pure (v := .raw _) rfl rfl (Less.eq (by simp [isSc]))
set_option maxHeartbeats 400000 in
theorem has_pure (l : List Int) (n : Int) (hl : l.length ≤ 1000000) : APure Tryz.prog 62 [ints l, I n] (B (has l n)) := by
 refine apure_of (rs := [.tmp 4]) Tryz.func62 rfl rfl (Nat.le_of_ble_eq_true rfl) (by simp [AV.pureL, AV.pureB, AV.pureE, pureE_map]) (rfl) fun e0 he0 => ?_
 refine aw_seq (aw_region ?_)
 refine asr (lr _) rfl ?_
 refine sq_nil (aw_seq (aw_seq (aw_region ?_)))
 refine asr (lr _) rfl ?_
 refine sq_nil (aw_block ?_)
 refine aw_loopk (ι := { k : Nat // k ≤ l.length ∧ ∀ j, (h : j < l.length) → j < k → l[j] ≠ n }) [0, 1] (fun i => [(5, I i.1)]) (fun H i => H) (fun i => l.length - i.1) (⟨0, Nat.zero_le _, by omega⟩) ⟨lr _, lr _, lr _, trivial⟩ rfl ?_
 rintro ⟨k, hk, hok⟩
 dsimp only [keepS, St.put, sget, slotsOf, List.map_cons, List.map_nil, List.cons_append, List.nil_append, List.length_cons, List.length_nil, Nat.reduceBEq, Nat.reduceAdd, cond_true, cond_false]
 refine aw_seq (aw_seq (aw_region ?_))
 refine mvr (lr _) rfl ?_
 refine mvs rfl (lr _) ?_
 refine sq_ev rfl (ev_len_map sl34 (lr _)) ?_
 refine sq_ev rfl (ev_lss (lr _) (lr _)) ?_
 refine sq_nil ?_
 refine aw_cond (lr _) (fun c1 => ?_) (fun c1 => ?_)
 ·
  have c1' := c1
  try simp only [qq] at c1'
  refine aw_skip (aw_seq (aw_block (aw_seq (aw_region ?_))))
  refine mvs rfl (lr _) ?_
  refine mvr (lr _) rfl ?_
  refine sq_ev rfl (ev_index_map sl34 (lr _) (lr _) rfl (by omega)) ?_
  refine sq_ev rfl (ev_load_i (lr _) ty3 rfl) ?_
  refine mvr (lr _) rfl ?_
  refine sq_ev rfl (ev_eql (lr _) (lr _)) ?_
  refine sq_nil ?_
  refine aw_cond (lr _) (fun c2 => ?_) (fun c2 => ?_)
  ·
   have c2' := c2
   try simp only [qq] at c2'
   refine aw_seq (aw_region ?_)
   refine asr (lr _) rfl ?_
   refine sq_nil (aw_ret ?_)
   exact retQ_pure (v := .raw _) rfl rfl (Less.eq (by rw [has_yes (k := k) (by omega) c2']))
  ·
   have c2' := c2
   try simp only [qq] at c2'
   refine aw_skip (aw_region ?_)
   refine mvr (lr _) rfl ?_
   refine sq_ev rfl (ev_add (lr _) (lr _) (wr (by omega) (by omega))) ?_
   refine asr (lr _) rfl ?_
   refine sq_nil ?_
   exact ⟨⟨k + 1, by omega, fun j h hj => (by by_cases e : j = k; (subst e; exact c2'); exact hok j h (by omega))⟩, by simp only; omega, Sub.slots ⟨lr _, lr _, lr _, trivial⟩⟩
 ·
  have c1' := c1
  try simp only [qq] at c1'
  refine aw_exit (aw_seq (aw_region ?_))
  refine asr (lr _) rfl ?_
  refine sq_nil (aw_ret ?_)
  exact retQ_pure (v := .raw _) rfl rfl (Less.eq (by rw [has_no c1' hok]))
set_option maxHeartbeats 1000000 in
theorem rising_pure (p : Pl) (l : List Int) (hp : p.scenes.length ≤ 1000000) (hl : l.length ≤ 1000000) : APure Tryz.prog 77 [plan p, ints l] (B (Ris p l)) := by
 refine apure_of (rs := [.tmp 4]) Tryz.func77 rfl rfl (Nat.le_of_ble_eq_true rfl) (by simp [AV.pureL, AV.pureB, AV.pureE, pureE_map]) (rfl) fun e0 he0 => ?_
 refine aw_seq (aw_region ?_)
 refine sq_box rfl (lr _) rfl ?_
 refine asr (lr _) rfl ?_
 refine sq_nil (aw_seq (aw_seq (aw_region ?_)))
 refine asr (lr _) rfl ?_
 refine sq_nil (aw_block ?_)
 refine aw_loopk (ι := { k : Nat // k ≤ l.length ∧ ∀ i, (h : i < l.length) → i < k → risBad p l i h = false }) [1, 2] (fun i => [(5, I i.1)]) (fun H i => H) (fun i => l.length - i.1) (⟨0, Nat.zero_le _, by omega⟩) ⟨lr _, lr _, lr _, trivial⟩ rfl ?_
 rintro ⟨k, hk, hok⟩
 dsimp only [keepS, St.put, sget, slotsOf, List.map_cons, List.map_nil, List.cons_append, List.nil_append, List.length_cons, List.length_nil, Nat.reduceBEq, Nat.reduceAdd, cond_true, cond_false]
 refine aw_seq (aw_seq (aw_region ?_))
 refine mvr (lr _) rfl ?_
 refine mvs rfl (lr _) ?_
 refine sq_ev rfl (ev_len_map sl34 (lr _)) ?_
 refine sq_ev rfl (ev_lss (lr _) (lr _)) ?_
 refine sq_nil ?_
 refine aw_cond (lr _) (fun c1 => ?_) (fun c1 => ?_)
 ·
  have c1' := c1
  try simp only [qq] at c1'
  refine aw_skip (aw_seq (aw_block (aw_seq ?_)))
  refine aw_draw 23 mo (by kernel_rfl) ?_
  refine dr_ev rfl (ev_load_agg (lr _) rfl ty27 rfl) ?_
  refine dr_ev rfl (ev_mv (v := .sl _ _) (lr _)) ?_
  refine dr_ev rfl (ev_mv (v := .raw _) (lr _)) ?_
  refine dr_ev rfl (ev_index_map sl34 (lr _) (lr _) rfl (by omega)) ?_
  refine dr_ev rfl (ev_load_i (lr _) ty3 rfl) ?_
  refine dr_ev rfl (ev_call en35 (lr _) (scene_pure _ _ hp) ⟨lr _, lr _, trivial⟩) ?_
  refine dr_ev rfl (ev_not (lr _)) ?_
  refine dr_ev rfl (ev_mv (v := .raw _) (lr _)) ?_
  refine dr_split 19 (lr _) (fun g2 => ?_) (fun g2 => ?_)
  ·
   have g2' := g2
   try simp only [qq] at g2'
   refine dr_no rfl rfl (less_b g2) rfl rfl ?_
   refine dr_no rfl rfl (less_b g2) rfl rfl ?_
   refine dr_no rfl rfl (less_b g2) rfl rfl ?_
   refine dr_no rfl rfl (lr _) rfl rfl ?_
   refine dr_no rfl rfl (lr _) rfl rfl ?_
   refine dr_no rfl rfl (lr _) rfl rfl ?_
   refine dr_no rfl rfl (lr _) rfl rfl ?_
   refine dr_no rfl rfl (lr _) rfl rfl ?_
   refine dr_no rfl rfl (lr _) rfl rfl ?_
   refine dr_no rfl rfl (lr _) rfl rfl ?_
   refine dr_no rfl rfl (lr _) rfl rfl ?_
   refine dr_no rfl rfl (lr _) rfl rfl ?_
   refine dr_no rfl rfl (lr _) rfl rfl ?_
   refine dr_no rfl rfl (less_b g2) rfl rfl ?_
   refine dr_ev rfl (ev_pickT (v := .raw _) (less_b g2) (lr _)) ?_
   refine dr_end (sq_nil ?_)
   refine aw_true (lr _) ?_
   refine aw_seq (aw_region ?_)
   refine asr (lr _) rfl ?_
   refine sq_nil (aw_ret ?_)
   exact retQ_pure (v := .raw _) rfl rfl (Less.eq (by rw [Ris, okAll_bad (i := k) (by omega) (by first | (simp [risBad, *]; done) | (simp_all [risBad]; done))]))
  ·
   have g2' := g2
   try simp only [qq] at g2'
   refine dr_yes rfl rfl (less_b g2) rfl (ev_mv (v := .raw _) (lr _)) ?_
   refine dr_yes rfl rfl (less_b g2) rfl (ev_gtr (lr _) (lr _)) ?_
   refine dr_yes rfl rfl (less_b g2) rfl (ev_mv (v := .raw _) (lr _)) ?_
   refine dr_split 22 (lr _) (fun g3 => ?_) (fun g3 => ?_)
   ·
    have g3' := g3
    try simp only [qq] at g3'
    have g3n : 0 < k := by omega
    refine dr_yes rfl rfl (less_b g3) rfl (ev_mv (v := .sl _ _) (lr _)) ?_
    refine dr_yes rfl rfl (less_b g3) rfl (ev_mv (v := .raw _) (lr _)) ?_
    refine dr_yes rfl rfl (less_b g3) rfl (ev_index_map sl34 (lr _) (lr _) rfl (by omega)) ?_
    refine dr_yes rfl rfl (less_b g3) rfl (ev_load_i (lr _) ty3 rfl) ?_
    refine dr_yes rfl rfl (less_b g3) rfl (ev_mv (v := .sl _ _) (lr _)) ?_
    refine dr_yes rfl rfl (less_b g3) rfl (ev_mv (v := .raw _) (lr _)) ?_
    refine dr_yes rfl rfl (less_b g3) rfl (ev_sub (lr _) (lr _) (wr (by omega) (by omega))) ?_
    refine dr_yes rfl rfl (less_b g3) rfl (ev_index_map sl34 (lr _) (lr _) (show ((k : Int) - 1) = ((k - 1 : Nat) : Int) by omega) (by omega)) ?_
    refine dr_yes rfl rfl (less_b g3) rfl (ev_load_i (lr _) ty3 rfl) ?_
    refine dr_yes rfl rfl (less_b g3) rfl (ev_leq (lr _) (lr _)) ?_
    refine dr_yes rfl rfl (less_b g2) rfl (ev_pickT (v := .raw _) (less_b g3) (lr _)) ?_
    refine dr_ev rfl (ev_pickF (v := .raw _) (less_b g2) (lr _)) ?_
    refine dr_end (sq_nil ?_)
    refine aw_cond (lr _) (fun c4 => ?_) (fun c4 => ?_)
    ·
     have c4' := c4
     try simp only [qq] at c4'
     refine aw_seq (aw_region ?_)
     refine asr (lr _) rfl ?_
     refine sq_nil (aw_ret ?_)
     exact retQ_pure (v := .raw _) rfl rfl (Less.eq (by rw [Ris, okAll_bad (i := k) (by omega) (by first | (simp [risBad, *]; done) | (simp_all [risBad]; done))]))
    ·
     have c4' := c4
     try simp only [qq] at c4'
     refine aw_skip (aw_region ?_)
     refine mvr (lr _) rfl ?_
     refine sq_ev rfl (ev_add (lr _) (lr _) (wr (by omega) (by omega))) ?_
     refine asr (lr _) rfl ?_
     refine sq_nil ?_
     have hgood : risBad p l k (by omega) = false := by first | (simp [risBad, *]; done) | (simp_all [risBad]; done)
     exact ⟨⟨k + 1, by omega, fun i h hi => (by by_cases e : i = k; (subst e; exact hgood); exact hok i h (by omega))⟩, by simp only; omega, Sub.fin 1 ⟨lr _, lr _, lr _, trivial⟩ rfl (by simp [slotsIn, objsIn, sget, keepS, AObj.inB, AV.inB, AV.inL, AV.inE, inE_map]) (by simp [slotsIn, objsIn, sget, keepS, AObj.inB, AV.inB, AV.inL, AV.inE, inE_map]) (by simp [he0])⟩
   ·
    have g3' := g3
    try simp only [qq] at g3'
    have g3n : ¬ (0 < k) := by omega
    refine dr_no rfl rfl (less_b g3) rfl rfl ?_
    refine dr_no rfl rfl (less_b g3) rfl rfl ?_
    refine dr_no rfl rfl (less_b g3) rfl rfl ?_
    refine dr_no rfl rfl (less_b g3) rfl rfl ?_
    refine dr_no rfl rfl (less_b g3) rfl rfl ?_
    refine dr_no rfl rfl (less_b g3) rfl rfl ?_
    refine dr_no rfl rfl (less_b g3) rfl rfl ?_
    refine dr_no rfl rfl (less_b g3) rfl rfl ?_
    refine dr_no rfl rfl (less_b g3) rfl rfl ?_
    refine dr_no rfl rfl (less_b g3) rfl rfl ?_
    refine dr_yes rfl rfl (less_b g2) rfl (ev_pickF (v := .raw _) (less_b g3) (lr _)) ?_
    refine dr_ev rfl (ev_pickF (v := .raw _) (less_b g2) (lr _)) ?_
    refine dr_end (sq_nil ?_)
    refine aw_false (lr _) ?_
    refine aw_skip (aw_region ?_)
    refine mvr (lr _) rfl ?_
    refine sq_ev rfl (ev_add (lr _) (lr _) (wr (by omega) (by omega))) ?_
    refine asr (lr _) rfl ?_
    refine sq_nil ?_
    have hgood : risBad p l k (by omega) = false := by first | (simp [risBad, *]; done) | (simp_all [risBad]; done)
    exact ⟨⟨k + 1, by omega, fun i h hi => (by by_cases e : i = k; (subst e; exact hgood); exact hok i h (by omega))⟩, by simp only; omega, Sub.fin 1 ⟨lr _, lr _, lr _, trivial⟩ rfl (by simp [slotsIn, objsIn, sget, keepS, AObj.inB, AV.inB, AV.inL, AV.inE, inE_map]) (by simp [slotsIn, objsIn, sget, keepS, AObj.inB, AV.inB, AV.inL, AV.inE, inE_map]) (by simp [he0])⟩
 ·
  have c1' := c1
  try simp only [qq] at c1'
  refine aw_exit (aw_seq (aw_region ?_))
  refine asr (lr _) rfl ?_
  refine sq_nil (aw_ret ?_)
  exact retQ_pure (v := .raw _) rfl rfl (Less.eq (by rw [Ris, okAll_end hk c1' hok]))
set_option maxHeartbeats 2000000 in
theorem choice_pure (p : Pl) (l : List Int) (hp : p.scenes.length ≤ 1000000) (hl : l.length ≤ 1000000) : APure Tryz.prog 78 [plan p, ints l] (B (isCh p l)) := by
 refine apure_of (rs := [.tmp 4]) Tryz.func78 rfl rfl (Nat.le_of_ble_eq_true rfl) (by simp [AV.pureL, AV.pureB, AV.pureE, pureE_map]) (rfl) fun e0 he0 => ?_
 refine aw_seq (aw_region ?_)
 refine sq_box rfl (lr _) rfl ?_
 refine asr (lr _) rfl ?_
 refine sq_nil (aw_seq (aw_seq (aw_region ?_)))
 refine asr (lr _) rfl ?_
 refine sq_nil (aw_block ?_)
 refine aw_loopk (ι := { k : Nat // k ≤ p.scenes.length ∧ ∀ i, (h : i < p.scenes.length) → i < k → chBad p l i h = false }) [1, 2] (fun i => [(5, I i.1)]) (fun H i => H) (fun i => p.scenes.length - i.1) (⟨0, Nat.zero_le _, by omega⟩) ⟨lr _, lr _, lr _, trivial⟩ rfl ?_
 rintro ⟨k, hk, hok⟩
 dsimp only [keepS, St.put, sget, slotsOf, List.map_cons, List.map_nil, List.cons_append, List.nil_append, List.length_cons, List.length_nil, Nat.reduceBEq, Nat.reduceAdd, cond_true, cond_false]
 refine aw_seq (aw_seq (aw_region ?_))
 refine mvr (lr _) rfl ?_
 refine sq_ev rfl (ev_fieldAddr fo27_3 (lr _)) ?_
 refine sq_ev rfl (ev_load (lr _) rfl ty25 rfl) ?_
 refine sq_ev rfl (ev_len_map sl25 (lr _)) ?_
 refine sq_ev rfl (ev_lss (lr _) (lr _)) ?_
 refine sq_nil ?_
 refine aw_cond (lr _) (fun c1 => ?_) (fun c1 => ?_)
 ·
  have c1' := c1
  try simp only [qq] at c1'
  refine aw_skip (aw_seq (aw_block (aw_seq (aw_region ?_))))
  refine sq_ev rfl (ev_fieldAddr fo27_3 (lr _)) ?_
  refine sq_ev rfl (ev_load (lr _) rfl ty25 rfl) ?_
  refine mvr (lr _) rfl ?_
  refine sq_ev rfl (ev_index_map sl25 (lr _) (lr _) rfl (by omega)) ?_
  refine sq_ev rfl (ev_load_agg_i (lr _) ty84 (Nat.le_of_ble_eq_true rfl)) ?_
  refine sq_alloc rfl z84 ?_
  refine sq_store rfl (lr _) (lr _) rfl rfl ty84 rfl rfl ?_
  refine sq_nil (aw_seq (aw_region ?_))
  refine mvs rfl (lr _) ?_
  refine mvr (lr _) rfl ?_
  refine sq_ev rfl (ev_call en62 (lr _) (has_pure _ _ hl) ⟨lr _, lr _, trivial⟩) ?_
  refine sq_ev rfl (ev_not (lr _)) ?_
  refine mvr (lr _) rfl ?_
  refine sq_split 23 (lr _) (fun g2 => ?_) (fun g2 => ?_)
  ·
   have g2' := g2
   try simp only [qq] at g2'
   refine sq_yes rfl rfl (less_b g2) rfl (ev_fieldAddr fo84_3 (lr _)) ?_
   refine sq_yes rfl rfl (less_b g2) rfl (ev_load (lr _) rfl ty4 rfl) ?_
   refine sq_yes rfl rfl (less_b g2) rfl (ev_not (lr _)) ?_
   refine sq_ev rfl (ev_pickT (v := .raw _) (less_b g2) (lr _)) ?_
   refine mvr (lr _) rfl ?_
   refine sq_split 28 (lr _) (fun g3 => ?_) (fun g3 => ?_)
   ·
    have g3' := g3
    try simp only [qq] at g3'
    refine sq_no rfl rfl (less_b g3) rfl rfl ?_
    refine sq_no rfl rfl (less_b g3) rfl rfl ?_
    refine sq_no rfl rfl (less_b g3) rfl rfl ?_
    refine sq_no rfl rfl (less_b g3) rfl rfl ?_
    refine sq_no rfl rfl (lr _) rfl rfl ?_
    refine sq_no rfl rfl (lr _) rfl rfl ?_
    refine sq_no rfl rfl (lr _) rfl rfl ?_
    refine sq_no rfl rfl (less_b g3) rfl rfl ?_
    refine sq_no rfl rfl (less_b g3) rfl rfl ?_
    refine sq_no rfl rfl (lr _) rfl rfl ?_
    refine sq_no rfl rfl (lr _) rfl rfl ?_
    refine sq_no rfl rfl (lr _) rfl rfl ?_
    refine sq_no rfl rfl (lr _) rfl rfl ?_
    refine sq_no rfl rfl (lr _) rfl rfl ?_
    refine sq_no rfl rfl (less_b g3) rfl rfl ?_
    refine sq_ev rfl (ev_pickT (v := .raw _) (less_b g3) (lr _)) ?_
    refine sq_nil ?_
    refine aw_true (lr _) ?_
    refine aw_seq (aw_region ?_)
    refine asr (lr _) rfl ?_
    refine sq_nil (aw_ret ?_)
    exact retQ_pure (v := .raw _) rfl rfl (Less.eq (by rw [isCh, okAll_bad (i := k) (by omega) (by first | (simp [chBad, *]; done) | (simp_all [chBad]; done))]))
   ·
    have g3' := g3
    try simp only [qq] at g3'
    refine sq_yes rfl rfl (less_b g3) rfl (ev_mv (v := .sl _ _) (lr _)) ?_
    refine sq_yes rfl rfl (less_b g3) rfl (ev_mv (v := .raw _) (lr _)) ?_
    refine sq_yes rfl rfl (less_b g3) rfl (ev_call en62 (lr _) (has_pure _ _ hl) ⟨lr _, lr _, trivial⟩) ?_
    refine sq_yes rfl rfl (less_b g3) rfl (ev_mv (v := .raw _) (lr _)) ?_
    refine sq_split 32 (lr _) (fun g4 => ?_) (fun g4 => ?_)
    ·
     have g4' := g4
     try simp only [qq] at g4'
     refine sq_yes rfl rfl (less_b g4) rfl (ev_fieldAddr fo84_4 (lr _)) ?_
     refine sq_yes rfl rfl (less_b g4) rfl (ev_load (lr _) rfl ty3 rfl) ?_
     refine sq_yes rfl rfl (less_b g4) rfl (ev_geq (lr _) (lr _)) ?_
     refine sq_yes rfl rfl (less_b g3) rfl (ev_pickT (v := .raw _) (less_b g4) (lr _)) ?_
     refine sq_yes rfl rfl (less_b g3) rfl (ev_mv (v := .raw _) (lr _)) ?_
     refine sq_split 37 (lr _) (fun g5 => ?_) (fun g5 => ?_)
     ·
      have g5' := g5
      try simp only [qq] at g5'
      refine sq_yes rfl rfl (less_b g5) rfl (ev_mv (v := .sl _ _) (lr _)) ?_
      refine sq_yes rfl rfl (less_b g5) rfl (ev_fieldAddr fo84_4 (lr _)) ?_
      refine sq_yes rfl rfl (less_b g5) rfl (ev_load (lr _) rfl ty3 rfl) ?_
      refine sq_yes rfl rfl (less_b g5) rfl (ev_call en62 (lr _) (has_pure _ _ hl) ⟨lr _, lr _, trivial⟩) ?_
      refine sq_yes rfl rfl (less_b g5) rfl (ev_not (lr _)) ?_
      refine sq_yes rfl rfl (less_b g3) rfl (ev_pickT (v := .raw _) (less_b g5) (lr _)) ?_
      refine sq_ev rfl (ev_pickF (v := .raw _) (less_b g3) (lr _)) ?_
      refine sq_nil ?_
      refine aw_cond (lr _) (fun c6 => ?_) (fun c6 => ?_)
      ·
       have c6' := c6
       try simp only [qq] at c6'
       refine aw_seq (aw_region ?_)
       refine asr (lr _) rfl ?_
       refine sq_nil (aw_ret ?_)
       exact retQ_pure (v := .raw _) rfl rfl (Less.eq (by rw [isCh, okAll_bad (i := k) (by omega) (by first | (simp [chBad, *]; done) | (simp_all [chBad]; done))]))
      ·
       have c6' := c6
       try simp only [qq] at c6'
       refine aw_skip (aw_region ?_)
       refine mvr (lr _) rfl ?_
       refine sq_ev rfl (ev_add (lr _) (lr _) (wr (by omega) (by omega))) ?_
       refine asr (lr _) rfl ?_
       refine sq_nil ?_
       have hgood : chBad p l k (by omega) = false := by first | (simp [chBad, *]; done) | (simp_all [chBad]; done)
       exact ⟨⟨k + 1, by omega, fun i h hi => (by by_cases e : i = k; (subst e; exact hgood); exact hok i h (by omega))⟩, by simp only; omega, Sub.fin 1 ⟨lr _, lr _, lr _, trivial⟩ rfl (by simp [slotsIn, objsIn, sget, keepS, AObj.inB, AV.inB, AV.inL, AV.inE, inE_map]) (by simp [slotsIn, objsIn, sget, keepS, AObj.inB, AV.inB, AV.inL, AV.inE, inE_map]) (by simp [he0])⟩
     ·
      have g5' := g5
      try simp only [qq] at g5'
      refine sq_no rfl rfl (less_b g5) rfl rfl ?_
      refine sq_no rfl rfl (less_b g5) rfl rfl ?_
      refine sq_no rfl rfl (less_b g5) rfl rfl ?_
      refine sq_no rfl rfl (less_b g5) rfl rfl ?_
      refine sq_no rfl rfl (less_b g5) rfl rfl ?_
      refine sq_yes rfl rfl (less_b g3) rfl (ev_pickF (v := .raw _) (less_b g5) (lr _)) ?_
      refine sq_ev rfl (ev_pickF (v := .raw _) (less_b g3) (lr _)) ?_
      refine sq_nil ?_
      refine aw_false (lr _) ?_
      refine aw_skip (aw_region ?_)
      refine mvr (lr _) rfl ?_
      refine sq_ev rfl (ev_add (lr _) (lr _) (wr (by omega) (by omega))) ?_
      refine asr (lr _) rfl ?_
      refine sq_nil ?_
      have hgood : chBad p l k (by omega) = false := by first | (simp [chBad, *]; done) | (simp_all [chBad]; done)
      exact ⟨⟨k + 1, by omega, fun i h hi => (by by_cases e : i = k; (subst e; exact hgood); exact hok i h (by omega))⟩, by simp only; omega, Sub.fin 1 ⟨lr _, lr _, lr _, trivial⟩ rfl (by simp [slotsIn, objsIn, sget, keepS, AObj.inB, AV.inB, AV.inL, AV.inE, inE_map]) (by simp [slotsIn, objsIn, sget, keepS, AObj.inB, AV.inB, AV.inL, AV.inE, inE_map]) (by simp [he0])⟩
    ·
     have g4' := g4
     try simp only [qq] at g4'
     refine sq_no rfl rfl (less_b g4) rfl rfl ?_
     refine sq_no rfl rfl (less_b g4) rfl rfl ?_
     refine sq_no rfl rfl (less_b g4) rfl rfl ?_
     refine sq_yes rfl rfl (less_b g3) rfl (ev_pickF (v := .raw _) (less_b g4) (lr _)) ?_
     refine sq_yes rfl rfl (less_b g3) rfl (ev_mv (v := .raw _) (lr _)) ?_
     refine sq_no rfl rfl (lr _) rfl rfl ?_
     refine sq_no rfl rfl (lr _) rfl rfl ?_
     refine sq_no rfl rfl (lr _) rfl rfl ?_
     refine sq_no rfl rfl (lr _) rfl rfl ?_
     refine sq_no rfl rfl (lr _) rfl rfl ?_
     refine sq_yes rfl rfl (less_b g3) rfl (ev_pickF (v := .raw _) (lr _) (lr _)) ?_
     refine sq_ev rfl (ev_pickF (v := .raw _) (less_b g3) (lr _)) ?_
     refine sq_nil ?_
     refine aw_false (lr _) ?_
     refine aw_skip (aw_region ?_)
     refine mvr (lr _) rfl ?_
     refine sq_ev rfl (ev_add (lr _) (lr _) (wr (by omega) (by omega))) ?_
     refine asr (lr _) rfl ?_
     refine sq_nil ?_
     have hgood : chBad p l k (by omega) = false := by first | (simp [chBad, *]; done) | (simp_all [chBad]; done)
     exact ⟨⟨k + 1, by omega, fun i h hi => (by by_cases e : i = k; (subst e; exact hgood); exact hok i h (by omega))⟩, by simp only; omega, Sub.fin 1 ⟨lr _, lr _, lr _, trivial⟩ rfl (by simp [slotsIn, objsIn, sget, keepS, AObj.inB, AV.inB, AV.inL, AV.inE, inE_map]) (by simp [slotsIn, objsIn, sget, keepS, AObj.inB, AV.inB, AV.inL, AV.inE, inE_map]) (by simp [he0])⟩
  ·
   have g2' := g2
   try simp only [qq] at g2'
   refine sq_no rfl rfl (less_b g2) rfl rfl ?_
   refine sq_no rfl rfl (less_b g2) rfl rfl ?_
   refine sq_no rfl rfl (less_b g2) rfl rfl ?_
   refine sq_ev rfl (ev_pickF (v := .raw _) (less_b g2) (lr _)) ?_
   refine mvr (lr _) rfl ?_
   refine ysl rfl rfl (lr _) rfl (lr _) ?_
   refine ymr rfl rfl (lr _) rfl (lr _) ?_
   refine sq_yes rfl rfl (lr _) rfl (ev_call en62 (lr _) (has_pure _ _ hl) ⟨lr _, lr _, trivial⟩) ?_
   refine ymr rfl rfl (lr _) rfl (lr _) ?_
   refine sq_split 32 (lr _) (fun g7 => ?_) (fun g7 => ?_)
   ·
    have g7' := g7
    try simp only [qq] at g7'
    refine sq_yes rfl rfl (less_b g7) rfl (ev_fieldAddr fo84_4 (lr _)) ?_
    refine sq_yes rfl rfl (less_b g7) rfl (ev_load (lr _) rfl ty3 rfl) ?_
    refine sq_yes rfl rfl (less_b g7) rfl (ev_geq (lr _) (lr _)) ?_
    refine sq_yes rfl rfl (lr _) rfl (ev_pickT (v := .raw _) (less_b g7) (lr _)) ?_
    refine ymr rfl rfl (lr _) rfl (lr _) ?_
    refine sq_split 37 (lr _) (fun g8 => ?_) (fun g8 => ?_)
    ·
     have g8' := g8
     try simp only [qq] at g8'
     refine sq_yes rfl rfl (less_b g8) rfl (ev_mv (v := .sl _ _) (lr _)) ?_
     refine sq_yes rfl rfl (less_b g8) rfl (ev_fieldAddr fo84_4 (lr _)) ?_
     refine sq_yes rfl rfl (less_b g8) rfl (ev_load (lr _) rfl ty3 rfl) ?_
     refine sq_yes rfl rfl (less_b g8) rfl (ev_call en62 (lr _) (has_pure _ _ hl) ⟨lr _, lr _, trivial⟩) ?_
     refine sq_yes rfl rfl (less_b g8) rfl (ev_not (lr _)) ?_
     refine sq_yes rfl rfl (lr _) rfl (ev_pickT (v := .raw _) (less_b g8) (lr _)) ?_
     refine pf rfl (lr _) (lr _) ?_
     refine sq_nil ?_
     refine aw_cond (lr _) (fun c9 => ?_) (fun c9 => ?_)
     ·
      have c9' := c9
      try simp only [qq] at c9'
      refine aw_seq (aw_region ?_)
      refine asr (lr _) rfl ?_
      refine sq_nil (aw_ret ?_)
      exact retQ_pure (v := .raw _) rfl rfl (Less.eq (by rw [isCh, okAll_bad (i := k) (by omega) (by first | (simp [chBad, *]; done) | (simp_all [chBad]; done))]))
     ·
      have c9' := c9
      try simp only [qq] at c9'
      refine aw_skip (aw_region ?_)
      refine mvr (lr _) rfl ?_
      refine sq_ev rfl (ev_add (lr _) (lr _) (wr (by omega) (by omega))) ?_
      refine asr (lr _) rfl ?_
      refine sq_nil ?_
      have hgood : chBad p l k (by omega) = false := by first | (simp [chBad, *]; done) | (simp_all [chBad]; done)
      exact ⟨⟨k + 1, by omega, fun i h hi => (by by_cases e : i = k; (subst e; exact hgood); exact hok i h (by omega))⟩, by simp only; omega, Sub.fin 1 ⟨lr _, lr _, lr _, trivial⟩ rfl (by simp [slotsIn, objsIn, sget, keepS, AObj.inB, AV.inB, AV.inL, AV.inE, inE_map]) (by simp [slotsIn, objsIn, sget, keepS, AObj.inB, AV.inB, AV.inL, AV.inE, inE_map]) (by simp [he0])⟩
    ·
     have g8' := g8
     try simp only [qq] at g8'
     refine sq_no rfl rfl (less_b g8) rfl rfl ?_
     refine sq_no rfl rfl (less_b g8) rfl rfl ?_
     refine sq_no rfl rfl (less_b g8) rfl rfl ?_
     refine sq_no rfl rfl (less_b g8) rfl rfl ?_
     refine sq_no rfl rfl (less_b g8) rfl rfl ?_
     refine sq_yes rfl rfl (lr _) rfl (ev_pickF (v := .raw _) (less_b g8) (lr _)) ?_
     refine pf rfl (lr _) (lr _) ?_
     refine sq_nil ?_
     refine aw_false (lr _) ?_
     refine aw_skip (aw_region ?_)
     refine mvr (lr _) rfl ?_
     refine sq_ev rfl (ev_add (lr _) (lr _) (wr (by omega) (by omega))) ?_
     refine asr (lr _) rfl ?_
     refine sq_nil ?_
     have hgood : chBad p l k (by omega) = false := by first | (simp [chBad, *]; done) | (simp_all [chBad]; done)
     exact ⟨⟨k + 1, by omega, fun i h hi => (by by_cases e : i = k; (subst e; exact hgood); exact hok i h (by omega))⟩, by simp only; omega, Sub.fin 1 ⟨lr _, lr _, lr _, trivial⟩ rfl (by simp [slotsIn, objsIn, sget, keepS, AObj.inB, AV.inB, AV.inL, AV.inE, inE_map]) (by simp [slotsIn, objsIn, sget, keepS, AObj.inB, AV.inB, AV.inL, AV.inE, inE_map]) (by simp [he0])⟩
   ·
    have g7' := g7
    try simp only [qq] at g7'
    refine sq_no rfl rfl (less_b g7) rfl rfl ?_
    refine sq_no rfl rfl (less_b g7) rfl rfl ?_
    refine sq_no rfl rfl (less_b g7) rfl rfl ?_
    refine sq_yes rfl rfl (lr _) rfl (ev_pickF (v := .raw _) (less_b g7) (lr _)) ?_
    refine ymr rfl rfl (lr _) rfl (lr _) ?_
    refine sq_no rfl rfl (lr _) rfl rfl ?_
    refine sq_no rfl rfl (lr _) rfl rfl ?_
    refine sq_no rfl rfl (lr _) rfl rfl ?_
    refine sq_no rfl rfl (lr _) rfl rfl ?_
    refine sq_no rfl rfl (lr _) rfl rfl ?_
    refine sq_yes rfl rfl (lr _) rfl (ev_pickF (v := .raw _) (lr _) (lr _)) ?_
    refine pf rfl (lr _) (lr _) ?_
    refine sq_nil ?_
    refine aw_false (lr _) ?_
    refine aw_skip (aw_region ?_)
    refine mvr (lr _) rfl ?_
    refine sq_ev rfl (ev_add (lr _) (lr _) (wr (by omega) (by omega))) ?_
    refine asr (lr _) rfl ?_
    refine sq_nil ?_
    have hgood : chBad p l k (by omega) = false := by first | (simp [chBad, *]; done) | (simp_all [chBad]; done)
    exact ⟨⟨k + 1, by omega, fun i h hi => (by by_cases e : i = k; (subst e; exact hgood); exact hok i h (by omega))⟩, by simp only; omega, Sub.fin 1 ⟨lr _, lr _, lr _, trivial⟩ rfl (by simp [slotsIn, objsIn, sget, keepS, AObj.inB, AV.inB, AV.inL, AV.inE, inE_map]) (by simp [slotsIn, objsIn, sget, keepS, AObj.inB, AV.inB, AV.inL, AV.inE, inE_map]) (by simp [he0])⟩
 ·
  have c1' := c1
  try simp only [qq] at c1'
  refine aw_exit (aw_seq (aw_region ?_))
  refine asr (lr _) rfl ?_
  refine sq_nil (aw_ret ?_)
  exact retQ_pure (v := .raw _) rfl rfl (Less.eq (by rw [isCh, okAll_end hk c1' hok]))
end Go.Proofs.YtjghdbdiejaacaaGreatDoor
namespace Go.Proofs.YtjghdbdiejaacaaGreatDoor
open Go Go.Ab Ni
theorem en78 : Ent Tryz.prog 78 := Ent.of Tryz.func78 (by kernel_rfl) rfl
end Go.Proofs.YtjghdbdiejaacaaGreatDoor
namespace Go.Proofs.YtjghdbdiejaacaaGreatDoor
open Go Go.Ab Ni
section
variable {r : Option Nat} {H : List AObj} {ρ : Operand → AV} {d : Option Tmp} {t : TypeId} {p : String} {af : Array Edge} {g : Option (Nat × Bool)} {x y : Operand} {yt : TypeId} {a b c e : Int}
end
set_option maxHeartbeats 400000 in
theorem rshort_pure (p : Pl) : APure Tryz.prog 20 [plan p] (B (decide (p.scenes.length ≤ 12))) := by
 refine apure_of (rs := [.tmp 2]) Tryz.func20 rfl rfl (Nat.le_of_ble_eq_true rfl) (by simp [AV.pureL, AV.pureB, AV.pureE, pureE_map]) (rfl) fun e0 he0 => ?_
 refine aw_seq (aw_region ?_)
 refine sq_box rfl (lr _) rfl ?_
 refine asr (lr _) rfl ?_
 refine sq_nil (aw_seq (aw_region ?_))
 refine sq_ev rfl (ev_fieldAddr fo27_3 (lr _)) ?_
 refine sq_ev rfl (ev_load (lr _) rfl ty25 rfl) ?_
 refine sq_ev rfl (ev_len_map sl25 (lr _)) ?_
 refine sq_ev rfl (ev_leq (lr _) (lr _)) ?_
 refine asr (lr _) rfl ?_
 refine sq_nil (aw_ret ?_)
 exact retQ_pure (v := .raw _) rfl rfl (Less.eq (by simp; omega))
end Go.Proofs.YtjghdbdiejaacaaGreatDoor
namespace Go.Proofs.YtjghdbdiejaacaaGreatDoor
open Go Go.Ab Ni
theorem en20 : Ent Tryz.prog 20 := Ent.of Tryz.func20 (by kernel_rfl) rfl
theorem en21 : Ent Tryz.prog 21 := Ent.of Tryz.func21 (by kernel_rfl) rfl
theorem en24 : Ent Tryz.prog 24 := Ent.of Tryz.func24 (by kernel_rfl) rfl
theorem same_selfN {p : Pl} {l : List Nat} (cv : CV p l) : APure Tryz.prog 27 [nats l, nats l] (B true) := by
  have h := same_pureN l l cv.len cv.len
  simpa using h
theorem short_no {p : Pl} (h : ¬ p.scenes.length ≤ 12) : APure Tryz.prog 20 [plan p] (B false) := by have := rshort_pure p; simpa [h] using this
theorem short_yes {p : Pl} (h : p.scenes.length ≤ 12) : APure Tryz.prog 20 [plan p] (B true) := by have := rshort_pure p; simpa [h] using this
theorem plan_no {p : Pl} (hs : p.scenes.length ≤ 12) (h : PlOK p = false) : APure Tryz.prog 24 [plan p] (B false) := by have := plan_pure p (by omega); rwa [h] at this
theorem plan_yes {p : Pl} (hs : p.scenes.length ≤ 12) (h : PlOK p = true) : APure Tryz.prog 24 [plan p] (B true) := by have := plan_pure p (by omega); rwa [h] at this
theorem ch_yes {p : Pl} (hs : p.scenes.length ≤ 12) (h : PlOK p = true) : APure Tryz.prog 22 [plan p] (.tup [natss (choicesC p), I 0]) := by have := nChoices_pure p (by omega); rwa [if_pos h] at this
theorem pr_nil {p : Pl} (hs : p.scenes.length ≤ 12) (h : PlOK p = true) (k : choicesC p = []) : APure Tryz.prog 23 [plan p] (.tup [.sl 1 [], .sl 1 [], I 5]) := by have := nProgramme_pure p (by omega); unfold progAV at this; rw [if_pos h, k] at this; exact this
theorem pr_cons {p : Pl} {l : List Nat} {r : List (List Nat)} (hs : p.scenes.length ≤ 12) (h : PlOK p = true) (k : choicesC p = l :: r) : APure Tryz.prog 23 [plan p] (.tup [nats l, ints (firstL p l), I 0]) := by have := nProgramme_pure p (by omega); unfold progAV at this; rw [if_pos h, k] at this; exact this
end Go.Proofs.YtjghdbdiejaacaaGreatDoor
namespace Go.Proofs.YtjghdbdiejaacaaGreatDoor
open Go Go.Ab Ni
section
variable {r : Option Nat} {H : List AObj} {ρ : Operand → AV} {d : Option Tmp} {t : TypeId} {p : String} {af : Array Edge} {g : Option (Nat × Bool)} {x y : Operand} {yt : TypeId}
end
theorem ok_len {p : Pl} (h : PlOK p = true) : p.scenes.length ≤ 10 := by
  unfold PlOK at h
  simp only [Bool.and_eq_true, decide_eq_true_eq, inn] at h
  omega
end Go.Proofs.YtjghdbdiejaacaaGreatDoor
namespace Go.Proofs.YtjghdbdiejaacaaGreatDoor
open Go Go.Ab Ni
theorem en45 : Ent Tryz.prog 45 := Ent.of Tryz.func45 (by kernel_rfl) rfl
theorem en47 : Ent Tryz.prog 47 := Ent.of Tryz.func47 (by kernel_rfl) rfl
theorem en77 : Ent Tryz.prog 77 := Ent.of Tryz.func77 (by kernel_rfl) rfl
set_option maxHeartbeats 400000 in
theorem rslim_pure (l : List Int) : APure Tryz.prog 45 [ints l] (B (decide (l.length ≤ 12))) := by
 refine apure_of (rs := [.tmp 2]) Tryz.func45 rfl rfl (Nat.le_of_ble_eq_true rfl) (by simp [AV.pureL, AV.pureB, AV.pureE, pureE_map]) (rfl) fun e0 he0 => ?_
 refine aw_seq (aw_region ?_)
 refine asr (lr _) rfl ?_
 refine sq_nil (aw_seq (aw_region ?_))
 refine mvs rfl (lr _) ?_
 refine sq_ev rfl (ev_len_map sl34 (lr _)) ?_
 refine sq_ev rfl (ev_leq (lr _) (lr _)) ?_
 refine asr (lr _) rfl ?_
 refine sq_nil (aw_ret ?_)
 exact retQ_pure (v := .raw _) rfl rfl (Less.eq (by simp; omega))
set_option maxHeartbeats 400000 in
theorem rchoice_pure (p : Pl) (l : List Int) (hp : p.scenes.length ≤ 1000000) (hl : l.length ≤ 1000000) : APure Tryz.prog 47 [plan p, ints l] (B (Ris p l && isCh p l)) := by
 refine apure_of (rs := [.tmp 4]) Tryz.func47 rfl rfl (Nat.le_of_ble_eq_true rfl) (by simp [AV.pureL, AV.pureB, AV.pureE, pureE_map]) (rfl) fun e0 he0 => ?_
 refine aw_seq (aw_region ?_)
 refine sq_box rfl (lr _) rfl ?_
 refine asr (lr _) rfl ?_
 refine sq_nil (aw_seq (aw_region ?_))
 refine sq_ev rfl (ev_load_agg (lr _) rfl ty27 rfl) ?_
 refine mvs rfl (lr _) ?_
 refine sq_ev rfl (ev_call en77 (lr _) (rising_pure p l hp hl) ⟨lr _, lr _, trivial⟩) ?_
 refine mvr (lr _) rfl ?_
 refine sq_split 8 (lr _) (fun g1 => ?_) (fun g1 => ?_)
 ·
  have g1' := g1
  try simp only [qq] at g1'
  refine sq_yes rfl rfl (less_b g1) rfl (ev_load_agg (lr _) rfl ty27 rfl) ?_
  refine sq_yes rfl rfl (less_b g1) rfl (ev_mv (v := .sl _ _) (lr _)) ?_
  refine sq_yes rfl rfl (less_b g1) rfl (ev_call en78 (lr _) (choice_pure p l hp hl) ⟨lr _, lr _, trivial⟩) ?_
  refine sq_ev rfl (ev_pickT (v := .raw _) (less_b g1) (lr _)) ?_
  refine asr (lr _) rfl ?_
  refine sq_nil (aw_ret ?_)
  exact retQ_pure (v := .raw _) rfl rfl (Less.eq (by simp [*]))
 ·
  have g1' := g1
  try simp only [qq] at g1'
  refine sq_no rfl rfl (less_b g1) rfl rfl ?_
  refine sq_no rfl rfl (less_b g1) rfl rfl ?_
  refine sq_no rfl rfl (less_b g1) rfl rfl ?_
  refine sq_ev rfl (ev_pickF (v := .raw _) (less_b g1) (lr _)) ?_
  refine asr (lr _) rfl ?_
  refine sq_nil (aw_ret ?_)
  exact retQ_pure (v := .raw _) rfl rfl (Less.eq (by simp [*]))
end Go.Proofs.YtjghdbdiejaacaaGreatDoor
namespace Go.Proofs.YtjghdbdiejaacaaGreatDoor
open Go Go.Ab Ni
theorem en55 : Ent Tryz.prog 55 := Ent.of Tryz.func55 (by kernel_rfl) rfl
theorem en58 : Ent Tryz.prog 58 := Ent.of Tryz.func58 (by kernel_rfl) rfl
theorem en59 : Ent Tryz.prog 59 := Ent.of Tryz.func59 (by kernel_rfl) rfl
def canAV (p : Pl) (l : List Int) : AV := if chosenB p l = true then .tup [B (canP p (dn l)), I 0] else .tup [B false, I 2]
def nfitsAV (p : Pl) (l ls : List Int) : AV := if chosenB p l = true ∧ lastsP p (dn l) ls = true then .tup [B (canP (pFF p (dn l) ls) (dn l)), I 0] else .tup [B false, I 2]
theorem canAV_pure (p : Pl) (l : List Int) : (canAV p l).pureB = true := by unfold canAV; split <;> rfl
theorem nfitsAV_pure (p : Pl) (l ls : List Int) : (nfitsAV p l ls).pureB = true := by unfold nfitsAV; split <;> rfl
theorem lasts_len {p : Pl} {l : List Nat} {ls : List Int} (h : l.length ≠ ls.length) : lastsP p l ls = false := by simp [lastsP, h]
theorem lasts_bad {p : Pl} {l : List Nat} {ls : List Int} {i : Nat} (h : i < l.length) (hb : lsBad p l ls i h = true) : lastsP p l ls = false := by
  unfold lastsP; rw [okAll_bad h hb, Bool.and_false]
theorem lasts_end {p : Pl} {l : List Nat} {ls : List Int} (hl : l.length = ls.length) {k : Nat} (hk : k ≤ l.length) (hn : ¬ (k : Int) < l.length) (h : ∀ i, (h : i < l.length) → i < k → lsBad p l ls i h = false) : lastsP p l ls = true := by
  unfold lastsP; rw [okAll_end hk hn h, Bool.and_true]; simpa using hl
theorem lasts_bds {p : Pl} {l : List Nat} {ls : List Int} (gp : GP p) (cv : CV p l) (h : lastsP p l ls = true) : ∀ x ∈ ls, 0 ≤ x ∧ x ≤ 10000 := fun x hx => by
  obtain ⟨hl, hv⟩ := lasts_at h
  obtain ⟨i, hi, rfl⟩ := List.getElem_of_mem hx
  have := hv i (by omega)
  rw [getD_at hi] at this
  have a1 := gp.least (cv.rng _ (List.getElem_mem (show i < l.length by omega)))
  have a2 := gp.most (cv.rng _ (List.getElem_mem (show i < l.length by omega)))
  omega
theorem parts_ok {p : Pl} (h : PlOK p = true) {l : List Nat} (cv : CV p l) : ∀ x ∈ l, 0 ≤ (scn p x).part ∧ (scn p x).part ≤ 2 := fun x hx => by
  obtain ⟨k, hk, hk3⟩ := partOf_ok h (cv.rng x hx); omega
set_option maxHeartbeats 1000000 in
theorem nCan_pure (p : Pl) (l : List Int) (hp : p.scenes.length ≤ 1000000) (hl : l.length ≤ 1000000) : APure Tryz.prog 55 [plan p, ints l] (canAV p l) := by
 refine apure_of (rs := [.tmp 4, .tmp 5]) Tryz.func55 rfl rfl (Nat.le_of_ble_eq_true rfl) (by simp [AV.pureL, AV.pureB, AV.pureE, pureE_map]) (canAV_pure p l) fun e0 he0 => ?_
 refine aw_seq (aw_region ?_)
 refine sq_box rfl (lr _) rfl ?_
 refine asr (lr _) rfl ?_
 refine asr (lr _) rfl ?_
 refine sq_nil (aw_seq (aw_region ?_))
 refine sq_ev rfl (ev_load_agg (lr _) rfl ty27 rfl) ?_
 refine mvs rfl (lr _) ?_
 refine sq_ev rfl (ev_call en107 (lr _) (nchosen_pure p l hp hl) ⟨lr _, lr _, trivial⟩) ?_
 refine sq_ev rfl (ev_mv (v := .tup _) (lr _)) ?_
 refine xtr rfl (lr _) rfl ?_
 refine xtr rfl (lr _) rfl ?_
 refine sq_alloc rfl z110 ?_
 refine sq_store rfl (lr _) (lr _) rfl rfl ty110 rfl rfl ?_
 refine asr (lr _) rfl ?_
 refine sq_nil (aw_seq (aw_seq (aw_region ?_)))
 refine mvr (lr _) rfl ?_
 refine sq_ev rfl (ev_not (lr _)) ?_
 refine sq_nil ?_
 refine aw_cond (lr _) (fun c1 => ?_) (fun c1 => ?_)
 ·
  have c1' := c1
  try simp only [qq] at c1'
  refine aw_seq (aw_region ?_)
  refine asr (lr _) rfl ?_
  refine asr (lr _) rfl ?_
  refine sq_nil (aw_ret ?_)
  exact retQ_pure (v := .tup [.raw _, .raw _]) rfl rfl (Less.eq (by simp [canAV, c1']))
 ·
  have c1' := c1
  try simp only [qq] at c1'
  obtain ⟨l', rfl, cv, gp, wp⟩ := chosen_up c1'
  refine aw_skip (aw_seq (aw_region ?_))
  refine sq_ev rfl (ev_load_agg (lr _) rfl ty110 rfl) ?_
  refine sq_ev rfl (ev_call en88 (lr _) (ncan_pure p l' gp cv) ⟨Less.eq (playedI_up p l'), trivial⟩) ?_
  refine asr (lr _) rfl ?_
  refine asr (lr _) rfl ?_
  refine sq_nil (aw_ret ?_)
  exact retQ_pure (v := .tup [.raw _, .raw _]) rfl rfl (Less.eq (by simp [canAV, c1', dn_up]))
set_option maxHeartbeats 2000000 in
theorem nFits_pure (p : Pl) (l ls : List Int) (hp : p.scenes.length ≤ 1000000) (hl : l.length ≤ 1000000) : APure Tryz.prog 59 [plan p, ints l, ints ls] (nfitsAV p l ls) := by
 refine apure_of (rs := [.tmp 6, .tmp 7]) Tryz.func59 rfl rfl (Nat.le_of_ble_eq_true rfl) (by simp [AV.pureL, AV.pureB, AV.pureE, pureE_map]) (nfitsAV_pure p l ls) fun e0 he0 => ?_
 refine aw_seq (aw_region ?_)
 refine sq_box rfl (lr _) rfl ?_
 refine asr (lr _) rfl ?_
 refine asr (lr _) rfl ?_
 refine sq_nil (aw_seq (aw_region ?_))
 refine sq_ev rfl (ev_load_agg (lr _) rfl ty27 rfl) ?_
 refine mvs rfl (lr _) ?_
 refine sq_ev rfl (ev_call en107 (lr _) (nchosen_pure p l hp hl) ⟨lr _, lr _, trivial⟩) ?_
 refine sq_ev rfl (ev_mv (v := .tup _) (lr _)) ?_
 refine xtr rfl (lr _) rfl ?_
 refine xtr rfl (lr _) rfl ?_
 refine sq_alloc rfl z110 ?_
 refine sq_store rfl (lr _) (lr _) rfl rfl ty110 rfl rfl ?_
 refine asr (lr _) rfl ?_
 refine sq_nil (aw_seq (aw_seq (aw_region ?_)))
 refine mvr (lr _) rfl ?_
 refine sq_ev rfl (ev_not (lr _)) ?_
 refine mvr (lr _) rfl ?_
 refine sq_split 20 (lr _) (fun g1 => ?_) (fun g1 => ?_)
 ·
  have g1' := g1
  try simp only [qq] at g1'
  refine sq_no rfl rfl (less_b g1) rfl rfl ?_
  refine sq_no rfl rfl (less_b g1) rfl rfl ?_
  refine sq_no rfl rfl (less_b g1) rfl rfl ?_
  refine sq_no rfl rfl (less_b g1) rfl rfl ?_
  refine sq_no rfl rfl (less_b g1) rfl rfl ?_
  refine sq_ev rfl (ev_pickT (v := .raw _) (less_b g1) (lr _)) ?_
  refine sq_nil ?_
  refine aw_true (lr _) ?_
  refine aw_seq (aw_region ?_)
  refine asr (lr _) rfl ?_
  refine asr (lr _) rfl ?_
  refine sq_nil (aw_ret ?_)
  exact retQ_pure (v := .tup [.raw _, .raw _]) rfl rfl (Less.eq (by rw [nfitsAV, if_neg (fun h => by rw [h.1] at g1'; cases g1')]))
 ·
  have g1' := g1
  try simp only [qq] at g1'
  refine sq_yes rfl rfl (less_b g1) rfl (ev_mv (v := .sl _ _) (lr _)) ?_
  refine sq_yes rfl rfl (less_b g1) rfl (ev_len_map sl34 (lr _)) ?_
  refine sq_yes rfl rfl (less_b g1) rfl (ev_mv (v := .sl _ _) (lr _)) ?_
  refine sq_yes rfl rfl (less_b g1) rfl (ev_len_map sl34 (lr _)) ?_
  refine sq_yes rfl rfl (less_b g1) rfl (ev_neq (lr _) (lr _)) ?_
  refine sq_ev rfl (ev_pickF (v := .raw _) (less_b g1) (lr _)) ?_
  refine sq_nil ?_
  refine aw_cond (lr _) (fun c2 => ?_) (fun c2 => ?_)
  ·
   have c2' := c2
   try simp only [qq] at c2'
   refine aw_seq (aw_region ?_)
   refine asr (lr _) rfl ?_
   refine asr (lr _) rfl ?_
   refine sq_nil (aw_ret ?_)
   exact retQ_pure (v := .tup [.raw _, .raw _]) rfl rfl (Less.eq (by rw [nfitsAV, if_neg (fun h => by have h2 := (lasts_at h.2).1; simp only [dn, List.length_map] at h2; omega)]))
  ·
   have c2' := c2
   try simp only [qq] at c2'
   refine aw_skip (aw_seq (aw_seq ?_))
   obtain ⟨l', rfl, cv, gp, wp⟩ := chosen_up (p := p) (l := l) (by simp_all)
   have hlen : l'.length = ls.length := by simp [up] at c2'; omega
   simp only [playedI, ints, eup]
   refine aw_region ?_
   refine mvs rfl (lr _) ?_
   refine sq_ev rfl (ev_len_map sl34 (lr _)) ?_
   refine mvr (lr _) rfl ?_
   refine sq_nil (aw_block ?_)
   refine aw_loopk (ι := { i : Nat // i ≤ l'.length ∧ ∀ j, (h : j < l'.length) → j < i → lsBad p l' ls j h = false }) [2, 3, 8, 27, 28] (fun i => [(29, I i.1)]) (fun H i => H.set 1 (.cells (playedC (pF p l' ls i.1) l'))) (fun i => l'.length - i.1) (⟨0, Nat.zero_le _, by omega⟩) ⟨lr _, lr _, lr _, lr _, lr _, lr _, trivial⟩ rfl ?_
   rintro ⟨i, hi, hok⟩
   dsimp only [keepS, St.put, sget, slotsOf, List.map_cons, List.map_nil, List.cons_append, List.nil_append, List.length_cons, List.length_nil, Nat.reduceBEq, Nat.reduceAdd, cond_true, cond_false]
   refine aw_seq (aw_region ?_)
   refine sq_ev rfl (ev_lss (lr _) (lr _)) ?_
   refine sq_nil (aw_seq ?_)
   refine aw_cond (lr _) (fun c3 => ?_) (fun c3 => ?_)
   ·
    have c3' := c3
    try simp only [qq] at c3'
    have hi' : i < l'.length := by omega
    have hlt := cv.rng _ (List.getElem_mem hi')
    have he := scn_eq hlt
    have hil : i < ls.length := by omega
    have hgd : ls.getD i 0 = ls[i] := getD_at hil 0
    have hgl : l'.getD i 0 = l'[i] := getD_at hi' 0
    have hpl := (pF_fields p l' ls i).2.2.2
    refine aw_skip (aw_seq (aw_block (aw_seq (aw_region ?_))))
    refine mvr (lr _) rfl ?_
    refine sq_ev rfl (ev_index_map sl34 (lr _) (lr _) rfl (by omega)) ?_
    refine sq_ev rfl (ev_load_i (lr _) ty3 rfl) ?_
    refine asr (lr _) rfl ?_
    refine asr (lr _) rfl ?_
    refine sq_nil (aw_seq (aw_seq ?_))
    refine aw_draw 18 mo (by kernel_rfl) ?_
    refine dr_ev rfl (ev_mv (v := .sl _ _) (lr _)) ?_
    refine dr_ev rfl (ev_mv (v := .raw _) (lr _)) ?_
    refine dr_ev rfl (ev_index_map sl34 (lr _) (lr _) rfl (by omega)) ?_
    refine dr_ev rfl (ev_load_i (lr _) ty3 rfl) ?_
    refine dr_ev rfl (ev_fieldAddr fo27_3 (lr _)) ?_
    refine dr_ev rfl (ev_load (lr _) rfl ty25 rfl) ?_
    refine dr_ev rfl (ev_mv (v := .raw _) (lr _)) ?_
    refine dr_ev rfl (ev_index_map sl25 (lr _) (lr _) rfl (by omega)) ?_
    refine dr_ev rfl (ev_fieldAddr_i fo84_1 (lr _)) ?_
    refine dr_ev rfl (ev_load_i (lr _) ty3 rfl) ?_
    refine dr_ev rfl (ev_fieldAddr fo27_3 (lr _)) ?_
    refine dr_ev rfl (ev_load (lr _) rfl ty25 rfl) ?_
    refine dr_ev rfl (ev_mv (v := .raw _) (lr _)) ?_
    refine dr_ev rfl (ev_index_map sl25 (lr _) (lr _) rfl (by omega)) ?_
    refine dr_ev rfl (ev_fieldAddr_i fo84_2 (lr _)) ?_
    refine dr_ev rfl (ev_load_i (lr _) ty3 rfl) ?_
    refine dr_ev rfl (ev_call en122 (lr _) (nin_pure _ _ _) ⟨lr _, lr _, lr _, trivial⟩) ?_
    refine dr_ev rfl (ev_not (lr _)) ?_
    refine dr_end (sq_nil ?_)
    refine aw_cond (lr _) (fun c4 => ?_) (fun c4 => ?_)
    ·
     have c4' := c4
     try simp only [qq] at c4'
     refine aw_seq (aw_region ?_)
     refine asr (lr _) rfl ?_
     refine asr (lr _) rfl ?_
     refine sq_nil (aw_ret ?_)
     exact retQ_pure (v := .tup [.raw _, .raw _]) rfl rfl (Less.eq (by rw [nfitsAV, if_neg (fun h => by have h2 := h.2; rw [dn_up, lasts_bad hi' (by simp only [lsBad, hgd, he, c4', Bool.not_false])] at h2; cases h2)]))
    ·
     have c4' := c4
     try simp only [qq] at c4'
     have hgood : lsBad p l' ls i hi' = false := by simp only [lsBad, hgd, he, inn] at c4' ⊢; simpa using c4'
     have e3 : pF p l' ls (i + 1) = fixP (pF p l' ls i) l'[i] ls[i] := by rw [pF, hgd, hgl]
     refine aw_skip ?_
     refine aw_draw 9 mo (by kernel_rfl) ?_
     refine dr_ev rfl (ev_fieldAddr fo110_0 (lr _)) ?_
     refine dr_ev rfl (ev_load_agg (lr _) rfl ty27 rfl) ?_
     refine dr_ev rfl (ev_mv (v := .raw _) (lr _)) ?_
     refine dr_ev rfl (ev_mv (v := .sl _ _) (lr _)) ?_
     refine dr_ev rfl (ev_mv (v := .raw _) (lr _)) ?_
     refine dr_ev rfl (ev_index_map sl34 (lr _) (lr _) rfl (by omega)) ?_
     refine dr_ev rfl (ev_load_i (lr _) ty3 rfl) ?_
     refine dr_ev rfl (ev_call en87 (lr _) (nfixed_pure (p := pF p l' ls i) (k := l'[i]) (n := ls[i]) (by rw [hpl]; exact hlt) (by rw [hpl]; exact hp)) ⟨lr _, lr _, lr _, trivial⟩) ?_
     refine dr_ev rfl (ev_fieldAddr fo110_0 (lr _)) ?_
     refine dr_end ?_
     refine sq_store rfl (lr _) (lr _) rfl rfl ty27 rfl rfl ?_
     refine sq_nil (aw_region ?_)
     refine sq_ev rfl (ev_add (lr _) (lr _) (wr (by omega) (by omega))) ?_
     refine mvr (lr _) rfl ?_
     refine sq_nil ?_
     exact ⟨⟨i + 1, by omega, fun j h hj => (by by_cases e : j = i; (subst e; exact hgood); exact hok j h (by omega))⟩, by simp only; omega, Sub.fin 2 ⟨lr _, lr _, lr _, lr _, lr _, lr _, trivial⟩ (congrArg (fun (q : Pl) => [AObj.cells (planC p), AObj.cells (playedC q l')]) e3.symm) (by simp [slotsIn, objsIn, sget, keepS, AObj.inB, AV.inB, AV.inL, AV.inE, inE_map, inE_ints, inE_sc, -List.map_append, -List.map_take, -List.map_map]) (by simp [slotsIn, objsIn, sget, keepS, AObj.inB, AV.inB, AV.inL, AV.inE, inE_map, inE_ints, inE_sc, -List.map_append, -List.map_take, -List.map_map]) (by simp [he0])⟩
   ·
    have c3' := c3
    try simp only [qq] at c3'
    obtain rfl : i = l'.length := by omega
    have hlast : lastsP p l' ls = true := lasts_end hlen (Nat.le_refl _) (by omega) hok
    obtain ⟨gpF, wpF, cvF⟩ := pF_ok gp wp cv hlast l'.length (Nat.le_refl _)
    refine aw_exit (aw_seq (aw_region ?_))
    refine sq_ev rfl (ev_load_agg (lr _) rfl ty110 rfl) ?_
    refine sq_ev rfl (ev_call en88 (lr _) (ncan_pure (pFF p l' ls) l' gpF cvF) ⟨lr _, trivial⟩) ?_
    refine asr (lr _) rfl ?_
    refine asr (lr _) rfl ?_
    refine sq_nil (aw_ret ?_)
    exact retQ_pure (v := .tup [.raw _, .raw _]) rfl rfl (Less.eq (by rw [nfitsAV, if_pos ⟨by simp_all, by rw [dn_up]; exact hlast⟩, dn_up]))
set_option maxHeartbeats 1000000 in
theorem rlasts_pure (p : Pl) (l : List Nat) (ls : List Int) (cv : CV p l) (hls : ls.length ≤ 1000000) : APure Tryz.prog 58 [plan p, nats l, ints ls] (B (lastsP p l ls)) := by
 refine apure_of (rs := [.tmp 6]) Tryz.func58 rfl rfl (Nat.le_of_ble_eq_true rfl) (by simp [AV.pureL, AV.pureB, AV.pureE, pureE_map]) (rfl) fun e0 he0 => ?_
 refine aw_seq (aw_region ?_)
 refine sq_box rfl (lr _) rfl ?_
 refine asr (lr _) rfl ?_
 refine sq_nil (aw_seq (aw_seq (aw_region ?_)))
 refine mvs rfl (lr _) ?_
 refine sq_ev rfl (ev_len_map sl34 (lr _)) ?_
 refine mvs rfl (lr _) ?_
 refine sq_ev rfl (ev_len_map sl34 (lr _)) ?_
 refine sq_ev rfl (ev_neq (lr _) (lr _)) ?_
 refine sq_nil ?_
 refine aw_cond (lr _) (fun c1 => ?_) (fun c1 => ?_)
 ·
  have c1' := c1
  try simp only [qq] at c1'
  refine aw_seq (aw_region ?_)
  refine asr (lr _) rfl ?_
  refine sq_nil (aw_ret ?_)
  exact retQ_pure (v := .raw _) rfl rfl (Less.eq (by rw [lasts_len (by omega)]))
 ·
  have c1' := c1
  try simp only [qq] at c1'
  have hlen : l.length = ls.length := by omega
  refine aw_skip (aw_seq (aw_seq (aw_region ?_)))
  refine asr (lr _) rfl ?_
  refine sq_nil (aw_block ?_)
  refine aw_loopk (ι := { k : Nat // k ≤ l.length ∧ ∀ i, (h : i < l.length) → i < k → lsBad p l ls i h = false }) [1, 2, 3] (fun i => [(7, I i.1)]) (fun H i => H) (fun i => l.length - i.1) (⟨0, Nat.zero_le _, by omega⟩) ⟨lr _, lr _, lr _, lr _, trivial⟩ rfl ?_
  rintro ⟨k, hk, hok⟩
  dsimp only [keepS, St.put, sget, slotsOf, List.map_cons, List.map_nil, List.cons_append, List.nil_append, List.length_cons, List.length_nil, Nat.reduceBEq, Nat.reduceAdd, cond_true, cond_false]
  refine aw_seq (aw_seq (aw_region ?_))
  refine mvr (lr _) rfl ?_
  refine mvs rfl (lr _) ?_
  refine sq_ev rfl (ev_len_map sl34 (lr _)) ?_
  refine sq_ev rfl (ev_lss (lr _) (lr _)) ?_
  refine sq_nil ?_
  refine aw_cond (lr _) (fun c2 => ?_) (fun c2 => ?_)
  ·
   have c2' := c2
   try simp only [qq] at c2'
   have hi' : k < l.length := by omega
   have hlt := cv.rng _ (List.getElem_mem hi')
   have he := scn_eq hlt
   have hil : k < ls.length := by omega
   have hgd : ls.getD k 0 = ls[k] := getD_at hil 0
   refine aw_skip (aw_seq (aw_block (aw_seq ?_)))
   refine aw_draw 24 mo (by kernel_rfl) ?_
   refine dr_ev rfl (ev_mv (v := .sl _ _) (lr _)) ?_
   refine dr_ev rfl (ev_mv (v := .raw _) (lr _)) ?_
   refine dr_ev rfl (ev_index_map sl34 (lr _) (lr _) rfl (by omega)) ?_
   refine dr_ev rfl (ev_load_i (lr _) ty3 rfl) ?_
   refine dr_ev rfl (ev_fieldAddr fo27_3 (lr _)) ?_
   refine dr_ev rfl (ev_load (lr _) rfl ty25 rfl) ?_
   refine dr_ev rfl (ev_mv (v := .sl _ _) (lr _)) ?_
   refine dr_ev rfl (ev_mv (v := .raw _) (lr _)) ?_
   refine dr_ev rfl (ev_index_map sl34 (lr _) (lr _) rfl (by omega)) ?_
   refine dr_ev rfl (ev_load_i (lr _) ty3 rfl) ?_
   refine dr_ev rfl (ev_index_map sl25 (lr _) (lr _) rfl (by omega)) ?_
   refine dr_ev rfl (ev_fieldAddr_i fo84_1 (lr _)) ?_
   refine dr_ev rfl (ev_load_i (lr _) ty3 rfl) ?_
   refine dr_ev rfl (ev_fieldAddr fo27_3 (lr _)) ?_
   refine dr_ev rfl (ev_load (lr _) rfl ty25 rfl) ?_
   refine dr_ev rfl (ev_mv (v := .sl _ _) (lr _)) ?_
   refine dr_ev rfl (ev_mv (v := .raw _) (lr _)) ?_
   refine dr_ev rfl (ev_index_map sl34 (lr _) (lr _) rfl (by omega)) ?_
   refine dr_ev rfl (ev_load_i (lr _) ty3 rfl) ?_
   refine dr_ev rfl (ev_index_map sl25 (lr _) (lr _) rfl (by omega)) ?_
   refine dr_ev rfl (ev_fieldAddr_i fo84_2 (lr _)) ?_
   refine dr_ev rfl (ev_load_i (lr _) ty3 rfl) ?_
   refine dr_ev rfl (ev_call en89 (lr _) (in_pure _ _ _) ⟨lr _, lr _, lr _, trivial⟩) ?_
   refine dr_ev rfl (ev_not (lr _)) ?_
   refine dr_end (sq_nil ?_)
   refine aw_cond (lr _) (fun c3 => ?_) (fun c3 => ?_)
   ·
    have c3' := c3
    try simp only [qq] at c3'
    refine aw_seq (aw_region ?_)
    refine asr (lr _) rfl ?_
    refine sq_nil (aw_ret ?_)
    exact retQ_pure (v := .raw _) rfl rfl (Less.eq (by rw [lasts_bad hi' (by simp only [lsBad, hgd, he] at c3' ⊢; simpa using c3')]))
   ·
    have c3' := c3
    try simp only [qq] at c3'
    refine aw_skip (aw_region ?_)
    refine mvr (lr _) rfl ?_
    refine sq_ev rfl (ev_add (lr _) (lr _) (wr (by omega) (by omega))) ?_
    refine asr (lr _) rfl ?_
    refine sq_nil ?_
    have hgood : lsBad p l ls k (by omega) = false := by simp only [lsBad, hgd, he] at c3' ⊢; simpa using c3'
    exact ⟨⟨k + 1, by omega, fun i h hi => (by by_cases e : i = k; (subst e; exact hgood); exact hok i h (by omega))⟩, by simp only; omega, Sub.slots ⟨lr _, lr _, lr _, lr _, trivial⟩⟩
  ·
   have c2' := c2
   try simp only [qq] at c2'
   refine aw_exit (aw_seq (aw_region ?_))
   refine asr (lr _) rfl ?_
   refine sq_nil (aw_ret ?_)
   exact retQ_pure (v := .raw _) rfl rfl (Less.eq (by rw [lasts_end hlen hk c2' hok]))
end Go.Proofs.YtjghdbdiejaacaaGreatDoor
namespace Go.Proofs.YtjghdbdiejaacaaGreatDoor
open Go Go.Ab Ni
theorem slim_no {l : List Int} (h : ¬ l.length ≤ 12) : APure Tryz.prog 45 [ints l] (B false) := by have := rslim_pure l; simpa [h] using this
theorem slim_yes {l : List Int} (h : l.length ≤ 12) : APure Tryz.prog 45 [ints l] (B true) := by have := rslim_pure l; simpa [h] using this
theorem ints_up (l : List Nat) : ints (up l) = nats l := by simp only [ints, eup]
theorem slim_yesN {l : List Nat} (h : l.length ≤ 12) : APure Tryz.prog 45 [nats l] (B true) := by have := slim_yes (l := up l) (by simpa [up] using h); rwa [ints_up] at this
theorem cho_no {p : Pl} {l : List Int} (hs : p.scenes.length ≤ 12) (hl : l.length ≤ 12) (h : (Ris p l && isCh p l) = false) : APure Tryz.prog 47 [plan p, ints l] (B false) := by have := rchoice_pure p l (by omega) (by omega); rwa [h] at this
theorem cho_yesN {p : Pl} {l : List Nat} (hs : p.scenes.length ≤ 12) (hl : l.length ≤ 12) (h : (Ris p (up l) && isCh p (up l)) = true) : APure Tryz.prog 47 [plan p, nats l] (B true) := by have := rchoice_pure p (up l) (by omega) (by simp [up]; omega); rwa [h, ints_up] at this
end Go.Proofs.YtjghdbdiejaacaaGreatDoor
namespace Go.Proofs.YtjghdbdiejaacaaGreatDoor
open Go Go.Ab Ni
theorem un4 : Tryz.prog.underlying 4 = some .bool := by kernel_rfl
theorem ft_yes {p : Pl} {l : List Nat} {ls : List Int} (hs : p.scenes.length ≤ 12) (hl : l.length ≤ 12) (hc : chosenB p (up l) = true) (h : lastsP p l ls = true) : APure Tryz.prog 59 [plan p, nats l, ints ls] (.tup [B (canP (pFF p l ls) l), I 0]) := by
  have := nFits_pure p (up l) ls (by omega) (by simp [up]; omega); unfold nfitsAV at this; rwa [if_pos ⟨hc, by rw [dn_up]; exact h⟩, ints_up, dn_up] at this
theorem cn_yes {p : Pl} {l : List Nat} (hs : p.scenes.length ≤ 12) (hl : l.length ≤ 12) (hc : chosenB p (up l) = true) : APure Tryz.prog 55 [plan p, nats l] (.tup [B (canP p l), I 0]) := by
  have := nCan_pure p (up l) (by omega) (by simp [up]; omega); unfold canAV at this; rwa [if_pos hc, ints_up, dn_up] at this
end Go.Proofs.YtjghdbdiejaacaaGreatDoor
namespace Go.Proofs.YtjghdbdiejaacaaGreatDoor
open Go Go.Ab Ni
theorem en57 : Ent Tryz.prog 57 := Ent.of Tryz.func57 (by kernel_rfl) rfl
theorem en63 : Ent Tryz.prog 63 := Ent.of Tryz.func63 (by kernel_rfl) rfl
def soBad (a b : List Int) (h : a.length = b.length) (i : Nat) (hi : i < a.length) : Bool := !decide (a[i] = b[i]'(by omega))
theorem so_eq {a b : List Int} (h : a.length = b.length) {k : Nat} (hk : k < a.length) (ok : ∀ i, (hi : i < a.length) → i < k → soBad a b h i hi = false) (hd : a[k] ≠ b[k]'(by omega)) : soonB a b = decide (a[k] < b[k]'(by omega)) := by
  unfold soonB; rw [if_neg (by simpa using h)]
  exact lexB_diff hk (by omega) (fun j hj => by have := ok j (by omega) hj; simpa [soBad] using this) hd
theorem so_all {a b : List Int} (h : a.length = b.length) {k : Nat} (hk : ¬ (k : Int) < a.length) (ok : ∀ i, (hi : i < a.length) → i < k → soBad a b h i hi = false) : soonB a b = false := by
  unfold soonB; rw [if_neg (by simpa using h)]
  exact lexB_same h fun j hj => by have := ok j hj (by omega); simpa [soBad] using this
set_option maxHeartbeats 1000000 in
theorem rsoon_pure (a b : List Int) (ha : a.length ≤ 1000000) (hb : b.length ≤ 1000000) : APure Tryz.prog 63 [ints a, ints b] (B (soonB a b)) := by
  refine apure_of (rs := [.tmp 4]) Tryz.func63 rfl rfl (Nat.le_of_ble_eq_true rfl) (by simp [AV.pureL, AV.pureB, AV.pureE, pureE_map]) (rfl) fun e0 he0 => ?_
  refine aw_seq (aw_region ?_)
  refine asr (lr _) rfl ?_
  refine sq_nil (aw_seq (aw_seq (aw_region ?_)))
  refine mvs rfl (lr _) ?_
  refine sq_ev rfl (ev_len_map sl34 (lr _)) ?_
  refine mvs rfl (lr _) ?_
  refine sq_ev rfl (ev_len_map sl34 (lr _)) ?_
  refine sq_ev rfl (ev_neq (lr _) (lr _)) ?_
  refine sq_nil ?_
  refine aw_cond (lr _) (fun c1 => ?_) (fun c1 => ?_)
  · skip
    have c1' := c1
    try simp only [qq] at c1'
    refine aw_seq (aw_region ?_)
    refine mvs rfl (lr _) ?_
    refine sq_ev rfl (ev_len_map sl34 (lr _)) ?_
    refine mvs rfl (lr _) ?_
    refine sq_ev rfl (ev_len_map sl34 (lr _)) ?_
    refine sq_ev rfl (ev_gtr (lr _) (lr _)) ?_
    refine asr (lr _) rfl ?_
    refine sq_nil (aw_ret ?_)
    exact retQ_pure (v := .raw _) rfl rfl (Less.eq (by unfold soonB; rw [if_pos (by omega)]; simp))
  · skip
    have c1' := c1
    try simp only [qq] at c1'
    have hlen : a.length = b.length := by omega
    refine aw_skip (aw_seq (aw_seq (aw_region ?_)))
    refine asr (lr _) rfl ?_
    refine sq_nil (aw_block ?_)
    refine aw_loopk (ι := { k : Nat // k ≤ a.length ∧ ∀ i, (hi : i < a.length) → i < k → soBad a b hlen i hi = false }) [0, 1] (fun i => [(5, I i.1)]) (fun H i => H) (fun i => a.length - i.1) (⟨0, Nat.zero_le _, by omega⟩) ⟨lr _, lr _, lr _, trivial⟩ rfl ?_
    rintro ⟨k, hk, hok⟩
    dsimp only [keepS, St.put, sget, slotsOf, List.map_cons, List.map_nil, List.cons_append, List.nil_append, List.length_cons, List.length_nil, Nat.reduceBEq, Nat.reduceAdd, cond_true, cond_false]
    refine aw_seq (aw_seq (aw_region ?_))
    refine mvr (lr _) rfl ?_
    refine mvs rfl (lr _) ?_
    refine sq_ev rfl (ev_len_map sl34 (lr _)) ?_
    refine sq_ev rfl (ev_lss (lr _) (lr _)) ?_
    refine sq_nil ?_
    refine aw_cond (lr _) (fun c2 => ?_) (fun c2 => ?_)
    · skip
      have c2' := c2
      try simp only [qq] at c2'
      have hka : k < a.length := by omega
      have hkb : k < b.length := by omega
      refine aw_skip (aw_seq (aw_block (aw_seq ?_)))
      refine aw_draw 9 mo (by kernel_rfl) ?_
      refine dr_ev rfl (ev_mv (v := .sl _ _) (lr _)) ?_
      refine dr_ev rfl (ev_mv (v := .raw _) (lr _)) ?_
      refine dr_ev rfl (ev_index_map sl34 (lr _) (lr _) rfl (by omega)) ?_
      refine dr_ev rfl (ev_load_i (lr _) ty3 rfl) ?_
      refine dr_ev rfl (ev_mv (v := .sl _ _) (lr _)) ?_
      refine dr_ev rfl (ev_mv (v := .raw _) (lr _)) ?_
      refine dr_ev rfl (ev_index_map sl34 (lr _) (lr _) rfl (by omega)) ?_
      refine dr_ev rfl (ev_load_i (lr _) ty3 rfl) ?_
      refine dr_ev rfl (ev_neq (lr _) (lr _)) ?_
      refine dr_end (sq_nil ?_)
      refine aw_cond (lr _) (fun c3 => ?_) (fun c3 => ?_)
      · skip
        have c3' := c3
        try simp only [qq] at c3'
        refine aw_seq ?_
        refine aw_draw 10 mo (by kernel_rfl) ?_
        refine dr_ev rfl (ev_mv (v := .sl _ _) (lr _)) ?_
        refine dr_ev rfl (ev_mv (v := .raw _) (lr _)) ?_
        refine dr_ev rfl (ev_index_map sl34 (lr _) (lr _) rfl (by omega)) ?_
        refine dr_ev rfl (ev_load_i (lr _) ty3 rfl) ?_
        refine dr_ev rfl (ev_mv (v := .sl _ _) (lr _)) ?_
        refine dr_ev rfl (ev_mv (v := .raw _) (lr _)) ?_
        refine dr_ev rfl (ev_index_map sl34 (lr _) (lr _) rfl (by omega)) ?_
        refine dr_ev rfl (ev_load_i (lr _) ty3 rfl) ?_
        refine dr_ev rfl (ev_lss (lr _) (lr _)) ?_
        refine dr_ev rfl (ev_as (v := .raw _) (lr _)) ?_
        refine dr_end (sq_nil (aw_ret ?_))
        exact retQ_pure (v := .raw _) rfl rfl (Less.eq (by rw [so_eq hlen hka hok c3']))
      · skip
        have c3' := c3
        try simp only [qq] at c3'
        refine aw_skip (aw_region ?_)
        refine mvr (lr _) rfl ?_
        refine sq_ev rfl (ev_add (lr _) (lr _) (wr (by omega) (by omega))) ?_
        refine asr (lr _) rfl ?_
        refine sq_nil ?_
        exact ⟨⟨k + 1, by omega, fun i hi h => (by by_cases e : i = k; (subst e; simpa [soBad] using c3'); exact hok i hi (by omega))⟩, by simp only; omega, Sub.slots ⟨lr _, lr _, lr _, trivial⟩⟩
    · skip
      have c2' := c2
      try simp only [qq] at c2'
      refine aw_exit (aw_seq (aw_region ?_))
      refine asr (lr _) rfl ?_
      refine sq_nil (aw_ret ?_)
      exact retQ_pure (v := .raw _) rfl rfl (Less.eq (by rw [so_all hlen c2' hok]))
set_option maxHeartbeats 1000000 in
theorem rlisted_pure (L : List (List Nat)) (x : List Nat) (hL : L.length ≤ 1000000) (hb : ∀ l ∈ L, l.length ≤ 1000) (hx : x.length ≤ 1000) : APure Tryz.prog 57 [natss L, nats x] (B (decide (x ∈ L))) := by
 refine apure_of (rs := [.tmp 4]) Tryz.func57 rfl rfl (Nat.le_of_ble_eq_true rfl) (by simp [AV.pureL, AV.pureB, AV.pureE, pureE_map]) (rfl) fun e0 he0 => ?_
 refine aw_seq (aw_region ?_)
 refine asr (lr _) rfl ?_
 refine sq_nil (aw_seq (aw_seq (aw_region ?_)))
 refine asr (lr _) rfl ?_
 refine sq_nil (aw_block ?_)
 refine aw_loopk (ι := { k : Nat // k ≤ L.length ∧ ∀ i, (hi : i < L.length) → i < k → L[i] ≠ x }) [0, 1] (fun i => [(5, I i.1)]) (fun H i => H) (fun i => L.length - i.1) (⟨0, Nat.zero_le _, by omega⟩) ⟨lr _, lr _, lr _, trivial⟩ rfl ?_
 rintro ⟨k, hk, hok⟩
 dsimp only [keepS, St.put, sget, slotsOf, List.map_cons, List.map_nil, List.cons_append, List.nil_append, List.length_cons, List.length_nil, Nat.reduceBEq, Nat.reduceAdd, cond_true, cond_false]
 refine aw_seq (aw_seq (aw_region ?_))
 refine mvr (lr _) rfl ?_
 refine mvs rfl (lr _) ?_
 refine sq_ev rfl (ev_len_map sl30 (lr _)) ?_
 refine sq_ev rfl (ev_lss (lr _) (lr _)) ?_
 refine sq_nil ?_
 refine aw_cond (lr _) (fun c1 => ?_) (fun c1 => ?_)
 ·
  have c1' := c1
  try simp only [qq] at c1'
  have hkL : k < L.length := by omega
  refine aw_skip (aw_seq (aw_block (aw_seq (aw_region ?_))))
  refine mvs rfl (lr _) ?_
  refine mvr (lr _) rfl ?_
  refine sq_ev rfl (ev_index_map sl30 (lr _) (lr _) rfl (by omega)) ?_
  refine sq_ev rfl (ev_load_i (lr _) ty34 rfl) ?_
  refine mvs rfl (lr _) ?_
  refine sq_ev rfl (ev_call en27 (lr _) (same_pureN L[k] x (hb _ (List.getElem_mem hkL)) hx) ⟨lr _, lr _, trivial⟩) ?_
  refine sq_nil ?_
  refine aw_cond (lr _) (fun c2 => ?_) (fun c2 => ?_)
  ·
   have c2' := c2
   try simp only [qq] at c2'
   refine aw_seq (aw_region ?_)
   refine asr (lr _) rfl ?_
   refine sq_nil (aw_ret ?_)
   exact retQ_pure (v := .raw _) rfl rfl (Less.eq (by rw [decide_eq_true (show x ∈ L from c2' ▸ List.getElem_mem hkL)]))
  ·
   have c2' := c2
   try simp only [qq] at c2'
   refine aw_skip (aw_region ?_)
   refine mvr (lr _) rfl ?_
   refine sq_ev rfl (ev_add (lr _) (lr _) (wr (by omega) (by omega))) ?_
   refine asr (lr _) rfl ?_
   refine sq_nil ?_
   exact ⟨⟨k + 1, by omega, fun i hi h => (by by_cases e : i = k; (subst e; simpa using c2'); exact hok i hi (by omega))⟩, by simp only; omega, Sub.slots ⟨lr _, lr _, lr _, trivial⟩⟩
 ·
  have c1' := c1
  try simp only [qq] at c1'
  refine aw_exit (aw_seq (aw_region ?_))
  refine asr (lr _) rfl ?_
  refine sq_nil (aw_ret ?_)
  exact retQ_pure (v := .raw _) rfl rfl (Less.eq (by rw [decide_eq_false (show ¬ x ∈ L from fun hm => by obtain ⟨i, hi, e⟩ := List.getElem_of_mem hm; exact hok i hi (by omega) e)]))
theorem soon_val {a b : List Nat} {v : Bool} (ha : a.length ≤ 1000000) (hb : b.length ≤ 1000000) (h : soonB (up a) (up b) = v) : APure Tryz.prog 63 [nats a, nats b] (B v) := by
  have := rsoon_pure (up a) (up b) (by simpa [up] using ha) (by simpa [up] using hb)
  rwa [h, ints_up, ints_up] at this
theorem soon_valI {a b : List Int} {v : Bool} (ha : a.length ≤ 1000000) (hb : b.length ≤ 1000000) (h : soonB a b = v) : APure Tryz.prog 63 [ints a, ints b] (B v) := by
  have := rsoon_pure a b ha hb; rwa [h] at this
theorem list_val {L : List (List Nat)} {x : List Nat} {v : Bool} (hL : L.length ≤ 1000000) (hb : ∀ l ∈ L, l.length ≤ 1000) (hx : x.length ≤ 1000) (h : decide (x ∈ L) = v) : APure Tryz.prog 57 [natss L, nats x] (B v) := by
  subst h; exact rlisted_pure L x hL hb hx
theorem in_len {p : Pl} {x : List Nat} (ok : PlOK p = true) (h : x ∈ choicesC p) : x.length ≤ 10 := by
  obtain ⟨h1, h2, _⟩ := allC_iff.1 (List.mem_filter.1 h).1
  have := inc_len h1 h2; have := ok_len ok; omega
theorem cho_in {p : Pl} {x : List Nat} (hs : p.scenes.length ≤ 12) (ok : PlOK p = true) (h : x ∈ choicesC p) : APure Tryz.prog 47 [plan p, nats x] (B true) := by
  obtain ⟨h1, h2, h3⟩ := allC_iff.1 (List.mem_filter.1 h).1
  exact cho_yesN hs (by have := in_len ok h; omega) (by rw [inc_ris h1 h2]; exact h3)
theorem chosen_in {p : Pl} {x : List Nat} (ok : PlOK p = true) (h : x ∈ choicesC p) : chosenB p (up x) = true := by
  obtain ⟨h1, h2, h3⟩ := allC_iff.1 (List.mem_filter.1 h).1
  rw [chosenB, ok, inc_ris h1 h2]; exact h3
theorem prog_val {p : Pl} {L : List (List Nat)} (hs : p.scenes.length ≤ 12) (ok : PlOK p = true) (hL : choicesC p = L) (h0 : 0 < L.length) : APure Tryz.prog 23 [plan p] (.tup [nats L[0], ints (firstL p L[0]), I 0]) := by
  cases L with
  | nil => simp at h0
  | cons c r => exact pr_cons hs ok hL
theorem ch_val {p : Pl} {L : List (List Nat)} (hs : p.scenes.length ≤ 12) (ok : PlOK p = true) (hL : choicesC p = L) : APure Tryz.prog 22 [plan p] (.tup [natss L, I 0]) := by subst hL; exact ch_yes hs ok
set_option maxHeartbeats 4000000 in
theorem law13_long (p : Pl) (l ls : List Int) (hs : ¬ p.scenes.length ≤ 12) : APure Tryz.prog 13 [plan p, ints l, ints ls] (B true) := by
  refine apure_of (rs := [.tmp 6]) Tryz.func13 rfl rfl (Nat.le_of_ble_eq_true rfl) (by simp [AV.pureL, AV.pureB, AV.pureE, pureE_map]) (rfl) fun e0 he0 => ?_
  refine aw_seq (aw_region ?_)
  refine sq_box rfl (lr _) rfl ?_
  refine asr (lr _) rfl ?_
  refine sq_nil (aw_seq (aw_seq (aw_region ?_)))
  refine sq_ev rfl (ev_load_agg (lr _) rfl ty27 rfl) ?_
  refine sq_ev rfl (ev_call en20 (lr _) (short_no hs) ⟨lr _, trivial⟩) ?_
  refine sq_ev rfl (ev_not (lr _)) ?_
  refine mvr (lr _) rfl ?_
  refine sq_no rfl rfl (lr _) rfl rfl ?_
  refine sq_no rfl rfl (lr _) rfl rfl ?_
  refine sq_no rfl rfl (lr _) rfl rfl ?_
  refine sq_ev rfl (ev_pickT (v := .raw _) (lr _) (lr _)) ?_
  refine mvr (lr _) rfl ?_
  refine sq_no rfl rfl (lr _) rfl rfl ?_
  refine sq_no rfl rfl (lr _) rfl rfl ?_
  refine sq_no rfl rfl (lr _) rfl rfl ?_
  refine sq_ev rfl (ev_pickT (v := .raw _) (lr _) (lr _)) ?_
  refine mvr (lr _) rfl ?_
  refine sq_no rfl rfl (lr _) rfl rfl ?_
  refine sq_no rfl rfl (lr _) rfl rfl ?_
  refine sq_no rfl rfl (lr _) rfl rfl ?_
  refine sq_ev rfl (ev_pickT (v := .raw _) (lr _) (lr _)) ?_
  refine mvr (lr _) rfl ?_
  refine sq_no rfl rfl (lr _) rfl rfl ?_
  refine sq_no rfl rfl (lr _) rfl rfl ?_
  refine sq_no rfl rfl (lr _) rfl rfl ?_
  refine sq_no rfl rfl (lr _) rfl rfl ?_
  refine sq_ev rfl (ev_pickT (v := .raw _) (lr _) (lr _)) ?_
  refine mvr (lr _) rfl ?_
  refine sq_no rfl rfl (lr _) rfl rfl ?_
  refine sq_no rfl rfl (lr _) rfl rfl ?_
  refine sq_no rfl rfl (lr _) rfl rfl ?_
  refine sq_no rfl rfl (lr _) rfl rfl ?_
  refine sq_no rfl rfl (lr _) rfl rfl ?_
  refine sq_ev rfl (ev_pickT (v := .raw _) (lr _) (lr _)) ?_
  refine sq_nil ?_
  refine aw_true (lr _) ?_
  refine aw_seq (aw_region ?_)
  refine sq_ev rfl (ev_call en21 (lr _) (known_pure) trivial) ?_
  refine asr (lr _) rfl ?_
  refine sq_nil (aw_ret ?_)
  exact retQ_pure (v := .raw _) rfl rfl (lr _)
set_option maxHeartbeats 4000000 in
theorem law13_slim (p : Pl) (l ls : List Int) (hs : p.scenes.length ≤ 12) (hl : ¬ l.length ≤ 12) : APure Tryz.prog 13 [plan p, ints l, ints ls] (B true) := by
 refine apure_of (rs := [.tmp 6]) Tryz.func13 rfl rfl (Nat.le_of_ble_eq_true rfl) (by simp [AV.pureL, AV.pureB, AV.pureE, pureE_map]) (rfl) fun e0 he0 => ?_
 refine aw_seq (aw_region ?_)
 refine sq_box rfl (lr _) rfl ?_
 refine asr (lr _) rfl ?_
 refine sq_nil (aw_seq (aw_seq (aw_region ?_)))
 refine sq_ev rfl (ev_load_agg (lr _) rfl ty27 rfl) ?_
 refine sq_ev rfl (ev_call en20 (lr _) (short_yes hs) ⟨lr _, trivial⟩) ?_
 refine sq_ev rfl (ev_not (lr _)) ?_
 refine mvr (lr _) rfl ?_
 refine ysl rfl rfl (lr _) rfl (lr _) ?_
 refine sq_yes rfl rfl (lr _) rfl (ev_call en45 (lr _) (slim_no hl) ⟨lr _, trivial⟩) ?_
 refine sq_yes rfl rfl (lr _) rfl (ev_not (lr _)) ?_
 refine pf rfl (lr _) (lr _) ?_
 refine mvr (lr _) rfl ?_
 refine sq_no rfl rfl (lr _) rfl rfl ?_
 refine sq_no rfl rfl (lr _) rfl rfl ?_
 refine sq_no rfl rfl (lr _) rfl rfl ?_
 refine sq_ev rfl (ev_pickT (v := .raw _) (lr _) (lr _)) ?_
 refine mvr (lr _) rfl ?_
 refine sq_no rfl rfl (lr _) rfl rfl ?_
 refine sq_no rfl rfl (lr _) rfl rfl ?_
 refine sq_no rfl rfl (lr _) rfl rfl ?_
 refine sq_ev rfl (ev_pickT (v := .raw _) (lr _) (lr _)) ?_
 refine mvr (lr _) rfl ?_
 refine sq_no rfl rfl (lr _) rfl rfl ?_
 refine sq_no rfl rfl (lr _) rfl rfl ?_
 refine sq_no rfl rfl (lr _) rfl rfl ?_
 refine sq_no rfl rfl (lr _) rfl rfl ?_
 refine sq_ev rfl (ev_pickT (v := .raw _) (lr _) (lr _)) ?_
 refine mvr (lr _) rfl ?_
 refine sq_no rfl rfl (lr _) rfl rfl ?_
 refine sq_no rfl rfl (lr _) rfl rfl ?_
 refine sq_no rfl rfl (lr _) rfl rfl ?_
 refine sq_no rfl rfl (lr _) rfl rfl ?_
 refine sq_no rfl rfl (lr _) rfl rfl ?_
 refine sq_ev rfl (ev_pickT (v := .raw _) (lr _) (lr _)) ?_
 refine sq_nil ?_
 refine aw_true (lr _) ?_
 refine aw_seq (aw_region ?_)
 refine sq_ev rfl (ev_call en21 (lr _) (known_pure) trivial) ?_
 refine asr (lr _) rfl ?_
 refine sq_nil (aw_ret ?_)
 exact retQ_pure (v := .raw _) rfl rfl (lr _)
set_option maxHeartbeats 4000000 in
theorem law13_slims (p : Pl) (l ls : List Int) (hs : p.scenes.length ≤ 12) (hl : l.length ≤ 12) (hls : ¬ ls.length ≤ 12) : APure Tryz.prog 13 [plan p, ints l, ints ls] (B true) := by
 refine apure_of (rs := [.tmp 6]) Tryz.func13 rfl rfl (Nat.le_of_ble_eq_true rfl) (by simp [AV.pureL, AV.pureB, AV.pureE, pureE_map]) (rfl) fun e0 he0 => ?_
 refine aw_seq (aw_region ?_)
 refine sq_box rfl (lr _) rfl ?_
 refine asr (lr _) rfl ?_
 refine sq_nil (aw_seq (aw_seq (aw_region ?_)))
 refine sq_ev rfl (ev_load_agg (lr _) rfl ty27 rfl) ?_
 refine sq_ev rfl (ev_call en20 (lr _) (short_yes hs) ⟨lr _, trivial⟩) ?_
 refine sq_ev rfl (ev_not (lr _)) ?_
 refine mvr (lr _) rfl ?_
 refine ysl rfl rfl (lr _) rfl (lr _) ?_
 refine sq_yes rfl rfl (lr _) rfl (ev_call en45 (lr _) (slim_yes hl) ⟨lr _, trivial⟩) ?_
 refine sq_yes rfl rfl (lr _) rfl (ev_not (lr _)) ?_
 refine pf rfl (lr _) (lr _) ?_
 refine mvr (lr _) rfl ?_
 refine ysl rfl rfl (lr _) rfl (lr _) ?_
 refine sq_yes rfl rfl (lr _) rfl (ev_call en45 (lr _) (slim_no hls) ⟨lr _, trivial⟩) ?_
 refine sq_yes rfl rfl (lr _) rfl (ev_not (lr _)) ?_
 refine pf rfl (lr _) (lr _) ?_
 refine mvr (lr _) rfl ?_
 refine sq_no rfl rfl (lr _) rfl rfl ?_
 refine sq_no rfl rfl (lr _) rfl rfl ?_
 refine sq_no rfl rfl (lr _) rfl rfl ?_
 refine sq_ev rfl (ev_pickT (v := .raw _) (lr _) (lr _)) ?_
 refine mvr (lr _) rfl ?_
 refine sq_no rfl rfl (lr _) rfl rfl ?_
 refine sq_no rfl rfl (lr _) rfl rfl ?_
 refine sq_no rfl rfl (lr _) rfl rfl ?_
 refine sq_no rfl rfl (lr _) rfl rfl ?_
 refine sq_ev rfl (ev_pickT (v := .raw _) (lr _) (lr _)) ?_
 refine mvr (lr _) rfl ?_
 refine sq_no rfl rfl (lr _) rfl rfl ?_
 refine sq_no rfl rfl (lr _) rfl rfl ?_
 refine sq_no rfl rfl (lr _) rfl rfl ?_
 refine sq_no rfl rfl (lr _) rfl rfl ?_
 refine sq_no rfl rfl (lr _) rfl rfl ?_
 refine sq_ev rfl (ev_pickT (v := .raw _) (lr _) (lr _)) ?_
 refine sq_nil ?_
 refine aw_true (lr _) ?_
 refine aw_seq (aw_region ?_)
 refine sq_ev rfl (ev_call en21 (lr _) (known_pure) trivial) ?_
 refine asr (lr _) rfl ?_
 refine sq_nil (aw_ret ?_)
 exact retQ_pure (v := .raw _) rfl rfl (lr _)
set_option maxHeartbeats 4000000 in
theorem law13_bad (p : Pl) (l ls : List Int) (hs : p.scenes.length ≤ 12) (hl : l.length ≤ 12) (hls : ls.length ≤ 12) (hk : PlOK p = false) : APure Tryz.prog 13 [plan p, ints l, ints ls] (B true) := by
 refine apure_of (rs := [.tmp 6]) Tryz.func13 rfl rfl (Nat.le_of_ble_eq_true rfl) (by simp [AV.pureL, AV.pureB, AV.pureE, pureE_map]) (rfl) fun e0 he0 => ?_
 refine aw_seq (aw_region ?_)
 refine sq_box rfl (lr _) rfl ?_
 refine asr (lr _) rfl ?_
 refine sq_nil (aw_seq (aw_seq (aw_region ?_)))
 refine sq_ev rfl (ev_load_agg (lr _) rfl ty27 rfl) ?_
 refine sq_ev rfl (ev_call en20 (lr _) (short_yes hs) ⟨lr _, trivial⟩) ?_
 refine sq_ev rfl (ev_not (lr _)) ?_
 refine mvr (lr _) rfl ?_
 refine ysl rfl rfl (lr _) rfl (lr _) ?_
 refine sq_yes rfl rfl (lr _) rfl (ev_call en45 (lr _) (slim_yes hl) ⟨lr _, trivial⟩) ?_
 refine sq_yes rfl rfl (lr _) rfl (ev_not (lr _)) ?_
 refine pf rfl (lr _) (lr _) ?_
 refine mvr (lr _) rfl ?_
 refine ysl rfl rfl (lr _) rfl (lr _) ?_
 refine sq_yes rfl rfl (lr _) rfl (ev_call en45 (lr _) (slim_yes hls) ⟨lr _, trivial⟩) ?_
 refine sq_yes rfl rfl (lr _) rfl (ev_not (lr _)) ?_
 refine pf rfl (lr _) (lr _) ?_
 refine mvr (lr _) rfl ?_
 refine sq_yes rfl rfl (lr _) rfl (ev_load_agg (lr _) rfl ty27 rfl) ?_
 refine sq_yes rfl rfl (lr _) rfl (ev_call en24 (lr _) (plan_no hs hk) ⟨lr _, trivial⟩) ?_
 refine sq_yes rfl rfl (lr _) rfl (ev_not (lr _)) ?_
 refine pf rfl (lr _) (lr _) ?_
 refine mvr (lr _) rfl ?_
 refine sq_no rfl rfl (lr _) rfl rfl ?_
 refine sq_no rfl rfl (lr _) rfl rfl ?_
 refine sq_no rfl rfl (lr _) rfl rfl ?_
 refine sq_no rfl rfl (lr _) rfl rfl ?_
 refine sq_ev rfl (ev_pickT (v := .raw _) (lr _) (lr _)) ?_
 refine mvr (lr _) rfl ?_
 refine sq_no rfl rfl (lr _) rfl rfl ?_
 refine sq_no rfl rfl (lr _) rfl rfl ?_
 refine sq_no rfl rfl (lr _) rfl rfl ?_
 refine sq_no rfl rfl (lr _) rfl rfl ?_
 refine sq_no rfl rfl (lr _) rfl rfl ?_
 refine sq_ev rfl (ev_pickT (v := .raw _) (lr _) (lr _)) ?_
 refine sq_nil ?_
 refine aw_true (lr _) ?_
 refine aw_seq (aw_region ?_)
 refine sq_ev rfl (ev_call en21 (lr _) (known_pure) trivial) ?_
 refine asr (lr _) rfl ?_
 refine sq_nil (aw_ret ?_)
 exact retQ_pure (v := .raw _) rfl rfl (lr _)
set_option maxHeartbeats 4000000 in
theorem law13_cho (p : Pl) (l ls : List Int) (hs : p.scenes.length ≤ 12) (hl : l.length ≤ 12) (hls : ls.length ≤ 12) (hk : PlOK p = true) (hc : (Ris p l && isCh p l) = false) : APure Tryz.prog 13 [plan p, ints l, ints ls] (B true) := by
 refine apure_of (rs := [.tmp 6]) Tryz.func13 rfl rfl (Nat.le_of_ble_eq_true rfl) (by simp [AV.pureL, AV.pureB, AV.pureE, pureE_map]) (rfl) fun e0 he0 => ?_
 refine aw_seq (aw_region ?_)
 refine sq_box rfl (lr _) rfl ?_
 refine asr (lr _) rfl ?_
 refine sq_nil (aw_seq (aw_seq (aw_region ?_)))
 refine sq_ev rfl (ev_load_agg (lr _) rfl ty27 rfl) ?_
 refine sq_ev rfl (ev_call en20 (lr _) (short_yes hs) ⟨lr _, trivial⟩) ?_
 refine sq_ev rfl (ev_not (lr _)) ?_
 refine mvr (lr _) rfl ?_
 refine ysl rfl rfl (lr _) rfl (lr _) ?_
 refine sq_yes rfl rfl (lr _) rfl (ev_call en45 (lr _) (slim_yes hl) ⟨lr _, trivial⟩) ?_
 refine sq_yes rfl rfl (lr _) rfl (ev_not (lr _)) ?_
 refine pf rfl (lr _) (lr _) ?_
 refine mvr (lr _) rfl ?_
 refine ysl rfl rfl (lr _) rfl (lr _) ?_
 refine sq_yes rfl rfl (lr _) rfl (ev_call en45 (lr _) (slim_yes hls) ⟨lr _, trivial⟩) ?_
 refine sq_yes rfl rfl (lr _) rfl (ev_not (lr _)) ?_
 refine pf rfl (lr _) (lr _) ?_
 refine mvr (lr _) rfl ?_
 refine sq_yes rfl rfl (lr _) rfl (ev_load_agg (lr _) rfl ty27 rfl) ?_
 refine sq_yes rfl rfl (lr _) rfl (ev_call en24 (lr _) (plan_yes hs hk) ⟨lr _, trivial⟩) ?_
 refine sq_yes rfl rfl (lr _) rfl (ev_not (lr _)) ?_
 refine pf rfl (lr _) (lr _) ?_
 refine mvr (lr _) rfl ?_
 refine sq_yes rfl rfl (lr _) rfl (ev_load_agg (lr _) rfl ty27 rfl) ?_
 refine ysl rfl rfl (lr _) rfl (lr _) ?_
 refine sq_yes rfl rfl (lr _) rfl (ev_call en47 (lr _) (cho_no hs hl hc) ⟨lr _, lr _, trivial⟩) ?_
 refine sq_yes rfl rfl (lr _) rfl (ev_not (lr _)) ?_
 refine pf rfl (lr _) (lr _) ?_
 refine mvr (lr _) rfl ?_
 refine sq_no rfl rfl (lr _) rfl rfl ?_
 refine sq_no rfl rfl (lr _) rfl rfl ?_
 refine sq_no rfl rfl (lr _) rfl rfl ?_
 refine sq_no rfl rfl (lr _) rfl rfl ?_
 refine sq_no rfl rfl (lr _) rfl rfl ?_
 refine sq_ev rfl (ev_pickT (v := .raw _) (lr _) (lr _)) ?_
 refine sq_nil ?_
 refine aw_true (lr _) ?_
 refine aw_seq (aw_region ?_)
 refine sq_ev rfl (ev_call en21 (lr _) (known_pure) trivial) ?_
 refine asr (lr _) rfl ?_
 refine sq_nil (aw_ret ?_)
 exact retQ_pure (v := .raw _) rfl rfl (lr _)
set_option maxHeartbeats 4000000 in
theorem law13_last (p : Pl) (l : List Nat) (ls : List Int) (hs : p.scenes.length ≤ 12) (hl : l.length ≤ 12) (hls : ls.length ≤ 12) (hk : PlOK p = true) (hc : (Ris p (up l) && isCh p (up l)) = true) (gp : GP p) (wp : WP p) (cv : CV p l) (hL : lastsP p l ls = false) : APure Tryz.prog 13 [plan p, nats l, ints ls] (B true) := by
 refine apure_of (rs := [.tmp 6]) Tryz.func13 rfl rfl (Nat.le_of_ble_eq_true rfl) (by simp [AV.pureL, AV.pureB, AV.pureE, pureE_map]) (rfl) fun e0 he0 => ?_
 have hla := rlasts_pure p l ls cv (by omega)
 rw [hL] at hla
 refine aw_seq (aw_region ?_)
 refine sq_box rfl (lr _) rfl ?_
 refine asr (lr _) rfl ?_
 refine sq_nil (aw_seq (aw_seq (aw_region ?_)))
 refine sq_ev rfl (ev_load_agg (lr _) rfl ty27 rfl) ?_
 refine sq_ev rfl (ev_call en20 (lr _) (short_yes hs) ⟨lr _, trivial⟩) ?_
 refine sq_ev rfl (ev_not (lr _)) ?_
 refine mvr (lr _) rfl ?_
 refine ysl rfl rfl (lr _) rfl (lr _) ?_
 refine sq_yes rfl rfl (lr _) rfl (ev_call en45 (lr _) (slim_yesN hl) ⟨lr _, trivial⟩) ?_
 refine sq_yes rfl rfl (lr _) rfl (ev_not (lr _)) ?_
 refine pf rfl (lr _) (lr _) ?_
 refine mvr (lr _) rfl ?_
 refine ysl rfl rfl (lr _) rfl (lr _) ?_
 refine sq_yes rfl rfl (lr _) rfl (ev_call en45 (lr _) (slim_yes hls) ⟨lr _, trivial⟩) ?_
 refine sq_yes rfl rfl (lr _) rfl (ev_not (lr _)) ?_
 refine pf rfl (lr _) (lr _) ?_
 refine mvr (lr _) rfl ?_
 refine sq_yes rfl rfl (lr _) rfl (ev_load_agg (lr _) rfl ty27 rfl) ?_
 refine sq_yes rfl rfl (lr _) rfl (ev_call en24 (lr _) (plan_yes hs hk) ⟨lr _, trivial⟩) ?_
 refine sq_yes rfl rfl (lr _) rfl (ev_not (lr _)) ?_
 refine pf rfl (lr _) (lr _) ?_
 refine mvr (lr _) rfl ?_
 refine sq_yes rfl rfl (lr _) rfl (ev_load_agg (lr _) rfl ty27 rfl) ?_
 refine ysl rfl rfl (lr _) rfl (lr _) ?_
 refine sq_yes rfl rfl (lr _) rfl (ev_call en47 (lr _) (cho_yesN hs hl hc) ⟨lr _, lr _, trivial⟩) ?_
 refine sq_yes rfl rfl (lr _) rfl (ev_not (lr _)) ?_
 refine pf rfl (lr _) (lr _) ?_
 refine mvr (lr _) rfl ?_
 refine sq_yes rfl rfl (lr _) rfl (ev_load_agg (lr _) rfl ty27 rfl) ?_
 refine ysl rfl rfl (lr _) rfl (lr _) ?_
 refine ysl rfl rfl (lr _) rfl (lr _) ?_
 refine sq_yes rfl rfl (lr _) rfl (ev_call en58 (lr _) (hla) ⟨lr _, lr _, lr _, trivial⟩) ?_
 refine sq_yes rfl rfl (lr _) rfl (ev_not (lr _)) ?_
 refine pf rfl (lr _) (lr _) ?_
 refine sq_nil ?_
 refine aw_true (lr _) ?_
 refine aw_seq (aw_region ?_)
 refine sq_ev rfl (ev_call en21 (lr _) (known_pure) trivial) ?_
 refine asr (lr _) rfl ?_
 refine sq_nil (aw_ret ?_)
 exact retQ_pure (v := .raw _) rfl rfl (lr _)
set_option maxHeartbeats 4000000 in
theorem law13_none (p : Pl) (l : List Nat) (ls : List Int) (hs : p.scenes.length ≤ 12) (hl : l.length ≤ 12) (hls : ls.length ≤ 12) (hk : PlOK p = true) (hc : (Ris p (up l) && isCh p (up l)) = true) (gp : GP p) (wp : WP p) (cv : CV p l) (hL : lastsP p l ls = true) (hc0 : choicesC p = []) : APure Tryz.prog 13 [plan p, nats l, ints ls] (B true) := by
 refine apure_of (rs := [.tmp 6]) Tryz.func13 rfl rfl (Nat.le_of_ble_eq_true rfl) (by simp [AV.pureL, AV.pureB, AV.pureE, pureE_map]) (rfl) fun e0 he0 => ?_
 have hla := rlasts_pure p l ls cv (by omega)
 rw [hL] at hla
 have hch : chosenB p (up l) = true := by rw [chosenB, Bool.and_assoc, hc, hk]; rfl
 have inc := ris_inc (Bool.and_eq_true_iff.1 hc).1
 have hpp := parts_ok hk cv
 have hlen := (lasts_at hL).1
 have hlb := lasts_bds gp cv hL
 have hcan : canP p l = false := by
  rw [canP_can wp cv]
  cases h : can p l with
  | false => rfl
  | true => have hm : l ∈ choicesC p := List.mem_filter.2 ⟨mem_allC inc cv.rng (Bool.and_eq_true_iff.1 hc).2, h⟩; rw [hc0] at hm; cases hm
 obtain ⟨q1, q2, q3⟩ := pF_ok gp wp cv hL l.length (Nat.le_refl _)
 have hfi : canP (pFF p l ls) l = false := by
  have e : canP (pFF p l ls) l = rfits p l ls := (canP_can q2 q3).trans (fits_iff gp wp cv inc hL hpp)
  rw [e]
  cases h : rfits p l ls with
  | false => rfl
  | true => have := can_of wp cv inc hL hpp h; rw [← canP_can wp cv, hcan] at this; cases this
 have h55 := cn_yes hs hl hch
 rw [hcan] at h55
 have h59 := ft_yes hs hl hch hL
 rw [hfi] at h59
 refine aw_seq (aw_region ?_)
 refine sq_box rfl (lr _) rfl ?_
 refine asr (lr _) rfl ?_
 refine sq_nil (aw_seq (aw_seq (aw_region ?_)))
 refine sq_ev rfl (ev_load_agg (lr _) rfl ty27 rfl) ?_
 refine sq_ev rfl (ev_call en20 (lr _) (short_yes hs) ⟨lr _, trivial⟩) ?_
 refine sq_ev rfl (ev_not (lr _)) ?_
 refine mvr (lr _) rfl ?_
 refine ysl rfl rfl (lr _) rfl (lr _) ?_
 refine sq_yes rfl rfl (lr _) rfl (ev_call en45 (lr _) (slim_yesN hl) ⟨lr _, trivial⟩) ?_
 refine sq_yes rfl rfl (lr _) rfl (ev_not (lr _)) ?_
 refine pf rfl (lr _) (lr _) ?_
 refine mvr (lr _) rfl ?_
 refine ysl rfl rfl (lr _) rfl (lr _) ?_
 refine sq_yes rfl rfl (lr _) rfl (ev_call en45 (lr _) (slim_yes hls) ⟨lr _, trivial⟩) ?_
 refine sq_yes rfl rfl (lr _) rfl (ev_not (lr _)) ?_
 refine pf rfl (lr _) (lr _) ?_
 refine mvr (lr _) rfl ?_
 refine sq_yes rfl rfl (lr _) rfl (ev_load_agg (lr _) rfl ty27 rfl) ?_
 refine sq_yes rfl rfl (lr _) rfl (ev_call en24 (lr _) (plan_yes hs hk) ⟨lr _, trivial⟩) ?_
 refine sq_yes rfl rfl (lr _) rfl (ev_not (lr _)) ?_
 refine pf rfl (lr _) (lr _) ?_
 refine mvr (lr _) rfl ?_
 refine sq_yes rfl rfl (lr _) rfl (ev_load_agg (lr _) rfl ty27 rfl) ?_
 refine ysl rfl rfl (lr _) rfl (lr _) ?_
 refine sq_yes rfl rfl (lr _) rfl (ev_call en47 (lr _) (cho_yesN hs hl hc) ⟨lr _, lr _, trivial⟩) ?_
 refine sq_yes rfl rfl (lr _) rfl (ev_not (lr _)) ?_
 refine pf rfl (lr _) (lr _) ?_
 refine mvr (lr _) rfl ?_
 refine sq_yes rfl rfl (lr _) rfl (ev_load_agg (lr _) rfl ty27 rfl) ?_
 refine ysl rfl rfl (lr _) rfl (lr _) ?_
 refine ysl rfl rfl (lr _) rfl (lr _) ?_
 refine sq_yes rfl rfl (lr _) rfl (ev_call en58 (lr _) (hla) ⟨lr _, lr _, lr _, trivial⟩) ?_
 refine sq_yes rfl rfl (lr _) rfl (ev_not (lr _)) ?_
 refine pf rfl (lr _) (lr _) ?_
 refine sq_nil ?_
 refine aw_false (lr _) ?_
 refine aw_skip (aw_seq (aw_region ?_))
 refine sq_ev rfl (ev_load_agg (lr _) rfl ty27 rfl) ?_
 refine sq_ev rfl (ev_call en23 (lr _) (pr_nil hs hk hc0) ⟨lr _, trivial⟩) ?_
 refine sq_ev rfl (ev_mv (v := .tup _) (lr _)) ?_
 refine xtr rfl (lr _) rfl ?_
 refine xtr rfl (lr _) rfl ?_
 refine xtr rfl (lr _) rfl ?_
 refine ass rfl (lr _) ?_
 refine ass rfl (lr _) ?_
 refine asr (lr _) rfl ?_
 refine sq_nil (aw_seq (aw_region ?_))
 refine sq_ev rfl (ev_load_agg (lr _) rfl ty27 rfl) ?_
 refine sq_ev rfl (ev_call en22 (lr _) (ch_val hs hk hc0) ⟨lr _, trivial⟩) ?_
 refine sq_ev rfl (ev_mv (v := .tup _) (lr _)) ?_
 refine xtr rfl (lr _) rfl ?_
 refine xtr rfl (lr _) rfl ?_
 refine ass rfl (lr _) ?_
 refine asr (lr _) rfl ?_
 refine sq_nil (aw_seq (aw_region ?_))
 refine sq_ev rfl (ev_load_agg (lr _) rfl ty27 rfl) ?_
 refine mvs rfl (lr _) ?_
 refine mvs rfl (lr _) ?_
 refine sq_ev rfl (ev_call en59 (lr _) (h59) ⟨lr _, lr _, lr _, trivial⟩) ?_
 refine sq_ev rfl (ev_mv (v := .tup _) (lr _)) ?_
 refine xtr rfl (lr _) rfl ?_
 refine xtr rfl (lr _) rfl ?_
 refine asr (lr _) rfl ?_
 refine asr (lr _) rfl ?_
 refine sq_nil (aw_seq (aw_region ?_))
 refine sq_ev rfl (ev_load_agg (lr _) rfl ty27 rfl) ?_
 refine mvs rfl (lr _) ?_
 refine sq_ev rfl (ev_call en55 (lr _) (h55) ⟨lr _, lr _, trivial⟩) ?_
 refine sq_ev rfl (ev_mv (v := .tup _) (lr _)) ?_
 refine xtr rfl (lr _) rfl ?_
 refine xtr rfl (lr _) rfl ?_
 refine asr (lr _) rfl ?_
 refine asr (lr _) rfl ?_
 refine sq_nil (aw_seq (aw_seq (aw_region ?_)))
 refine mvr (lr _) rfl ?_
 refine sq_ev rfl (ev_neq (lr _) (lr _)) ?_
 refine mvr (lr _) rfl ?_
 refine ymr rfl rfl (lr _) rfl (lr _) ?_
 refine sq_yes rfl rfl (lr _) rfl (ev_neq (lr _) (lr _)) ?_
 refine sq_ev rfl (ev_pickT (v := .raw _) (lr _) (lr _)) ?_
 refine mvr (lr _) rfl ?_
 refine ymr rfl rfl (lr _) rfl (lr _) ?_
 refine sq_yes rfl rfl (lr _) rfl (ev_neq (lr _) (lr _)) ?_
 refine pf rfl (lr _) (lr _) ?_
 refine mvr (lr _) rfl ?_
 refine ymr rfl rfl (lr _) rfl (lr _) ?_
 refine sq_yes rfl rfl (lr _) rfl (ev_neq (lr _) (lr _)) ?_
 refine pf rfl (lr _) (lr _) ?_
 refine mvr (lr _) rfl ?_
 refine ymr rfl rfl (lr _) rfl (lr _) ?_
 refine sq_yes rfl rfl (lr _) rfl (ev_neq (lr _) (lr _)) ?_
 refine pf rfl (lr _) (lr _) ?_
 refine mvr (lr _) rfl ?_
 refine ymr rfl rfl (lr _) rfl (lr _) ?_
 refine ymr rfl rfl (lr _) rfl (lr _) ?_
 refine sq_no rfl rfl (lr _) rfl rfl ?_
 refine sq_no rfl rfl (lr _) rfl rfl ?_
 refine sq_yes rfl rfl (lr _) rfl (ev_pickF (v := .raw _) (lr _) (lr _)) ?_
 refine pf rfl (lr _) (lr _) ?_
 refine mvr (lr _) rfl ?_
 refine ymr rfl rfl (lr _) rfl (lr _) ?_
 refine ysl rfl rfl (lr _) rfl (lr _) ?_
 refine ysl rfl rfl (lr _) rfl (lr _) ?_
 refine sq_yes rfl rfl (lr _) rfl (ev_call en57 (lr _) (list_val (L := []) (v := false) (by simp) (by simp) (by omega) (by simp)) ⟨lr _, lr _, trivial⟩) ?_
 refine sq_yes rfl rfl (lr _) rfl (ev_neqB un4 (lr _) (lr _)) ?_
 refine pf rfl (lr _) (lr _) ?_
 refine mvr (lr _) rfl ?_
 refine ymr rfl rfl (lr _) rfl (lr _) ?_
 refine sq_yes rfl rfl (lr _) rfl (ev_eql (lr _) (lr _)) ?_
 refine ysl rfl rfl (lr _) rfl (lr _) ?_
 refine sq_yes rfl rfl (lr _) rfl (ev_len_map sl30 (lr _)) ?_
 refine sq_yes rfl rfl (lr _) rfl (ev_gtr (lr _) (lr _)) ?_
 refine sq_yes rfl rfl (lr _) rfl (ev_neqB un4 (lr _) (lr _)) ?_
 refine pf rfl (lr _) (lr _) ?_
 refine mvr (lr _) rfl ?_
 refine sq_split 115 (lr _) (fun g14 => ?_) (fun g14 => ?_)
 ·
  have g14' := g14
  try simp only [qq] at g14'
  first | exact absurd g14 (by decide) | (simp at g14; done) | (exfalso; simp at g14; omega)
 ·
  have g14' := g14
  try simp only [qq] at g14'
  refine sq_yes rfl rfl (less_b g14) rfl (ev_mv (v := .sl _ _) (lr _)) ?_
  refine sq_yes rfl rfl (less_b g14) rfl (ev_len_map sl30 (lr _)) ?_
  refine sq_yes rfl rfl (less_b g14) rfl (ev_gtr (lr _) (lr _)) ?_
  refine sq_ev rfl (ev_pickF (v := .raw _) (less_b g14) (lr _)) ?_
  refine sq_nil ?_
  refine aw_cond (lr _) (fun c15 => ?_) (fun c15 => ?_)
  ·
   have c15' := c15
   try simp only [qq] at c15'
   first | exact absurd c15 (by decide) | (simp at c15; done) | (exfalso; simp at c15; omega)
  ·
   have c15' := c15
   try simp only [qq] at c15'
   refine aw_skip (aw_seq (aw_seq (aw_region ?_)))
   refine mvr (lr _) rfl ?_
   refine sq_ev rfl (ev_neq (lr _) (lr _)) ?_
   refine sq_nil ?_
   refine aw_true (lr _) ?_
   refine aw_seq (aw_region ?_)
   refine mvr (lr _) rfl ?_
   refine sq_ev rfl (ev_not (lr _)) ?_
   refine mvr (lr _) rfl ?_
   refine ymr rfl rfl (lr _) rfl (lr _) ?_
   refine sq_yes rfl rfl (lr _) rfl (ev_not (lr _)) ?_
   refine sq_ev rfl (ev_pickT (v := .raw _) (lr _) (lr _)) ?_
   refine mvr (lr _) rfl ?_
   refine sq_yes rfl rfl (lr _) rfl (ev_call en21 (lr _) (known_pure) trivial) ?_
   refine sq_ev rfl (ev_pickT (v := .raw _) (lr _) (lr _)) ?_
   refine asr (lr _) rfl ?_
   refine sq_nil (aw_ret ?_)
   exact retQ_pure (v := .raw _) rfl rfl (lr _)
set_option maxHeartbeats 8000000 in
set_option maxRecDepth 10000 in
theorem law13_tt (p : Pl) (l : List Nat) (ls : List Int) (hs : p.scenes.length ≤ 12) (hl : l.length ≤ 12) (hls : ls.length ≤ 12) (hk : PlOK p = true) (hc : (Ris p (up l) && isCh p (up l)) = true) (gp : GP p) (wp : WP p) (cv : CV p l) (hL : lastsP p l ls = true) (L : List (List Nat)) (hLc : choicesC p = L) (h0 : 0 < L.length) (hbi : canP (pFF p l ls) l = true) (hbc : canP p l = true) (hli : decide (l ∈ L) = true) (hso : soonB (up l) (up L[0]) = false) (hsl : l = L[0] → soonB ls (firstL p L[0]) = false) : APure Tryz.prog 13 [plan p, nats l, ints ls] (B true) := by
 refine apure_of (rs := [.tmp 6]) Tryz.func13 rfl rfl (Nat.le_of_ble_eq_true rfl) (by simp [AV.pureL, AV.pureB, AV.pureE, pureE_map]) (rfl) fun e0 he0 => ?_
 have hla := rlasts_pure p l ls cv (by omega)
 rw [hL] at hla
 have hch : chosenB p (up l) = true := by rw [chosenB, Bool.and_assoc, hc, hk]; rfl
 have inc := ris_inc (Bool.and_eq_true_iff.1 hc).1
 have hpp := parts_ok hk cv
 have hlen := (lasts_at hL).1
 have hlb := lasts_bds gp cv hL
 have hmem : ∀ x ∈ L, x ∈ choicesC p := fun x hx => by rw [hLc]; exact hx
 have hm0 := hmem _ (List.getElem_mem h0)
 have cv0 := choicesC_mem gp _ hm0
 have inc0 := choicesC_inc hm0
 have hc00 := (List.mem_filter.1 hm0).2
 have hpp0 := parts_ok hk cv0
 have hfl0 := first_lasts wp cv0 inc0 hpp0 hc00
 have hff0 := first_fits wp cv0 inc0 hpp0 hc00
 have hl0 : L[0].length ≤ 12 := by have := in_len hk hm0; omega
 have hL64 : L.length ≤ 64 := by rw [← hLc]; exact choicesC_64 hk
 have hfl : (firstL p L[0]).length ≤ 12 := by unfold firstL; rw [oS_len]; exact hl0
 have hla0 := rlasts_pure p L[0] (firstL p L[0]) cv0 (by omega)
 rw [hfl0] at hla0
 obtain ⟨r1, r2, r3⟩ := pF_ok gp wp cv0 hfl0 L[0].length (Nat.le_refl _)
 have hfc : canP (pFF p L[0] (firstL p L[0])) L[0] = true := (canP_can r2 r3).trans hff0
 have h590 := ft_yes hs hl0 (chosen_in hk hm0) hfl0
 rw [hfc] at h590
 have hord := choicesC_order p
 rw [hLc] at hord
 have h55 := cn_yes hs hl hch
 rw [hbc] at h55
 have h59 := ft_yes hs hl hch hL
 rw [hbi] at h59
 refine aw_seq (aw_region ?_)
 refine sq_box rfl (lr _) rfl ?_
 refine asr (lr _) rfl ?_
 refine sq_nil (aw_seq (aw_seq (aw_region ?_)))
 refine sq_ev rfl (ev_load_agg (lr _) rfl ty27 rfl) ?_
 refine sq_ev rfl (ev_call en20 (lr _) (short_yes hs) ⟨lr _, trivial⟩) ?_
 refine sq_ev rfl (ev_not (lr _)) ?_
 refine mvr (lr _) rfl ?_
 refine ysl rfl rfl (lr _) rfl (lr _) ?_
 refine sq_yes rfl rfl (lr _) rfl (ev_call en45 (lr _) (slim_yesN hl) ⟨lr _, trivial⟩) ?_
 refine sq_yes rfl rfl (lr _) rfl (ev_not (lr _)) ?_
 refine pf rfl (lr _) (lr _) ?_
 refine mvr (lr _) rfl ?_
 refine ysl rfl rfl (lr _) rfl (lr _) ?_
 refine sq_yes rfl rfl (lr _) rfl (ev_call en45 (lr _) (slim_yes hls) ⟨lr _, trivial⟩) ?_
 refine sq_yes rfl rfl (lr _) rfl (ev_not (lr _)) ?_
 refine pf rfl (lr _) (lr _) ?_
 refine mvr (lr _) rfl ?_
 refine sq_yes rfl rfl (lr _) rfl (ev_load_agg (lr _) rfl ty27 rfl) ?_
 refine sq_yes rfl rfl (lr _) rfl (ev_call en24 (lr _) (plan_yes hs hk) ⟨lr _, trivial⟩) ?_
 refine sq_yes rfl rfl (lr _) rfl (ev_not (lr _)) ?_
 refine pf rfl (lr _) (lr _) ?_
 refine mvr (lr _) rfl ?_
 refine sq_yes rfl rfl (lr _) rfl (ev_load_agg (lr _) rfl ty27 rfl) ?_
 refine ysl rfl rfl (lr _) rfl (lr _) ?_
 refine sq_yes rfl rfl (lr _) rfl (ev_call en47 (lr _) (cho_yesN hs hl hc) ⟨lr _, lr _, trivial⟩) ?_
 refine sq_yes rfl rfl (lr _) rfl (ev_not (lr _)) ?_
 refine pf rfl (lr _) (lr _) ?_
 refine mvr (lr _) rfl ?_
 refine sq_yes rfl rfl (lr _) rfl (ev_load_agg (lr _) rfl ty27 rfl) ?_
 refine ysl rfl rfl (lr _) rfl (lr _) ?_
 refine ysl rfl rfl (lr _) rfl (lr _) ?_
 refine sq_yes rfl rfl (lr _) rfl (ev_call en58 (lr _) (hla) ⟨lr _, lr _, lr _, trivial⟩) ?_
 refine sq_yes rfl rfl (lr _) rfl (ev_not (lr _)) ?_
 refine pf rfl (lr _) (lr _) ?_
 refine sq_nil ?_
 refine aw_false (lr _) ?_
 refine aw_skip (aw_seq (aw_region ?_))
 refine sq_ev rfl (ev_load_agg (lr _) rfl ty27 rfl) ?_
 refine sq_ev rfl (ev_call en23 (lr _) (prog_val hs hk hLc h0) ⟨lr _, trivial⟩) ?_
 refine sq_ev rfl (ev_mv (v := .tup _) (lr _)) ?_
 refine xtr rfl (lr _) rfl ?_
 refine xtr rfl (lr _) rfl ?_
 refine xtr rfl (lr _) rfl ?_
 refine ass rfl (lr _) ?_
 refine ass rfl (lr _) ?_
 refine asr (lr _) rfl ?_
 refine sq_nil (aw_seq (aw_region ?_))
 refine sq_ev rfl (ev_load_agg (lr _) rfl ty27 rfl) ?_
 refine sq_ev rfl (ev_call en22 (lr _) (ch_val hs hk hLc) ⟨lr _, trivial⟩) ?_
 refine sq_ev rfl (ev_mv (v := .tup _) (lr _)) ?_
 refine xtr rfl (lr _) rfl ?_
 refine xtr rfl (lr _) rfl ?_
 refine ass rfl (lr _) ?_
 refine asr (lr _) rfl ?_
 refine sq_nil (aw_seq (aw_region ?_))
 refine sq_ev rfl (ev_load_agg (lr _) rfl ty27 rfl) ?_
 refine mvs rfl (lr _) ?_
 refine mvs rfl (lr _) ?_
 refine sq_ev rfl (ev_call en59 (lr _) (h59) ⟨lr _, lr _, lr _, trivial⟩) ?_
 refine sq_ev rfl (ev_mv (v := .tup _) (lr _)) ?_
 refine xtr rfl (lr _) rfl ?_
 refine xtr rfl (lr _) rfl ?_
 refine asr (lr _) rfl ?_
 refine asr (lr _) rfl ?_
 refine sq_nil (aw_seq (aw_region ?_))
 refine sq_ev rfl (ev_load_agg (lr _) rfl ty27 rfl) ?_
 refine mvs rfl (lr _) ?_
 refine sq_ev rfl (ev_call en55 (lr _) (h55) ⟨lr _, lr _, trivial⟩) ?_
 refine sq_ev rfl (ev_mv (v := .tup _) (lr _)) ?_
 refine xtr rfl (lr _) rfl ?_
 refine xtr rfl (lr _) rfl ?_
 refine asr (lr _) rfl ?_
 refine asr (lr _) rfl ?_
 refine sq_nil (aw_seq (aw_seq (aw_region ?_)))
 refine mvr (lr _) rfl ?_
 refine sq_ev rfl (ev_neq (lr _) (lr _)) ?_
 refine mvr (lr _) rfl ?_
 refine sq_no rfl rfl (lr _) rfl rfl ?_
 refine sq_no rfl rfl (lr _) rfl rfl ?_
 refine pf rfl (lr _) (lr _) ?_
 refine mvr (lr _) rfl ?_
 refine ymr rfl rfl (lr _) rfl (lr _) ?_
 refine sq_yes rfl rfl (lr _) rfl (ev_neq (lr _) (lr _)) ?_
 refine pf rfl (lr _) (lr _) ?_
 refine mvr (lr _) rfl ?_
 refine ymr rfl rfl (lr _) rfl (lr _) ?_
 refine sq_yes rfl rfl (lr _) rfl (ev_neq (lr _) (lr _)) ?_
 refine pf rfl (lr _) (lr _) ?_
 refine mvr (lr _) rfl ?_
 refine ymr rfl rfl (lr _) rfl (lr _) ?_
 refine sq_yes rfl rfl (lr _) rfl (ev_neq (lr _) (lr _)) ?_
 refine pf rfl (lr _) (lr _) ?_
 refine mvr (lr _) rfl ?_
 refine ymr rfl rfl (lr _) rfl (lr _) ?_
 refine ymr rfl rfl (lr _) rfl (lr _) ?_
 refine ymr rfl rfl (lr _) rfl (lr _) ?_
 refine sq_yes rfl rfl (lr _) rfl (ev_not (lr _)) ?_
 refine sq_yes rfl rfl (lr _) rfl (ev_pickT (v := .raw _) (lr _) (lr _)) ?_
 refine pf rfl (lr _) (lr _) ?_
 refine mvr (lr _) rfl ?_
 refine ymr rfl rfl (lr _) rfl (lr _) ?_
 refine ysl rfl rfl (lr _) rfl (lr _) ?_
 refine ysl rfl rfl (lr _) rfl (lr _) ?_
 refine sq_yes rfl rfl (lr _) rfl (ev_call en57 (lr _) (list_val (by omega) (fun x hx => by have := in_len hk (hmem x hx); omega) (by omega) hli) ⟨lr _, lr _, trivial⟩) ?_
 refine sq_yes rfl rfl (lr _) rfl (ev_neqB un4 (lr _) (lr _)) ?_
 refine pf rfl (lr _) (lr _) ?_
 refine mvr (lr _) rfl ?_
 refine ymr rfl rfl (lr _) rfl (lr _) ?_
 refine sq_yes rfl rfl (lr _) rfl (ev_eql (lr _) (lr _)) ?_
 refine ysl rfl rfl (lr _) rfl (lr _) ?_
 refine sq_yes rfl rfl (lr _) rfl (ev_len_map sl30 (lr _)) ?_
 refine sq_yes rfl rfl (lr _) rfl (ev_gtr (lr _) (lr _)) ?_
 refine sq_yes rfl rfl (lr _) rfl (ev_neqB un4 (lr _) (lr _)) ?_
 refine pf rfl (lr _) (lr _) ?_
 refine mvr (lr _) rfl ?_
 refine sq_split 115 (lr _) (fun g14 => ?_) (fun g14 => ?_)
 ·
  have g14' := g14
  try simp only [qq] at g14'
  exfalso
  have hz : L = [] := by simpa using g14
  rw [hz] at h0
  simp at h0
 ·
  have g14' := g14
  try simp only [qq] at g14'
  refine sq_yes rfl rfl (less_b g14) rfl (ev_mv (v := .sl _ _) (lr _)) ?_
  refine sq_yes rfl rfl (less_b g14) rfl (ev_len_map sl30 (lr _)) ?_
  refine sq_yes rfl rfl (less_b g14) rfl (ev_gtr (lr _) (lr _)) ?_
  refine sq_ev rfl (ev_pickF (v := .raw _) (less_b g14) (lr _)) ?_
  refine sq_nil ?_
  refine aw_cond (lr _) (fun c15 => ?_) (fun c15 => ?_)
  ·
   have c15' := c15
   try simp only [qq] at c15'
   first | exact absurd c15 (by decide) | (simp at c15; done) | (exfalso; simp at c15; omega)
  ·
   have c15' := c15
   try simp only [qq] at c15'
   refine aw_skip (aw_seq (aw_seq (aw_region ?_)))
   refine mvr (lr _) rfl ?_
   refine sq_ev rfl (ev_neq (lr _) (lr _)) ?_
   refine sq_nil ?_
   refine aw_false (lr _) ?_
   refine aw_skip (aw_seq (aw_seq (aw_region ?_)))
   refine sq_ev rfl (ev_load_agg (lr _) rfl ty27 rfl) ?_
   refine mvs rfl (lr _) ?_
   refine sq_ev rfl (ev_call en47 (lr _) (cho_in hs hk hm0) ⟨lr _, lr _, trivial⟩) ?_
   refine sq_ev rfl (ev_not (lr _)) ?_
   refine mvr (lr _) rfl ?_
   refine sq_yes rfl rfl (lr _) rfl (ev_load_agg (lr _) rfl ty27 rfl) ?_
   refine ysl rfl rfl (lr _) rfl (lr _) ?_
   refine ysl rfl rfl (lr _) rfl (lr _) ?_
   refine sq_yes rfl rfl (lr _) rfl (ev_call en58 (lr _) (hla0) ⟨lr _, lr _, lr _, trivial⟩) ?_
   refine sq_yes rfl rfl (lr _) rfl (ev_not (lr _)) ?_
   refine pf rfl (lr _) (lr _) ?_
   refine mvr (lr _) rfl ?_
   refine ysl rfl rfl (lr _) rfl (lr _) ?_
   refine ysl rfl rfl (lr _) rfl (lr _) ?_
   refine sq_yes rfl rfl (lr _) rfl (ev_index_map (k := 0) sl30 (lr _) (lr _) rfl h0) ?_
   refine sq_yes rfl rfl (lr _) rfl (ev_load_i (lr _) ty34 rfl) ?_
   refine sq_yes rfl rfl (lr _) rfl (ev_call en27 (lr _) (same_selfN cv0) ⟨lr _, lr _, trivial⟩) ?_
   refine sq_yes rfl rfl (lr _) rfl (ev_not (lr _)) ?_
   refine pf rfl (lr _) (lr _) ?_
   refine sq_nil ?_
   refine aw_false (lr _) ?_
   refine aw_skip (aw_seq (aw_region ?_))
   refine sq_ev rfl (ev_load_agg (lr _) rfl ty27 rfl) ?_
   refine mvs rfl (lr _) ?_
   refine mvs rfl (lr _) ?_
   refine sq_ev rfl (ev_call en59 (lr _) (h590) ⟨lr _, lr _, lr _, trivial⟩) ?_
   refine sq_ev rfl (ev_mv (v := .tup _) (lr _)) ?_
   refine xtr rfl (lr _) rfl ?_
   refine xtr rfl (lr _) rfl ?_
   refine asr (lr _) rfl ?_
   refine asr (lr _) rfl ?_
   refine sq_nil (aw_seq (aw_seq (aw_region ?_)))
   refine mvr (lr _) rfl ?_
   refine sq_ev rfl (ev_neq (lr _) (lr _)) ?_
   refine mvr (lr _) rfl ?_
   refine ymr rfl rfl (lr _) rfl (lr _) ?_
   refine sq_yes rfl rfl (lr _) rfl (ev_not (lr _)) ?_
   refine pf rfl (lr _) (lr _) ?_
   refine mvr (lr _) rfl ?_
   refine ymr rfl rfl (lr _) rfl (lr _) ?_
   refine ymr rfl rfl (lr _) rfl (lr _) ?_
   refine ysl rfl rfl (lr _) rfl (lr _) ?_
   refine ysl rfl rfl (lr _) rfl (lr _) ?_
   refine sq_yes rfl rfl (lr _) rfl (ev_call en63 (lr _) (soon_val (by omega) (by omega) hso) ⟨lr _, lr _, trivial⟩) ?_
   refine sq_yes rfl rfl (lr _) rfl (ev_pickT (v := .raw _) (lr _) (lr _)) ?_
   refine pf rfl (lr _) (lr _) ?_
   refine sq_nil ?_
   refine aw_false (lr _) ?_
   refine aw_skip (aw_seq (aw_seq (aw_region ?_)))
   refine asr (lr _) rfl ?_
   refine sq_nil (aw_block ?_)
   refine aw_loopk (ι := { k : Nat // k ≤ L.length }) [1, 2, 3, 7, 8, 10, 12] (fun k => [(18, I k.1)]) (fun H k => H) (fun k => L.length - k.1) (⟨0, Nat.zero_le _⟩) ⟨lr _, lr _, lr _, lr _, lr _, lr _, lr _, lr _, trivial⟩ rfl ?_
   rintro ⟨k, hk0⟩
   dsimp only [keepS, St.put, sget, slotsOf, List.map_cons, List.map_nil, List.cons_append, List.nil_append, List.length_cons, List.length_nil, Nat.reduceBEq, Nat.reduceAdd, cond_true, cond_false]
   refine aw_seq (aw_seq (aw_region ?_))
   refine mvr (lr _) rfl ?_
   refine mvs rfl (lr _) ?_
   refine sq_ev rfl (ev_len_map sl30 (lr _)) ?_
   refine sq_ev rfl (ev_lss (lr _) (lr _)) ?_
   refine sq_nil ?_
   refine aw_cond (lr _) (fun c24 => ?_) (fun c24 => ?_)
   ·
    have c24' := c24
    try simp only [qq] at c24'
    have hkL : k < L.length := by omega
    refine aw_skip (aw_seq (aw_block (aw_seq ?_)))
    refine aw_draw 24 mo (by kernel_rfl) ?_
    refine dr_ev rfl (ev_load_agg (lr _) rfl ty27 rfl) ?_
    refine dr_ev rfl (ev_mv (v := .sl _ _) (lr _)) ?_
    refine dr_ev rfl (ev_mv (v := .raw _) (lr _)) ?_
    refine dr_ev rfl (ev_index_map sl30 (lr _) (lr _) rfl (by omega)) ?_
    refine dr_ev rfl (ev_load_i (lr _) ty34 rfl) ?_
    refine dr_ev rfl (ev_call en47 (lr _) (cho_in hs hk (hmem _ (List.getElem_mem hkL))) ⟨lr _, lr _, trivial⟩) ?_
    refine dr_ev rfl (ev_not (lr _)) ?_
    refine dr_ev rfl (ev_mv (v := .raw _) (lr _)) ?_
    refine dr_yes rfl rfl (lr _) rfl (ev_mv (v := .raw _) (lr _)) ?_
    refine dr_yes rfl rfl (lr _) rfl (ev_gtr (lr _) (lr _)) ?_
    refine dr_yes rfl rfl (lr _) rfl (ev_mv (v := .raw _) (lr _)) ?_
    refine dr_split 187 (lr _) (fun g26 => ?_) (fun g26 => ?_)
    ·
     have g26' := g26
     try simp only [qq] at g26'
     have hk1 : 0 < k := by omega
     refine dr_yes rfl rfl (less_b g26) rfl (ev_mv (v := .sl _ _) (lr _)) ?_
     refine dr_yes rfl rfl (less_b g26) rfl (ev_mv (v := .raw _) (lr _)) ?_
     refine dr_yes rfl rfl (less_b g26) rfl (ev_sub (lr _) (lr _) (wr (by omega) (by omega))) ?_
     refine dr_yes rfl rfl (less_b g26) rfl (ev_index_map (k := k - 1) sl30 (lr _) (lr _) (by omega) (by omega)) ?_
     refine dr_yes rfl rfl (less_b g26) rfl (ev_load_i (lr _) ty34 rfl) ?_
     refine dr_yes rfl rfl (less_b g26) rfl (ev_mv (v := .sl _ _) (lr _)) ?_
     refine dr_yes rfl rfl (less_b g26) rfl (ev_mv (v := .raw _) (lr _)) ?_
     refine dr_yes rfl rfl (less_b g26) rfl (ev_index_map sl30 (lr _) (lr _) rfl (by omega)) ?_
     refine dr_yes rfl rfl (less_b g26) rfl (ev_load_i (lr _) ty34 rfl) ?_
     refine dr_yes rfl rfl (less_b g26) rfl (ev_call en63 (lr _) (soon_val (by have := in_len hk (hmem _ (List.getElem_mem (show k - 1 < L.length by omega))); omega) (by have := in_len hk (hmem _ (List.getElem_mem hkL)); omega) (List.pairwise_iff_getElem.1 hord (k - 1) k (by omega) hkL (by omega))) ⟨lr _, lr _, trivial⟩) ?_
     refine dr_yes rfl rfl (less_b g26) rfl (ev_not (lr _)) ?_
     refine dr_yes rfl rfl (lr _) rfl (ev_pickT (v := .raw _) (less_b g26) (lr _)) ?_
     refine dr_ev rfl (ev_pickF (v := .raw _) (lr _) (lr _)) ?_
     refine dr_end (sq_nil ?_)
     refine aw_false (lr _) ?_
     refine aw_skip (aw_region ?_)
     refine mvr (lr _) rfl ?_
     refine sq_ev rfl (ev_add (lr _) (lr _) (wr (by omega) (by omega))) ?_
     refine asr (lr _) rfl ?_
     refine sq_nil ?_
     exact ⟨⟨k + 1, by omega⟩, by simp only; omega, Sub.slots ⟨lr _, lr _, lr _, lr _, lr _, lr _, lr _, lr _, trivial⟩⟩
    ·
     have g26' := g26
     try simp only [qq] at g26'
     refine dr_no rfl rfl (less_b g26) rfl rfl ?_
     refine dr_no rfl rfl (less_b g26) rfl rfl ?_
     refine dr_no rfl rfl (less_b g26) rfl rfl ?_
     refine dr_no rfl rfl (less_b g26) rfl rfl ?_
     refine dr_no rfl rfl (less_b g26) rfl rfl ?_
     refine dr_no rfl rfl (less_b g26) rfl rfl ?_
     refine dr_no rfl rfl (less_b g26) rfl rfl ?_
     refine dr_no rfl rfl (less_b g26) rfl rfl ?_
     refine dr_no rfl rfl (less_b g26) rfl rfl ?_
     refine dr_no rfl rfl (less_b g26) rfl rfl ?_
     refine dr_no rfl rfl (less_b g26) rfl rfl ?_
     refine dr_yes rfl rfl (lr _) rfl (ev_pickF (v := .raw _) (less_b g26) (lr _)) ?_
     refine dr_ev rfl (ev_pickF (v := .raw _) (lr _) (lr _)) ?_
     refine dr_end (sq_nil ?_)
     refine aw_false (lr _) ?_
     refine aw_skip (aw_region ?_)
     refine mvr (lr _) rfl ?_
     refine sq_ev rfl (ev_add (lr _) (lr _) (wr (by omega) (by omega))) ?_
     refine asr (lr _) rfl ?_
     refine sq_nil ?_
     exact ⟨⟨k + 1, by omega⟩, by simp only; omega, Sub.slots ⟨lr _, lr _, lr _, lr _, lr _, lr _, lr _, lr _, trivial⟩⟩
   ·
    have c24' := c24
    try simp only [qq] at c24'
    refine aw_exit (aw_seq (aw_region ?_))
    refine mvr (lr _) rfl ?_
    refine sq_ev rfl (ev_not (lr _)) ?_
    refine mvr (lr _) rfl ?_
    refine ysl rfl rfl (lr _) rfl (lr _) ?_
    refine ysl rfl rfl (lr _) rfl (lr _) ?_
    refine sq_yes rfl rfl (lr _) rfl (ev_call en27 (lr _) (same_pureN l L[0] (by omega) (by omega)) ⟨lr _, lr _, trivial⟩) ?_
    refine sq_yes rfl rfl (lr _) rfl (ev_not (lr _)) ?_
    refine pf rfl (lr _) (lr _) ?_
    refine mvr (lr _) rfl ?_
    refine sq_split 209 (lr _) (fun g29 => ?_) (fun g29 => ?_)
    ·
     have g29' := g29
     try simp only [qq] at g29'
     refine sq_no rfl rfl (less_b g29) rfl rfl ?_
     refine sq_no rfl rfl (less_b g29) rfl rfl ?_
     refine sq_no rfl rfl (less_b g29) rfl rfl ?_
     refine sq_no rfl rfl (less_b g29) rfl rfl ?_
     refine sq_ev rfl (ev_pickT (v := .raw _) (less_b g29) (lr _)) ?_
     refine mvr (lr _) rfl ?_
     refine sq_yes rfl rfl (lr _) rfl (ev_call en21 (lr _) (known_pure) trivial) ?_
     refine sq_ev rfl (ev_pickT (v := .raw _) (lr _) (lr _)) ?_
     refine asr (lr _) rfl ?_
     refine sq_nil (aw_ret ?_)
     exact retQ_pure (v := .raw _) rfl rfl (lr _)
    ·
     have g29' := g29
     try simp only [qq] at g29'
     have hel : l = L[0] := by simpa using g29'
     refine sq_yes rfl rfl (less_b g29) rfl (ev_mv (v := .sl _ _) (lr _)) ?_
     refine sq_yes rfl rfl (less_b g29) rfl (ev_mv (v := .sl _ _) (lr _)) ?_
     refine sq_yes rfl rfl (less_b g29) rfl (ev_call en63 (lr _) (soon_valI (by omega) (by omega) (hsl hel)) ⟨lr _, lr _, trivial⟩) ?_
     refine sq_yes rfl rfl (less_b g29) rfl (ev_not (lr _)) ?_
     refine sq_ev rfl (ev_pickF (v := .raw _) (less_b g29) (lr _)) ?_
     refine mvr (lr _) rfl ?_
     refine sq_yes rfl rfl (lr _) rfl (ev_call en21 (lr _) (known_pure) trivial) ?_
     refine sq_ev rfl (ev_pickT (v := .raw _) (lr _) (lr _)) ?_
     refine asr (lr _) rfl ?_
     refine sq_nil (aw_ret ?_)
     exact retQ_pure (v := .raw _) rfl rfl (lr _)
set_option maxHeartbeats 8000000 in
set_option maxRecDepth 10000 in
theorem law13_ft (p : Pl) (l : List Nat) (ls : List Int) (hs : p.scenes.length ≤ 12) (hl : l.length ≤ 12) (hls : ls.length ≤ 12) (hk : PlOK p = true) (hc : (Ris p (up l) && isCh p (up l)) = true) (gp : GP p) (wp : WP p) (cv : CV p l) (hL : lastsP p l ls = true) (L : List (List Nat)) (hLc : choicesC p = L) (h0 : 0 < L.length) (hbi : canP (pFF p l ls) l = false) (hbc : canP p l = true) (hli : decide (l ∈ L) = true) (hso : soonB (up l) (up L[0]) = false) : APure Tryz.prog 13 [plan p, nats l, ints ls] (B true) := by
 refine apure_of (rs := [.tmp 6]) Tryz.func13 rfl rfl (Nat.le_of_ble_eq_true rfl) (by simp [AV.pureL, AV.pureB, AV.pureE, pureE_map]) (rfl) fun e0 he0 => ?_
 have hla := rlasts_pure p l ls cv (by omega)
 rw [hL] at hla
 have hch : chosenB p (up l) = true := by rw [chosenB, Bool.and_assoc, hc, hk]; rfl
 have inc := ris_inc (Bool.and_eq_true_iff.1 hc).1
 have hpp := parts_ok hk cv
 have hlen := (lasts_at hL).1
 have hlb := lasts_bds gp cv hL
 have hmem : ∀ x ∈ L, x ∈ choicesC p := fun x hx => by rw [hLc]; exact hx
 have hm0 := hmem _ (List.getElem_mem h0)
 have cv0 := choicesC_mem gp _ hm0
 have inc0 := choicesC_inc hm0
 have hc00 := (List.mem_filter.1 hm0).2
 have hpp0 := parts_ok hk cv0
 have hfl0 := first_lasts wp cv0 inc0 hpp0 hc00
 have hff0 := first_fits wp cv0 inc0 hpp0 hc00
 have hl0 : L[0].length ≤ 12 := by have := in_len hk hm0; omega
 have hL64 : L.length ≤ 64 := by rw [← hLc]; exact choicesC_64 hk
 have hfl : (firstL p L[0]).length ≤ 12 := by unfold firstL; rw [oS_len]; exact hl0
 have hla0 := rlasts_pure p L[0] (firstL p L[0]) cv0 (by omega)
 rw [hfl0] at hla0
 obtain ⟨r1, r2, r3⟩ := pF_ok gp wp cv0 hfl0 L[0].length (Nat.le_refl _)
 have hfc : canP (pFF p L[0] (firstL p L[0])) L[0] = true := (canP_can r2 r3).trans hff0
 have h590 := ft_yes hs hl0 (chosen_in hk hm0) hfl0
 rw [hfc] at h590
 have hord := choicesC_order p
 rw [hLc] at hord
 have h55 := cn_yes hs hl hch
 rw [hbc] at h55
 have h59 := ft_yes hs hl hch hL
 rw [hbi] at h59
 refine aw_seq (aw_region ?_)
 refine sq_box rfl (lr _) rfl ?_
 refine asr (lr _) rfl ?_
 refine sq_nil (aw_seq (aw_seq (aw_region ?_)))
 refine sq_ev rfl (ev_load_agg (lr _) rfl ty27 rfl) ?_
 refine sq_ev rfl (ev_call en20 (lr _) (short_yes hs) ⟨lr _, trivial⟩) ?_
 refine sq_ev rfl (ev_not (lr _)) ?_
 refine mvr (lr _) rfl ?_
 refine ysl rfl rfl (lr _) rfl (lr _) ?_
 refine sq_yes rfl rfl (lr _) rfl (ev_call en45 (lr _) (slim_yesN hl) ⟨lr _, trivial⟩) ?_
 refine sq_yes rfl rfl (lr _) rfl (ev_not (lr _)) ?_
 refine pf rfl (lr _) (lr _) ?_
 refine mvr (lr _) rfl ?_
 refine ysl rfl rfl (lr _) rfl (lr _) ?_
 refine sq_yes rfl rfl (lr _) rfl (ev_call en45 (lr _) (slim_yes hls) ⟨lr _, trivial⟩) ?_
 refine sq_yes rfl rfl (lr _) rfl (ev_not (lr _)) ?_
 refine pf rfl (lr _) (lr _) ?_
 refine mvr (lr _) rfl ?_
 refine sq_yes rfl rfl (lr _) rfl (ev_load_agg (lr _) rfl ty27 rfl) ?_
 refine sq_yes rfl rfl (lr _) rfl (ev_call en24 (lr _) (plan_yes hs hk) ⟨lr _, trivial⟩) ?_
 refine sq_yes rfl rfl (lr _) rfl (ev_not (lr _)) ?_
 refine pf rfl (lr _) (lr _) ?_
 refine mvr (lr _) rfl ?_
 refine sq_yes rfl rfl (lr _) rfl (ev_load_agg (lr _) rfl ty27 rfl) ?_
 refine ysl rfl rfl (lr _) rfl (lr _) ?_
 refine sq_yes rfl rfl (lr _) rfl (ev_call en47 (lr _) (cho_yesN hs hl hc) ⟨lr _, lr _, trivial⟩) ?_
 refine sq_yes rfl rfl (lr _) rfl (ev_not (lr _)) ?_
 refine pf rfl (lr _) (lr _) ?_
 refine mvr (lr _) rfl ?_
 refine sq_yes rfl rfl (lr _) rfl (ev_load_agg (lr _) rfl ty27 rfl) ?_
 refine ysl rfl rfl (lr _) rfl (lr _) ?_
 refine ysl rfl rfl (lr _) rfl (lr _) ?_
 refine sq_yes rfl rfl (lr _) rfl (ev_call en58 (lr _) (hla) ⟨lr _, lr _, lr _, trivial⟩) ?_
 refine sq_yes rfl rfl (lr _) rfl (ev_not (lr _)) ?_
 refine pf rfl (lr _) (lr _) ?_
 refine sq_nil ?_
 refine aw_false (lr _) ?_
 refine aw_skip (aw_seq (aw_region ?_))
 refine sq_ev rfl (ev_load_agg (lr _) rfl ty27 rfl) ?_
 refine sq_ev rfl (ev_call en23 (lr _) (prog_val hs hk hLc h0) ⟨lr _, trivial⟩) ?_
 refine sq_ev rfl (ev_mv (v := .tup _) (lr _)) ?_
 refine xtr rfl (lr _) rfl ?_
 refine xtr rfl (lr _) rfl ?_
 refine xtr rfl (lr _) rfl ?_
 refine ass rfl (lr _) ?_
 refine ass rfl (lr _) ?_
 refine asr (lr _) rfl ?_
 refine sq_nil (aw_seq (aw_region ?_))
 refine sq_ev rfl (ev_load_agg (lr _) rfl ty27 rfl) ?_
 refine sq_ev rfl (ev_call en22 (lr _) (ch_val hs hk hLc) ⟨lr _, trivial⟩) ?_
 refine sq_ev rfl (ev_mv (v := .tup _) (lr _)) ?_
 refine xtr rfl (lr _) rfl ?_
 refine xtr rfl (lr _) rfl ?_
 refine ass rfl (lr _) ?_
 refine asr (lr _) rfl ?_
 refine sq_nil (aw_seq (aw_region ?_))
 refine sq_ev rfl (ev_load_agg (lr _) rfl ty27 rfl) ?_
 refine mvs rfl (lr _) ?_
 refine mvs rfl (lr _) ?_
 refine sq_ev rfl (ev_call en59 (lr _) (h59) ⟨lr _, lr _, lr _, trivial⟩) ?_
 refine sq_ev rfl (ev_mv (v := .tup _) (lr _)) ?_
 refine xtr rfl (lr _) rfl ?_
 refine xtr rfl (lr _) rfl ?_
 refine asr (lr _) rfl ?_
 refine asr (lr _) rfl ?_
 refine sq_nil (aw_seq (aw_region ?_))
 refine sq_ev rfl (ev_load_agg (lr _) rfl ty27 rfl) ?_
 refine mvs rfl (lr _) ?_
 refine sq_ev rfl (ev_call en55 (lr _) (h55) ⟨lr _, lr _, trivial⟩) ?_
 refine sq_ev rfl (ev_mv (v := .tup _) (lr _)) ?_
 refine xtr rfl (lr _) rfl ?_
 refine xtr rfl (lr _) rfl ?_
 refine asr (lr _) rfl ?_
 refine asr (lr _) rfl ?_
 refine sq_nil (aw_seq (aw_seq (aw_region ?_)))
 refine mvr (lr _) rfl ?_
 refine sq_ev rfl (ev_neq (lr _) (lr _)) ?_
 refine mvr (lr _) rfl ?_
 refine sq_no rfl rfl (lr _) rfl rfl ?_
 refine sq_no rfl rfl (lr _) rfl rfl ?_
 refine pf rfl (lr _) (lr _) ?_
 refine mvr (lr _) rfl ?_
 refine ymr rfl rfl (lr _) rfl (lr _) ?_
 refine sq_yes rfl rfl (lr _) rfl (ev_neq (lr _) (lr _)) ?_
 refine pf rfl (lr _) (lr _) ?_
 refine mvr (lr _) rfl ?_
 refine ymr rfl rfl (lr _) rfl (lr _) ?_
 refine sq_yes rfl rfl (lr _) rfl (ev_neq (lr _) (lr _)) ?_
 refine pf rfl (lr _) (lr _) ?_
 refine mvr (lr _) rfl ?_
 refine ymr rfl rfl (lr _) rfl (lr _) ?_
 refine sq_yes rfl rfl (lr _) rfl (ev_neq (lr _) (lr _)) ?_
 refine pf rfl (lr _) (lr _) ?_
 refine mvr (lr _) rfl ?_
 refine ymr rfl rfl (lr _) rfl (lr _) ?_
 refine ymr rfl rfl (lr _) rfl (lr _) ?_
 refine sq_no rfl rfl (lr _) rfl rfl ?_
 refine sq_no rfl rfl (lr _) rfl rfl ?_
 refine sq_yes rfl rfl (lr _) rfl (ev_pickF (v := .raw _) (lr _) (lr _)) ?_
 refine pf rfl (lr _) (lr _) ?_
 refine mvr (lr _) rfl ?_
 refine ymr rfl rfl (lr _) rfl (lr _) ?_
 refine ysl rfl rfl (lr _) rfl (lr _) ?_
 refine ysl rfl rfl (lr _) rfl (lr _) ?_
 refine sq_yes rfl rfl (lr _) rfl (ev_call en57 (lr _) (list_val (by omega) (fun x hx => by have := in_len hk (hmem x hx); omega) (by omega) hli) ⟨lr _, lr _, trivial⟩) ?_
 refine sq_yes rfl rfl (lr _) rfl (ev_neqB un4 (lr _) (lr _)) ?_
 refine pf rfl (lr _) (lr _) ?_
 refine mvr (lr _) rfl ?_
 refine ymr rfl rfl (lr _) rfl (lr _) ?_
 refine sq_yes rfl rfl (lr _) rfl (ev_eql (lr _) (lr _)) ?_
 refine ysl rfl rfl (lr _) rfl (lr _) ?_
 refine sq_yes rfl rfl (lr _) rfl (ev_len_map sl30 (lr _)) ?_
 refine sq_yes rfl rfl (lr _) rfl (ev_gtr (lr _) (lr _)) ?_
 refine sq_yes rfl rfl (lr _) rfl (ev_neqB un4 (lr _) (lr _)) ?_
 refine pf rfl (lr _) (lr _) ?_
 refine mvr (lr _) rfl ?_
 refine sq_split 115 (lr _) (fun g13 => ?_) (fun g13 => ?_)
 ·
  have g13' := g13
  try simp only [qq] at g13'
  exfalso
  have hz : L = [] := by simpa using g13
  rw [hz] at h0
  simp at h0
 ·
  have g13' := g13
  try simp only [qq] at g13'
  refine sq_yes rfl rfl (less_b g13) rfl (ev_mv (v := .sl _ _) (lr _)) ?_
  refine sq_yes rfl rfl (less_b g13) rfl (ev_len_map sl30 (lr _)) ?_
  refine sq_yes rfl rfl (less_b g13) rfl (ev_gtr (lr _) (lr _)) ?_
  refine sq_ev rfl (ev_pickF (v := .raw _) (less_b g13) (lr _)) ?_
  refine sq_nil ?_
  refine aw_cond (lr _) (fun c14 => ?_) (fun c14 => ?_)
  ·
   have c14' := c14
   try simp only [qq] at c14'
   first | exact absurd c14 (by decide) | (simp at c14; done) | (exfalso; simp at c14; omega)
  ·
   have c14' := c14
   try simp only [qq] at c14'
   refine aw_skip (aw_seq (aw_seq (aw_region ?_)))
   refine mvr (lr _) rfl ?_
   refine sq_ev rfl (ev_neq (lr _) (lr _)) ?_
   refine sq_nil ?_
   refine aw_false (lr _) ?_
   refine aw_skip (aw_seq (aw_seq (aw_region ?_)))
   refine sq_ev rfl (ev_load_agg (lr _) rfl ty27 rfl) ?_
   refine mvs rfl (lr _) ?_
   refine sq_ev rfl (ev_call en47 (lr _) (cho_in hs hk hm0) ⟨lr _, lr _, trivial⟩) ?_
   refine sq_ev rfl (ev_not (lr _)) ?_
   refine mvr (lr _) rfl ?_
   refine sq_yes rfl rfl (lr _) rfl (ev_load_agg (lr _) rfl ty27 rfl) ?_
   refine ysl rfl rfl (lr _) rfl (lr _) ?_
   refine ysl rfl rfl (lr _) rfl (lr _) ?_
   refine sq_yes rfl rfl (lr _) rfl (ev_call en58 (lr _) (hla0) ⟨lr _, lr _, lr _, trivial⟩) ?_
   refine sq_yes rfl rfl (lr _) rfl (ev_not (lr _)) ?_
   refine pf rfl (lr _) (lr _) ?_
   refine mvr (lr _) rfl ?_
   refine ysl rfl rfl (lr _) rfl (lr _) ?_
   refine ysl rfl rfl (lr _) rfl (lr _) ?_
   refine sq_yes rfl rfl (lr _) rfl (ev_index_map (k := 0) sl30 (lr _) (lr _) rfl h0) ?_
   refine sq_yes rfl rfl (lr _) rfl (ev_load_i (lr _) ty34 rfl) ?_
   refine sq_yes rfl rfl (lr _) rfl (ev_call en27 (lr _) (same_selfN cv0) ⟨lr _, lr _, trivial⟩) ?_
   refine sq_yes rfl rfl (lr _) rfl (ev_not (lr _)) ?_
   refine pf rfl (lr _) (lr _) ?_
   refine sq_nil ?_
   refine aw_false (lr _) ?_
   refine aw_skip (aw_seq (aw_region ?_))
   refine sq_ev rfl (ev_load_agg (lr _) rfl ty27 rfl) ?_
   refine mvs rfl (lr _) ?_
   refine mvs rfl (lr _) ?_
   refine sq_ev rfl (ev_call en59 (lr _) (h590) ⟨lr _, lr _, lr _, trivial⟩) ?_
   refine sq_ev rfl (ev_mv (v := .tup _) (lr _)) ?_
   refine xtr rfl (lr _) rfl ?_
   refine xtr rfl (lr _) rfl ?_
   refine asr (lr _) rfl ?_
   refine asr (lr _) rfl ?_
   refine sq_nil (aw_seq (aw_seq (aw_region ?_)))
   refine mvr (lr _) rfl ?_
   refine sq_ev rfl (ev_neq (lr _) (lr _)) ?_
   refine mvr (lr _) rfl ?_
   refine ymr rfl rfl (lr _) rfl (lr _) ?_
   refine sq_yes rfl rfl (lr _) rfl (ev_not (lr _)) ?_
   refine pf rfl (lr _) (lr _) ?_
   refine mvr (lr _) rfl ?_
   refine ymr rfl rfl (lr _) rfl (lr _) ?_
   refine ymr rfl rfl (lr _) rfl (lr _) ?_
   refine ysl rfl rfl (lr _) rfl (lr _) ?_
   refine ysl rfl rfl (lr _) rfl (lr _) ?_
   refine sq_yes rfl rfl (lr _) rfl (ev_call en63 (lr _) (soon_val (by omega) (by omega) hso) ⟨lr _, lr _, trivial⟩) ?_
   refine sq_yes rfl rfl (lr _) rfl (ev_pickT (v := .raw _) (lr _) (lr _)) ?_
   refine pf rfl (lr _) (lr _) ?_
   refine sq_nil ?_
   refine aw_false (lr _) ?_
   refine aw_skip (aw_seq (aw_seq (aw_region ?_)))
   refine asr (lr _) rfl ?_
   refine sq_nil (aw_block ?_)
   refine aw_loopk (ι := { k : Nat // k ≤ L.length }) [1, 2, 3, 7, 8, 10, 12] (fun k => [(18, I k.1)]) (fun H k => H) (fun k => L.length - k.1) (⟨0, Nat.zero_le _⟩) ⟨lr _, lr _, lr _, lr _, lr _, lr _, lr _, lr _, trivial⟩ rfl ?_
   rintro ⟨k, hk0⟩
   dsimp only [keepS, St.put, sget, slotsOf, List.map_cons, List.map_nil, List.cons_append, List.nil_append, List.length_cons, List.length_nil, Nat.reduceBEq, Nat.reduceAdd, cond_true, cond_false]
   refine aw_seq (aw_seq (aw_region ?_))
   refine mvr (lr _) rfl ?_
   refine mvs rfl (lr _) ?_
   refine sq_ev rfl (ev_len_map sl30 (lr _)) ?_
   refine sq_ev rfl (ev_lss (lr _) (lr _)) ?_
   refine sq_nil ?_
   refine aw_cond (lr _) (fun c23 => ?_) (fun c23 => ?_)
   ·
    have c23' := c23
    try simp only [qq] at c23'
    have hkL : k < L.length := by omega
    refine aw_skip (aw_seq (aw_block (aw_seq ?_)))
    refine aw_draw 24 mo (by kernel_rfl) ?_
    refine dr_ev rfl (ev_load_agg (lr _) rfl ty27 rfl) ?_
    refine dr_ev rfl (ev_mv (v := .sl _ _) (lr _)) ?_
    refine dr_ev rfl (ev_mv (v := .raw _) (lr _)) ?_
    refine dr_ev rfl (ev_index_map sl30 (lr _) (lr _) rfl (by omega)) ?_
    refine dr_ev rfl (ev_load_i (lr _) ty34 rfl) ?_
    refine dr_ev rfl (ev_call en47 (lr _) (cho_in hs hk (hmem _ (List.getElem_mem hkL))) ⟨lr _, lr _, trivial⟩) ?_
    refine dr_ev rfl (ev_not (lr _)) ?_
    refine dr_ev rfl (ev_mv (v := .raw _) (lr _)) ?_
    refine dr_yes rfl rfl (lr _) rfl (ev_mv (v := .raw _) (lr _)) ?_
    refine dr_yes rfl rfl (lr _) rfl (ev_gtr (lr _) (lr _)) ?_
    refine dr_yes rfl rfl (lr _) rfl (ev_mv (v := .raw _) (lr _)) ?_
    refine dr_split 187 (lr _) (fun g25 => ?_) (fun g25 => ?_)
    ·
     have g25' := g25
     try simp only [qq] at g25'
     have hk1 : 0 < k := by omega
     refine dr_yes rfl rfl (less_b g25) rfl (ev_mv (v := .sl _ _) (lr _)) ?_
     refine dr_yes rfl rfl (less_b g25) rfl (ev_mv (v := .raw _) (lr _)) ?_
     refine dr_yes rfl rfl (less_b g25) rfl (ev_sub (lr _) (lr _) (wr (by omega) (by omega))) ?_
     refine dr_yes rfl rfl (less_b g25) rfl (ev_index_map (k := k - 1) sl30 (lr _) (lr _) (by omega) (by omega)) ?_
     refine dr_yes rfl rfl (less_b g25) rfl (ev_load_i (lr _) ty34 rfl) ?_
     refine dr_yes rfl rfl (less_b g25) rfl (ev_mv (v := .sl _ _) (lr _)) ?_
     refine dr_yes rfl rfl (less_b g25) rfl (ev_mv (v := .raw _) (lr _)) ?_
     refine dr_yes rfl rfl (less_b g25) rfl (ev_index_map sl30 (lr _) (lr _) rfl (by omega)) ?_
     refine dr_yes rfl rfl (less_b g25) rfl (ev_load_i (lr _) ty34 rfl) ?_
     refine dr_yes rfl rfl (less_b g25) rfl (ev_call en63 (lr _) (soon_val (by have := in_len hk (hmem _ (List.getElem_mem (show k - 1 < L.length by omega))); omega) (by have := in_len hk (hmem _ (List.getElem_mem hkL)); omega) (List.pairwise_iff_getElem.1 hord (k - 1) k (by omega) hkL (by omega))) ⟨lr _, lr _, trivial⟩) ?_
     refine dr_yes rfl rfl (less_b g25) rfl (ev_not (lr _)) ?_
     refine dr_yes rfl rfl (lr _) rfl (ev_pickT (v := .raw _) (less_b g25) (lr _)) ?_
     refine dr_ev rfl (ev_pickF (v := .raw _) (lr _) (lr _)) ?_
     refine dr_end (sq_nil ?_)
     refine aw_false (lr _) ?_
     refine aw_skip (aw_region ?_)
     refine mvr (lr _) rfl ?_
     refine sq_ev rfl (ev_add (lr _) (lr _) (wr (by omega) (by omega))) ?_
     refine asr (lr _) rfl ?_
     refine sq_nil ?_
     exact ⟨⟨k + 1, by omega⟩, by simp only; omega, Sub.slots ⟨lr _, lr _, lr _, lr _, lr _, lr _, lr _, lr _, trivial⟩⟩
    ·
     have g25' := g25
     try simp only [qq] at g25'
     refine dr_no rfl rfl (less_b g25) rfl rfl ?_
     refine dr_no rfl rfl (less_b g25) rfl rfl ?_
     refine dr_no rfl rfl (less_b g25) rfl rfl ?_
     refine dr_no rfl rfl (less_b g25) rfl rfl ?_
     refine dr_no rfl rfl (less_b g25) rfl rfl ?_
     refine dr_no rfl rfl (less_b g25) rfl rfl ?_
     refine dr_no rfl rfl (less_b g25) rfl rfl ?_
     refine dr_no rfl rfl (less_b g25) rfl rfl ?_
     refine dr_no rfl rfl (less_b g25) rfl rfl ?_
     refine dr_no rfl rfl (less_b g25) rfl rfl ?_
     refine dr_no rfl rfl (less_b g25) rfl rfl ?_
     refine dr_yes rfl rfl (lr _) rfl (ev_pickF (v := .raw _) (less_b g25) (lr _)) ?_
     refine dr_ev rfl (ev_pickF (v := .raw _) (lr _) (lr _)) ?_
     refine dr_end (sq_nil ?_)
     refine aw_false (lr _) ?_
     refine aw_skip (aw_region ?_)
     refine mvr (lr _) rfl ?_
     refine sq_ev rfl (ev_add (lr _) (lr _) (wr (by omega) (by omega))) ?_
     refine asr (lr _) rfl ?_
     refine sq_nil ?_
     exact ⟨⟨k + 1, by omega⟩, by simp only; omega, Sub.slots ⟨lr _, lr _, lr _, lr _, lr _, lr _, lr _, lr _, trivial⟩⟩
   ·
    have c23' := c23
    try simp only [qq] at c23'
    refine aw_exit (aw_seq (aw_region ?_))
    refine mvr (lr _) rfl ?_
    refine sq_ev rfl (ev_not (lr _)) ?_
    refine mvr (lr _) rfl ?_
    refine sq_no rfl rfl (lr _) rfl rfl ?_
    refine sq_no rfl rfl (lr _) rfl rfl ?_
    refine sq_no rfl rfl (lr _) rfl rfl ?_
    refine sq_no rfl rfl (lr _) rfl rfl ?_
    refine sq_ev rfl (ev_pickT (v := .raw _) (lr _) (lr _)) ?_
    refine mvr (lr _) rfl ?_
    refine sq_no rfl rfl (lr _) rfl rfl ?_
    refine sq_no rfl rfl (lr _) rfl rfl ?_
    refine sq_no rfl rfl (lr _) rfl rfl ?_
    refine sq_no rfl rfl (lr _) rfl rfl ?_
    refine sq_ev rfl (ev_pickT (v := .raw _) (lr _) (lr _)) ?_
    refine mvr (lr _) rfl ?_
    refine sq_yes rfl rfl (lr _) rfl (ev_call en21 (lr _) (known_pure) trivial) ?_
    refine sq_ev rfl (ev_pickT (v := .raw _) (lr _) (lr _)) ?_
    refine asr (lr _) rfl ?_
    refine sq_nil (aw_ret ?_)
    exact retQ_pure (v := .raw _) rfl rfl (lr _)
set_option maxHeartbeats 8000000 in
set_option maxRecDepth 10000 in
theorem law13_ff (p : Pl) (l : List Nat) (ls : List Int) (hs : p.scenes.length ≤ 12) (hl : l.length ≤ 12) (hls : ls.length ≤ 12) (hk : PlOK p = true) (hc : (Ris p (up l) && isCh p (up l)) = true) (gp : GP p) (wp : WP p) (cv : CV p l) (hL : lastsP p l ls = true) (L : List (List Nat)) (hLc : choicesC p = L) (h0 : 0 < L.length) (hbi : canP (pFF p l ls) l = false) (hbc : canP p l = false) (hli : decide (l ∈ L) = false) : APure Tryz.prog 13 [plan p, nats l, ints ls] (B true) := by
 refine apure_of (rs := [.tmp 6]) Tryz.func13 rfl rfl (Nat.le_of_ble_eq_true rfl) (by simp [AV.pureL, AV.pureB, AV.pureE, pureE_map]) (rfl) fun e0 he0 => ?_
 have hla := rlasts_pure p l ls cv (by omega)
 rw [hL] at hla
 have hch : chosenB p (up l) = true := by rw [chosenB, Bool.and_assoc, hc, hk]; rfl
 have inc := ris_inc (Bool.and_eq_true_iff.1 hc).1
 have hpp := parts_ok hk cv
 have hlen := (lasts_at hL).1
 have hlb := lasts_bds gp cv hL
 have hmem : ∀ x ∈ L, x ∈ choicesC p := fun x hx => by rw [hLc]; exact hx
 have hm0 := hmem _ (List.getElem_mem h0)
 have cv0 := choicesC_mem gp _ hm0
 have inc0 := choicesC_inc hm0
 have hc00 := (List.mem_filter.1 hm0).2
 have hpp0 := parts_ok hk cv0
 have hfl0 := first_lasts wp cv0 inc0 hpp0 hc00
 have hff0 := first_fits wp cv0 inc0 hpp0 hc00
 have hl0 : L[0].length ≤ 12 := by have := in_len hk hm0; omega
 have hL64 : L.length ≤ 64 := by rw [← hLc]; exact choicesC_64 hk
 have hfl : (firstL p L[0]).length ≤ 12 := by unfold firstL; rw [oS_len]; exact hl0
 have hla0 := rlasts_pure p L[0] (firstL p L[0]) cv0 (by omega)
 rw [hfl0] at hla0
 obtain ⟨r1, r2, r3⟩ := pF_ok gp wp cv0 hfl0 L[0].length (Nat.le_refl _)
 have hfc : canP (pFF p L[0] (firstL p L[0])) L[0] = true := (canP_can r2 r3).trans hff0
 have h590 := ft_yes hs hl0 (chosen_in hk hm0) hfl0
 rw [hfc] at h590
 have hord := choicesC_order p
 rw [hLc] at hord
 have h55 := cn_yes hs hl hch
 rw [hbc] at h55
 have h59 := ft_yes hs hl hch hL
 rw [hbi] at h59
 refine aw_seq (aw_region ?_)
 refine sq_box rfl (lr _) rfl ?_
 refine asr (lr _) rfl ?_
 refine sq_nil (aw_seq (aw_seq (aw_region ?_)))
 refine sq_ev rfl (ev_load_agg (lr _) rfl ty27 rfl) ?_
 refine sq_ev rfl (ev_call en20 (lr _) (short_yes hs) ⟨lr _, trivial⟩) ?_
 refine sq_ev rfl (ev_not (lr _)) ?_
 refine mvr (lr _) rfl ?_
 refine ysl rfl rfl (lr _) rfl (lr _) ?_
 refine sq_yes rfl rfl (lr _) rfl (ev_call en45 (lr _) (slim_yesN hl) ⟨lr _, trivial⟩) ?_
 refine sq_yes rfl rfl (lr _) rfl (ev_not (lr _)) ?_
 refine pf rfl (lr _) (lr _) ?_
 refine mvr (lr _) rfl ?_
 refine ysl rfl rfl (lr _) rfl (lr _) ?_
 refine sq_yes rfl rfl (lr _) rfl (ev_call en45 (lr _) (slim_yes hls) ⟨lr _, trivial⟩) ?_
 refine sq_yes rfl rfl (lr _) rfl (ev_not (lr _)) ?_
 refine pf rfl (lr _) (lr _) ?_
 refine mvr (lr _) rfl ?_
 refine sq_yes rfl rfl (lr _) rfl (ev_load_agg (lr _) rfl ty27 rfl) ?_
 refine sq_yes rfl rfl (lr _) rfl (ev_call en24 (lr _) (plan_yes hs hk) ⟨lr _, trivial⟩) ?_
 refine sq_yes rfl rfl (lr _) rfl (ev_not (lr _)) ?_
 refine pf rfl (lr _) (lr _) ?_
 refine mvr (lr _) rfl ?_
 refine sq_yes rfl rfl (lr _) rfl (ev_load_agg (lr _) rfl ty27 rfl) ?_
 refine ysl rfl rfl (lr _) rfl (lr _) ?_
 refine sq_yes rfl rfl (lr _) rfl (ev_call en47 (lr _) (cho_yesN hs hl hc) ⟨lr _, lr _, trivial⟩) ?_
 refine sq_yes rfl rfl (lr _) rfl (ev_not (lr _)) ?_
 refine pf rfl (lr _) (lr _) ?_
 refine mvr (lr _) rfl ?_
 refine sq_yes rfl rfl (lr _) rfl (ev_load_agg (lr _) rfl ty27 rfl) ?_
 refine ysl rfl rfl (lr _) rfl (lr _) ?_
 refine ysl rfl rfl (lr _) rfl (lr _) ?_
 refine sq_yes rfl rfl (lr _) rfl (ev_call en58 (lr _) (hla) ⟨lr _, lr _, lr _, trivial⟩) ?_
 refine sq_yes rfl rfl (lr _) rfl (ev_not (lr _)) ?_
 refine pf rfl (lr _) (lr _) ?_
 refine sq_nil ?_
 refine aw_false (lr _) ?_
 refine aw_skip (aw_seq (aw_region ?_))
 refine sq_ev rfl (ev_load_agg (lr _) rfl ty27 rfl) ?_
 refine sq_ev rfl (ev_call en23 (lr _) (prog_val hs hk hLc h0) ⟨lr _, trivial⟩) ?_
 refine sq_ev rfl (ev_mv (v := .tup _) (lr _)) ?_
 refine xtr rfl (lr _) rfl ?_
 refine xtr rfl (lr _) rfl ?_
 refine xtr rfl (lr _) rfl ?_
 refine ass rfl (lr _) ?_
 refine ass rfl (lr _) ?_
 refine asr (lr _) rfl ?_
 refine sq_nil (aw_seq (aw_region ?_))
 refine sq_ev rfl (ev_load_agg (lr _) rfl ty27 rfl) ?_
 refine sq_ev rfl (ev_call en22 (lr _) (ch_val hs hk hLc) ⟨lr _, trivial⟩) ?_
 refine sq_ev rfl (ev_mv (v := .tup _) (lr _)) ?_
 refine xtr rfl (lr _) rfl ?_
 refine xtr rfl (lr _) rfl ?_
 refine ass rfl (lr _) ?_
 refine asr (lr _) rfl ?_
 refine sq_nil (aw_seq (aw_region ?_))
 refine sq_ev rfl (ev_load_agg (lr _) rfl ty27 rfl) ?_
 refine mvs rfl (lr _) ?_
 refine mvs rfl (lr _) ?_
 refine sq_ev rfl (ev_call en59 (lr _) (h59) ⟨lr _, lr _, lr _, trivial⟩) ?_
 refine sq_ev rfl (ev_mv (v := .tup _) (lr _)) ?_
 refine xtr rfl (lr _) rfl ?_
 refine xtr rfl (lr _) rfl ?_
 refine asr (lr _) rfl ?_
 refine asr (lr _) rfl ?_
 refine sq_nil (aw_seq (aw_region ?_))
 refine sq_ev rfl (ev_load_agg (lr _) rfl ty27 rfl) ?_
 refine mvs rfl (lr _) ?_
 refine sq_ev rfl (ev_call en55 (lr _) (h55) ⟨lr _, lr _, trivial⟩) ?_
 refine sq_ev rfl (ev_mv (v := .tup _) (lr _)) ?_
 refine xtr rfl (lr _) rfl ?_
 refine xtr rfl (lr _) rfl ?_
 refine asr (lr _) rfl ?_
 refine asr (lr _) rfl ?_
 refine sq_nil (aw_seq (aw_seq (aw_region ?_)))
 refine mvr (lr _) rfl ?_
 refine sq_ev rfl (ev_neq (lr _) (lr _)) ?_
 refine mvr (lr _) rfl ?_
 refine sq_no rfl rfl (lr _) rfl rfl ?_
 refine sq_no rfl rfl (lr _) rfl rfl ?_
 refine pf rfl (lr _) (lr _) ?_
 refine mvr (lr _) rfl ?_
 refine ymr rfl rfl (lr _) rfl (lr _) ?_
 refine sq_yes rfl rfl (lr _) rfl (ev_neq (lr _) (lr _)) ?_
 refine pf rfl (lr _) (lr _) ?_
 refine mvr (lr _) rfl ?_
 refine ymr rfl rfl (lr _) rfl (lr _) ?_
 refine sq_yes rfl rfl (lr _) rfl (ev_neq (lr _) (lr _)) ?_
 refine pf rfl (lr _) (lr _) ?_
 refine mvr (lr _) rfl ?_
 refine ymr rfl rfl (lr _) rfl (lr _) ?_
 refine sq_yes rfl rfl (lr _) rfl (ev_neq (lr _) (lr _)) ?_
 refine pf rfl (lr _) (lr _) ?_
 refine mvr (lr _) rfl ?_
 refine ymr rfl rfl (lr _) rfl (lr _) ?_
 refine ymr rfl rfl (lr _) rfl (lr _) ?_
 refine sq_no rfl rfl (lr _) rfl rfl ?_
 refine sq_no rfl rfl (lr _) rfl rfl ?_
 refine sq_yes rfl rfl (lr _) rfl (ev_pickF (v := .raw _) (lr _) (lr _)) ?_
 refine pf rfl (lr _) (lr _) ?_
 refine mvr (lr _) rfl ?_
 refine ymr rfl rfl (lr _) rfl (lr _) ?_
 refine ysl rfl rfl (lr _) rfl (lr _) ?_
 refine ysl rfl rfl (lr _) rfl (lr _) ?_
 refine sq_yes rfl rfl (lr _) rfl (ev_call en57 (lr _) (list_val (by omega) (fun x hx => by have := in_len hk (hmem x hx); omega) (by omega) hli) ⟨lr _, lr _, trivial⟩) ?_
 refine sq_yes rfl rfl (lr _) rfl (ev_neqB un4 (lr _) (lr _)) ?_
 refine pf rfl (lr _) (lr _) ?_
 refine mvr (lr _) rfl ?_
 refine ymr rfl rfl (lr _) rfl (lr _) ?_
 refine sq_yes rfl rfl (lr _) rfl (ev_eql (lr _) (lr _)) ?_
 refine ysl rfl rfl (lr _) rfl (lr _) ?_
 refine sq_yes rfl rfl (lr _) rfl (ev_len_map sl30 (lr _)) ?_
 refine sq_yes rfl rfl (lr _) rfl (ev_gtr (lr _) (lr _)) ?_
 refine sq_yes rfl rfl (lr _) rfl (ev_neqB un4 (lr _) (lr _)) ?_
 refine pf rfl (lr _) (lr _) ?_
 refine mvr (lr _) rfl ?_
 refine sq_split 115 (lr _) (fun g13 => ?_) (fun g13 => ?_)
 ·
  have g13' := g13
  try simp only [qq] at g13'
  exfalso
  have hz : L = [] := by simpa using g13
  rw [hz] at h0
  simp at h0
 ·
  have g13' := g13
  try simp only [qq] at g13'
  refine sq_yes rfl rfl (less_b g13) rfl (ev_mv (v := .sl _ _) (lr _)) ?_
  refine sq_yes rfl rfl (less_b g13) rfl (ev_len_map sl30 (lr _)) ?_
  refine sq_yes rfl rfl (less_b g13) rfl (ev_gtr (lr _) (lr _)) ?_
  refine sq_ev rfl (ev_pickF (v := .raw _) (less_b g13) (lr _)) ?_
  refine sq_nil ?_
  refine aw_cond (lr _) (fun c14 => ?_) (fun c14 => ?_)
  ·
   have c14' := c14
   try simp only [qq] at c14'
   first | exact absurd c14 (by decide) | (simp at c14; done) | (exfalso; simp at c14; omega)
  ·
   have c14' := c14
   try simp only [qq] at c14'
   refine aw_skip (aw_seq (aw_seq (aw_region ?_)))
   refine mvr (lr _) rfl ?_
   refine sq_ev rfl (ev_neq (lr _) (lr _)) ?_
   refine sq_nil ?_
   refine aw_false (lr _) ?_
   refine aw_skip (aw_seq (aw_seq (aw_region ?_)))
   refine sq_ev rfl (ev_load_agg (lr _) rfl ty27 rfl) ?_
   refine mvs rfl (lr _) ?_
   refine sq_ev rfl (ev_call en47 (lr _) (cho_in hs hk hm0) ⟨lr _, lr _, trivial⟩) ?_
   refine sq_ev rfl (ev_not (lr _)) ?_
   refine mvr (lr _) rfl ?_
   refine sq_yes rfl rfl (lr _) rfl (ev_load_agg (lr _) rfl ty27 rfl) ?_
   refine ysl rfl rfl (lr _) rfl (lr _) ?_
   refine ysl rfl rfl (lr _) rfl (lr _) ?_
   refine sq_yes rfl rfl (lr _) rfl (ev_call en58 (lr _) (hla0) ⟨lr _, lr _, lr _, trivial⟩) ?_
   refine sq_yes rfl rfl (lr _) rfl (ev_not (lr _)) ?_
   refine pf rfl (lr _) (lr _) ?_
   refine mvr (lr _) rfl ?_
   refine ysl rfl rfl (lr _) rfl (lr _) ?_
   refine ysl rfl rfl (lr _) rfl (lr _) ?_
   refine sq_yes rfl rfl (lr _) rfl (ev_index_map (k := 0) sl30 (lr _) (lr _) rfl h0) ?_
   refine sq_yes rfl rfl (lr _) rfl (ev_load_i (lr _) ty34 rfl) ?_
   refine sq_yes rfl rfl (lr _) rfl (ev_call en27 (lr _) (same_selfN cv0) ⟨lr _, lr _, trivial⟩) ?_
   refine sq_yes rfl rfl (lr _) rfl (ev_not (lr _)) ?_
   refine pf rfl (lr _) (lr _) ?_
   refine sq_nil ?_
   refine aw_false (lr _) ?_
   refine aw_skip (aw_seq (aw_region ?_))
   refine sq_ev rfl (ev_load_agg (lr _) rfl ty27 rfl) ?_
   refine mvs rfl (lr _) ?_
   refine mvs rfl (lr _) ?_
   refine sq_ev rfl (ev_call en59 (lr _) (h590) ⟨lr _, lr _, lr _, trivial⟩) ?_
   refine sq_ev rfl (ev_mv (v := .tup _) (lr _)) ?_
   refine xtr rfl (lr _) rfl ?_
   refine xtr rfl (lr _) rfl ?_
   refine asr (lr _) rfl ?_
   refine asr (lr _) rfl ?_
   refine sq_nil (aw_seq (aw_seq (aw_region ?_)))
   refine mvr (lr _) rfl ?_
   refine sq_ev rfl (ev_neq (lr _) (lr _)) ?_
   refine mvr (lr _) rfl ?_
   refine ymr rfl rfl (lr _) rfl (lr _) ?_
   refine sq_yes rfl rfl (lr _) rfl (ev_not (lr _)) ?_
   refine pf rfl (lr _) (lr _) ?_
   refine mvr (lr _) rfl ?_
   refine ymr rfl rfl (lr _) rfl (lr _) ?_
   refine ymr rfl rfl (lr _) rfl (lr _) ?_
   refine sq_no rfl rfl (lr _) rfl rfl ?_
   refine sq_no rfl rfl (lr _) rfl rfl ?_
   refine sq_no rfl rfl (lr _) rfl rfl ?_
   refine sq_yes rfl rfl (lr _) rfl (ev_pickF (v := .raw _) (lr _) (lr _)) ?_
   refine pf rfl (lr _) (lr _) ?_
   refine sq_nil ?_
   refine aw_false (lr _) ?_
   refine aw_skip (aw_seq (aw_seq (aw_region ?_)))
   refine asr (lr _) rfl ?_
   refine sq_nil (aw_block ?_)
   refine aw_loopk (ι := { k : Nat // k ≤ L.length }) [1, 2, 3, 7, 8, 10, 12] (fun k => [(18, I k.1)]) (fun H k => H) (fun k => L.length - k.1) (⟨0, Nat.zero_le _⟩) ⟨lr _, lr _, lr _, lr _, lr _, lr _, lr _, lr _, trivial⟩ rfl ?_
   rintro ⟨k, hk0⟩
   dsimp only [keepS, St.put, sget, slotsOf, List.map_cons, List.map_nil, List.cons_append, List.nil_append, List.length_cons, List.length_nil, Nat.reduceBEq, Nat.reduceAdd, cond_true, cond_false]
   refine aw_seq (aw_seq (aw_region ?_))
   refine mvr (lr _) rfl ?_
   refine mvs rfl (lr _) ?_
   refine sq_ev rfl (ev_len_map sl30 (lr _)) ?_
   refine sq_ev rfl (ev_lss (lr _) (lr _)) ?_
   refine sq_nil ?_
   refine aw_cond (lr _) (fun c22 => ?_) (fun c22 => ?_)
   ·
    have c22' := c22
    try simp only [qq] at c22'
    have hkL : k < L.length := by omega
    refine aw_skip (aw_seq (aw_block (aw_seq ?_)))
    refine aw_draw 24 mo (by kernel_rfl) ?_
    refine dr_ev rfl (ev_load_agg (lr _) rfl ty27 rfl) ?_
    refine dr_ev rfl (ev_mv (v := .sl _ _) (lr _)) ?_
    refine dr_ev rfl (ev_mv (v := .raw _) (lr _)) ?_
    refine dr_ev rfl (ev_index_map sl30 (lr _) (lr _) rfl (by omega)) ?_
    refine dr_ev rfl (ev_load_i (lr _) ty34 rfl) ?_
    refine dr_ev rfl (ev_call en47 (lr _) (cho_in hs hk (hmem _ (List.getElem_mem hkL))) ⟨lr _, lr _, trivial⟩) ?_
    refine dr_ev rfl (ev_not (lr _)) ?_
    refine dr_ev rfl (ev_mv (v := .raw _) (lr _)) ?_
    refine dr_yes rfl rfl (lr _) rfl (ev_mv (v := .raw _) (lr _)) ?_
    refine dr_yes rfl rfl (lr _) rfl (ev_gtr (lr _) (lr _)) ?_
    refine dr_yes rfl rfl (lr _) rfl (ev_mv (v := .raw _) (lr _)) ?_
    refine dr_split 187 (lr _) (fun g24 => ?_) (fun g24 => ?_)
    ·
     have g24' := g24
     try simp only [qq] at g24'
     have hk1 : 0 < k := by omega
     refine dr_yes rfl rfl (less_b g24) rfl (ev_mv (v := .sl _ _) (lr _)) ?_
     refine dr_yes rfl rfl (less_b g24) rfl (ev_mv (v := .raw _) (lr _)) ?_
     refine dr_yes rfl rfl (less_b g24) rfl (ev_sub (lr _) (lr _) (wr (by omega) (by omega))) ?_
     refine dr_yes rfl rfl (less_b g24) rfl (ev_index_map (k := k - 1) sl30 (lr _) (lr _) (by omega) (by omega)) ?_
     refine dr_yes rfl rfl (less_b g24) rfl (ev_load_i (lr _) ty34 rfl) ?_
     refine dr_yes rfl rfl (less_b g24) rfl (ev_mv (v := .sl _ _) (lr _)) ?_
     refine dr_yes rfl rfl (less_b g24) rfl (ev_mv (v := .raw _) (lr _)) ?_
     refine dr_yes rfl rfl (less_b g24) rfl (ev_index_map sl30 (lr _) (lr _) rfl (by omega)) ?_
     refine dr_yes rfl rfl (less_b g24) rfl (ev_load_i (lr _) ty34 rfl) ?_
     refine dr_yes rfl rfl (less_b g24) rfl (ev_call en63 (lr _) (soon_val (by have := in_len hk (hmem _ (List.getElem_mem (show k - 1 < L.length by omega))); omega) (by have := in_len hk (hmem _ (List.getElem_mem hkL)); omega) (List.pairwise_iff_getElem.1 hord (k - 1) k (by omega) hkL (by omega))) ⟨lr _, lr _, trivial⟩) ?_
     refine dr_yes rfl rfl (less_b g24) rfl (ev_not (lr _)) ?_
     refine dr_yes rfl rfl (lr _) rfl (ev_pickT (v := .raw _) (less_b g24) (lr _)) ?_
     refine dr_ev rfl (ev_pickF (v := .raw _) (lr _) (lr _)) ?_
     refine dr_end (sq_nil ?_)
     refine aw_false (lr _) ?_
     refine aw_skip (aw_region ?_)
     refine mvr (lr _) rfl ?_
     refine sq_ev rfl (ev_add (lr _) (lr _) (wr (by omega) (by omega))) ?_
     refine asr (lr _) rfl ?_
     refine sq_nil ?_
     exact ⟨⟨k + 1, by omega⟩, by simp only; omega, Sub.slots ⟨lr _, lr _, lr _, lr _, lr _, lr _, lr _, lr _, trivial⟩⟩
    ·
     have g24' := g24
     try simp only [qq] at g24'
     refine dr_no rfl rfl (less_b g24) rfl rfl ?_
     refine dr_no rfl rfl (less_b g24) rfl rfl ?_
     refine dr_no rfl rfl (less_b g24) rfl rfl ?_
     refine dr_no rfl rfl (less_b g24) rfl rfl ?_
     refine dr_no rfl rfl (less_b g24) rfl rfl ?_
     refine dr_no rfl rfl (less_b g24) rfl rfl ?_
     refine dr_no rfl rfl (less_b g24) rfl rfl ?_
     refine dr_no rfl rfl (less_b g24) rfl rfl ?_
     refine dr_no rfl rfl (less_b g24) rfl rfl ?_
     refine dr_no rfl rfl (less_b g24) rfl rfl ?_
     refine dr_no rfl rfl (less_b g24) rfl rfl ?_
     refine dr_yes rfl rfl (lr _) rfl (ev_pickF (v := .raw _) (less_b g24) (lr _)) ?_
     refine dr_ev rfl (ev_pickF (v := .raw _) (lr _) (lr _)) ?_
     refine dr_end (sq_nil ?_)
     refine aw_false (lr _) ?_
     refine aw_skip (aw_region ?_)
     refine mvr (lr _) rfl ?_
     refine sq_ev rfl (ev_add (lr _) (lr _) (wr (by omega) (by omega))) ?_
     refine asr (lr _) rfl ?_
     refine sq_nil ?_
     exact ⟨⟨k + 1, by omega⟩, by simp only; omega, Sub.slots ⟨lr _, lr _, lr _, lr _, lr _, lr _, lr _, lr _, trivial⟩⟩
   ·
    have c22' := c22
    try simp only [qq] at c22'
    refine aw_exit (aw_seq (aw_region ?_))
    refine mvr (lr _) rfl ?_
    refine sq_ev rfl (ev_not (lr _)) ?_
    refine mvr (lr _) rfl ?_
    refine sq_no rfl rfl (lr _) rfl rfl ?_
    refine sq_no rfl rfl (lr _) rfl rfl ?_
    refine sq_no rfl rfl (lr _) rfl rfl ?_
    refine sq_no rfl rfl (lr _) rfl rfl ?_
    refine sq_ev rfl (ev_pickT (v := .raw _) (lr _) (lr _)) ?_
    refine mvr (lr _) rfl ?_
    refine sq_no rfl rfl (lr _) rfl rfl ?_
    refine sq_no rfl rfl (lr _) rfl rfl ?_
    refine sq_no rfl rfl (lr _) rfl rfl ?_
    refine sq_no rfl rfl (lr _) rfl rfl ?_
    refine sq_ev rfl (ev_pickT (v := .raw _) (lr _) (lr _)) ?_
    refine mvr (lr _) rfl ?_
    refine sq_yes rfl rfl (lr _) rfl (ev_call en21 (lr _) (known_pure) trivial) ?_
    refine sq_ev rfl (ev_pickT (v := .raw _) (lr _) (lr _)) ?_
    refine asr (lr _) rfl ?_
    refine sq_nil (aw_ret ?_)
    exact retQ_pure (v := .raw _) rfl rfl (lr _)
/-- **NightBest returns true.** -/
theorem law13 (p : Pl) (l ls : List Int) : APure Tryz.prog 13 [plan p, ints l, ints ls] (B true) := by
  by_cases hs : p.scenes.length ≤ 12
  · by_cases hl : l.length ≤ 12
    · by_cases hls : ls.length ≤ 12
      · cases hk : PlOK p with
        | false => exact law13_bad p l ls hs hl hls hk
        | true =>
          cases hc : (Ris p l && isCh p l) with
          | false => exact law13_cho p l ls hs hl hls hk hc
          | true =>
            obtain ⟨l', rfl, cv, gp, wp⟩ := chosen_up (p := p) (l := l) (by rw [chosenB, Bool.and_assoc, hc, hk]; rfl)
            rw [ints_up]
            have hl' : l'.length ≤ 12 := by simpa [up] using hl
            cases hL : lastsP p l' ls with
            | false => exact law13_last p l' ls hs hl' hls hk hc gp wp cv hL
            | true =>
              have inc := ris_inc (Bool.and_eq_true_iff.1 hc).1
              have hpp := parts_ok hk cv
              obtain ⟨g1, g2, g3⟩ := pF_ok gp wp cv hL l'.length (Nat.le_refl _)
              have e : canP (pFF p l' ls) l' = rfits p l' ls := (canP_can g2 g3).trans (fits_iff gp wp cv inc hL hpp)
              have hcC : canP p l' = decide (l' ∈ choicesC p) := by
                rw [canP_can wp cv, Bool.eq_iff_iff, decide_eq_true_eq]
                exact ⟨fun h => List.mem_filter.2 ⟨mem_allC inc cv.rng (Bool.and_eq_true_iff.1 hc).2, h⟩, fun h => (List.mem_filter.1 h).2⟩
              rcases Nat.eq_zero_or_pos (choicesC p).length with h0 | h0
              · exact law13_none p l' ls hs hl' hls hk hc gp wp cv hL (List.length_eq_zero_iff.1 h0)
              · have hso : l' ∈ choicesC p → soonB (up l') (up (choicesC p)[0]) = false := fun hm => by
                  obtain ⟨j, hj, ej⟩ := List.getElem_of_mem hm
                  rcases Nat.eq_zero_or_pos j with hj0 | hj0
                  · subst hj0; rw [← ej]; exact soonB_self _
                  · rw [← ej]; exact soonB_asymm (List.pairwise_iff_getElem.1 (choicesC_order p) 0 j h0 hj hj0)
                cases hbi : canP (pFF p l' ls) l' with
                | true =>
                  have hf : rfits p l' ls = true := by rw [← e]; exact hbi
                  have hbc : canP p l' = true := by rw [canP_can wp cv]; exact can_of wp cv inc hL hpp hf
                  have hli : decide (l' ∈ choicesC p) = true := by rw [← hcC]; exact hbc
                  refine law13_tt p l' ls hs hl' hls hk hc gp wp cv hL (choicesC p) rfl h0 hbi hbc hli (hso (by simpa using hli)) fun he => ?_
                  unfold soonB
                  have hlen := (lasts_at hL).1
                  rw [if_neg (by unfold firstL; rw [oS_len, ← he]; simp [hlen])]
                  rw [← he]
                  have hcl : can p l' = true := by rw [← canP_can wp cv]; exact hbc
                  exact first_least wp cv inc hpp hcl gp hL ((canP_can g2 g3).symm.trans hbi)
                | false =>
                  cases hbc : canP p l' with
                  | true =>
                    have hli : decide (l' ∈ choicesC p) = true := by rw [← hcC]; exact hbc
                    exact law13_ft p l' ls hs hl' hls hk hc gp wp cv hL (choicesC p) rfl h0 hbi hbc hli (hso (by simpa using hli))
                  | false =>
                    have hli : decide (l' ∈ choicesC p) = false := by rw [← hcC]; exact hbc
                    exact law13_ff p l' ls hs hl' hls hk hc gp wp cv hL (choicesC p) rfl h0 hbi hbc hli
      · exact law13_slims p l ls hs hl hls
    · exact law13_slim p l ls hs hl
  · exact law13_long p l ls hs
end Go.Proofs.YtjghdbdiejaacaaGreatDoor
