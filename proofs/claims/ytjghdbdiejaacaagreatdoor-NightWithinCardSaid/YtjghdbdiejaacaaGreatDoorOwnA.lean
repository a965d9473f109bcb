/-
  A part of the proof: conditions: none beyond each theorem's own.
-/
import Derived.Test.YtjghdbdiejaacaaGreatDoorSpecA
import Derived.Test.YtjghdbdiejaacaaGreatDoorLogicC
import Derived.KernelRfl
import Derived.Lib.LaidTab
import Derived.Lib.ItoaNum
import Derived.Test.YtjghdbdiejaacaaGreatDoorProg
import Derived.Test.YtjghdbdiejaacaaGreatDoorWalkA
import Derived.Test.YtjghdbdiejaacaaGreatDoorWalkF
import Derived.Test.YtjghdbdiejaacaaGreatDoorWalkG
import Derived.Test.YtjghdbdiejaacaaGreatDoorLogicD
import Derived.Test.YtjghdbdiejaacaaGreatDoorLogicA
import Derived.Test.YtjghdbdiejaacaaGreatDoorLogicB
import Derived.Test.YtjghdbdiejaacaaGreatDoorShelf
import Derived.Test.YtjghdbdiejaacaaGreatDoorWalkB
import Derived.Test.YtjghdbdiejaacaaGreatDoorWalkC
import Derived.Test.YtjghdbdiejaacaaGreatDoorWalkD
import Derived.Test.YtjghdbdiejaacaaGreatDoorWalkE
import Derived.Test.YtjghdbdiejaacaaGreatDoorRow
set_option linter.all false
namespace Ni

theorem has_yes {l : List Int} {n : Int} {k : Nat} (h : k < l.length) (e : l[k] = n) : has l n = true := by
  simp only [has, decide_eq_true_eq]; exact e ▸ List.getElem_mem h
theorem has_no {l : List Int} {n : Int} {k : Nat} (hn : ¬ (k : Int) < l.length) (h : ∀ i, (h : i < l.length) → i < k → l[i] ≠ n) : has l n = false := by
  simp only [has, decide_eq_false_iff_not]
  intro hm
  obtain ⟨j, hj, e⟩ := List.getElem_of_mem hm
  exact h j hj (by omega) e
theorem ssum_take {f : Nat → Int} {c : Nat → Bool} {l : List Nat} {k : Nat} (h : k < l.length) : ssum f c (l.take (k + 1)) = ssum f c (l.take k) + (if c l[k] = true then f l[k] else 0) := by
  unfold ssum
  rw [List.take_succ_eq_append_getElem h, List.filter_append, List.map_append, List.sum_append]
  by_cases hc : c l[k] = true <;> simp [hc]
end Ni

namespace Ni

/-! lists are in increasing order -/
theorem lsts_inc {n : Nat} : ∀ {m : Nat} {now : List Nat}, now.Pairwise (· < ·) → (∀ x ∈ now, x < nxt now) → ∀ l ∈ lsts n m now, l.Pairwise (· < ·)
  | 0, now, h, _, l, hl => by
    simp only [lsts, List.mem_singleton] at hl
    subst hl; exact h
  | m + 1, now, h, hx, l, hl => by
    simp only [lsts] at hl
    obtain ⟨i, _, hl⟩ := mem_fm.1 hl
    refine lsts_inc (m := m) (now := now ++ [nxt now + i]) ?_ ?_ l hl
    · rw [List.pairwise_append]
      refine ⟨h, by simp, fun a ha b hb => ?_⟩
      simp only [List.mem_singleton] at hb
      have := hx a ha; omega
    · intro x hm
      rw [nxt_app]
      rcases List.mem_append.1 hm with hm | hm
      · have := hx x hm; omega
      · simp only [List.mem_singleton] at hm; omega
theorem allC_inc {p : Pl} {l : List Nat} (h : l ∈ allC p) : l.Pairwise (· < ·) := by
  obtain ⟨i, _, h⟩ := mem_fm.1 h
  unfold aA aL at h
  exact lsts_inc List.Pairwise.nil (by simp) l (List.mem_filter.1 h).1
theorem choicesC_inc {p : Pl} {l : List Nat} (h : l ∈ choicesC p) : l.Pairwise (· < ·) := allC_inc (List.mem_filter.1 h).1

theorem ssum_cons (f : Nat → Int) (c : Nat → Bool) (x : Nat) (l : List Nat) : ssum f c (x :: l) = (if c x = true then f x else 0) + ssum f c l := by
  unfold ssum; rw [List.filter_cons]; split
  · simp
  · simp
theorem ssum_split {f : Nat → Int} {c c1 c2 : Nat → Bool} : ∀ {l : List Nat}, (∀ x ∈ l, c x = (c1 x || c2 x) ∧ (c1 x && c2 x) = false) → ssum f c l = ssum f c1 l + ssum f c2 l
  | [], _ => rfl
  | x :: l, h => by
    have ih := ssum_split (f := f) (l := l) fun y hy => h y (List.mem_cons_of_mem _ hy)
    obtain ⟨h1, h2⟩ := h x (by simp)
    rw [ssum_cons, ssum_cons, ssum_cons, ih, h1]
    generalize c1 x = u at h2 ⊢
    generalize c2 x = v at h2 ⊢
    cases u <;> cases v <;> simp at h2 ⊢ <;> omega
theorem ssum_one {f : Nat → Int} {n : Nat} : ∀ {l : List Nat}, l.Pairwise (· < ·) → n ∈ l → ssum f (fun x => decide (x = n)) l = f n
  | [], _, h => by cases h
  | x :: l, h, hm => by
    rw [ssum_cons]
    rw [List.pairwise_cons] at h
    rcases List.mem_cons.1 hm with rfl | hm
    · have : ssum f (fun x => decide (x = n)) l = 0 := by
        unfold ssum
        rw [List.filter_eq_nil_iff.2 (fun y hy => by have := h.1 y hy; simp; omega)]; rfl
      rw [this]; simp
    · have := h.1 n hm
      rw [if_neg (by simp; omega), ssum_one h.2 hm]; omega
theorem ssum_le {f g : Nat → Int} {c : Nat → Bool} {l : List Nat} (h : ∀ x ∈ l, f x ≤ g x) : ssum f c l ≤ ssum g c l :=
  sum_le fun x hx => h x (List.mem_filter.1 hx).1
theorem lo_le {p : Pl} {l : List Nat} (wp : WP p) (cv : CV p l) (k a b : Int) : lo p l k a b ≤ hi p l k a b :=
  ssum_le fun x hx => wp.lm _ (scn_mem (cv.rng x hx))
theorem inP_split {p : Pl} {l : List Nat} (wp : WP p) (cv : CV p l) (k : Int) (n : Nat) : ∀ x ∈ l, inP p k 0 10 x = (inP p k 0 ((n : Int) - 1) x || inP p k n 10 x) ∧ (inP p k 0 ((n : Int) - 1) x && inP p k n 10 x) = false := fun x hx => by
  have h1 := cv.rng x hx
  have h2 := wp.len
  constructor
  · rw [Bool.eq_iff_iff]
    simp only [inP, Bool.or_eq_true, Bool.and_eq_true, decide_eq_true_eq]
    constructor
    · rintro ⟨⟨h3, h4⟩, h5⟩
      rcases Nat.lt_or_ge x n with h | h
      · exact Or.inl ⟨⟨h3, h4⟩, by omega⟩
      · exact Or.inr ⟨⟨h3, by omega⟩, h5⟩
    · rintro (⟨⟨h3, h4⟩, h5⟩ | ⟨⟨h3, h4⟩, h5⟩)
      · exact ⟨⟨h3, h4⟩, by omega⟩
      · exact ⟨⟨h3, by omega⟩, h5⟩
  · rw [Bool.and_eq_false_iff]
    rcases Nat.lt_or_ge x n with h | h
    · right; simp only [inP, Bool.and_eq_false_iff, decide_eq_false_iff_not]; left; right; omega
    · left; simp only [inP, Bool.and_eq_false_iff, decide_eq_false_iff_not]; right; omega
theorem lo_split {p : Pl} {l : List Nat} (wp : WP p) (cv : CV p l) (k : Int) (n : Nat) : lo p l k 0 10 = lo p l k 0 ((n : Int) - 1) + lo p l k n 10 := ssum_split (inP_split wp cv k n)
theorem hi_split {p : Pl} {l : List Nat} (wp : WP p) (cv : CV p l) (k : Int) (n : Nat) : hi p l k 0 10 = hi p l k 0 ((n : Int) - 1) + hi p l k n 10 := ssum_split (inP_split wp cv k n)
theorem inP_at {p : Pl} {l : List Nat} (wp : WP p) (cv : CV p l) {n : Nat} (hn : n < p.scenes.length) : ∀ x ∈ l, inP p (scn p n).part n 10 x = (decide (x = n) || inP p (scn p n).part ((n : Int) + 1) 10 x) ∧ (decide (x = n) && inP p (scn p n).part ((n : Int) + 1) 10 x) = false := fun x hx => by
  have h1 := cv.rng x hx
  have h2 := wp.len
  by_cases hxn : x = n
  · subst hxn
    constructor
    · simp [inP]; omega
    · simp [inP]; omega
  · constructor
    · rw [Bool.eq_iff_iff]
      simp only [inP, hxn, decide_false, Bool.false_or, Bool.and_eq_true, decide_eq_true_eq]
      constructor
      · rintro ⟨⟨h3, h4⟩, h5⟩; exact ⟨⟨h3, by omega⟩, h5⟩
      · rintro ⟨⟨h3, h4⟩, h5⟩; exact ⟨⟨h3, by omega⟩, h5⟩
    · simp [hxn]
theorem lo_at {p : Pl} {l : List Nat} (wp : WP p) (cv : CV p l) (inc : l.Pairwise (· < ·)) {n : Nat} (hm : n ∈ l) : lo p l (scn p n).part n 10 = (scn p n).least + lo p l (scn p n).part ((n : Int) + 1) 10 := by
  have h := ssum_split (f := fun x => (scn p x).least) (inP_at wp cv (cv.rng n hm))
  rw [ssum_one inc hm] at h; exact h
theorem hi_at {p : Pl} {l : List Nat} (wp : WP p) (cv : CV p l) (inc : l.Pairwise (· < ·)) {n : Nat} (hm : n ∈ l) : hi p l (scn p n).part n 10 = (scn p n).most + hi p l (scn p n).part ((n : Int) + 1) 10 := by
  have h := ssum_split (f := fun x => (scn p x).most) (inP_at wp cv (cv.rng n hm))
  rw [ssum_one inc hm] at h; exact h

def FitH (p : Pl) (l : List Nat) (h : Hr) : Prop := Fit p l h.1 h.2.1 h.2.2
theorem mem_hrsH {p : Pl} {l : List Nat} (wp : WP p) (cv : CV p l) {h : Hr} : h ∈ hrs p l ↔ FitH p l h := by
  obtain ⟨a, b, c⟩ := h; exact mem_hrs wp cv
theorem rect {A B C D L H : Int} (h1 : A ≤ B) (h2 : C ≤ D) (h3 : L ≤ H) (h4 : L ≤ D - A) (h5 : C - B ≤ H) : ∃ x y, A ≤ x ∧ x ≤ B ∧ C ≤ y ∧ y ≤ D ∧ L ≤ y - x ∧ y - x ≤ H :=
  ⟨max A (C - H), max C (max A (C - H) + L), by omega, by omega, by omega, by omega, by omega, by omega⟩
theorem pickF {lo hi L H t : Int} (h1 : lo ≤ hi) (h2 : L ≤ H) (h3 : lo - H ≤ t) (h4 : t ≤ hi - L) : ∃ s, lo ≤ s ∧ s ≤ hi ∧ L ≤ s - t ∧ s - t ≤ H :=
  ⟨max lo (t + L), by omega, by omega, by omega, by omega⟩
section
variable {p : Pl} {l : List Nat}
theorem fw1 : fw p l 1 = (max (p.beg + pl p l 0) p.s0l, min (p.beg + ph p l 0) p.s0h) := rfl
theorem fw2 : fw p l 2 = (max ((fw p l 1).1 + pl p l 1) p.s1l, min ((fw p l 1).2 + ph p l 1) p.s1h) := rfl
theorem bw0 : bw p l 0 = (p.dl, p.dh) := rfl
theorem bw1 : bw p l 1 = (max p.s1l (p.dl - ph p l 2), min p.s1h (p.dh - pl p l 2)) := rfl
theorem bw2 : bw p l 2 = (max p.s0l ((bw p l 1).1 - ph p l 1), min p.s0h ((bw p l 1).2 - pl p l 1)) := rfl
theorem fit_rg {h : Hr} (f : FitH p l h) {k : Nat} (hk : k < 3) : Rg p l k (prH p h k).1 (prH p h k).2 := by
  obtain ⟨a, b, c⟩ := h
  obtain ⟨h1, h2, h3, h4, h5, h6, h7, h8, h9, h10, h11, h12⟩ := f
  simp only at h1 h2 h3 h4 h5 h6 h7 h8 h9 h10 h11 h12
  have f0 : fw p l 0 = (p.beg, p.beg) := rfl
  rcases k with _ | _ | _ | k
  · constructor <;> simp only [prH, if_true, f0, bw2, bw1, Nat.sub_zero] <;> omega
  · constructor <;> simp only [prH, if_true, fw1, bw1, Nat.reduceSub, Nat.reduceAdd, Nat.reduceEqDiff, if_false] <;> omega
  · constructor <;> simp only [prH, fw2, fw1, bw0, Nat.reduceSub, Nat.reduceAdd, Nat.reduceEqDiff, if_false] <;> omega
  · omega
theorem rg_fit (wp : WP p) (cv : CV p l) (hc : can p l = true) {k : Nat} (hk : k < 3) {x y : Int} (r : Rg p l k x y) : ∃ h, FitH p l h ∧ prH p h k = (x, y) := by
  obtain ⟨a', b', c', f⟩ := (can_fit wp cv).1 hc
  obtain ⟨h1, h2, h3, h4, h5, h6, h7, h8, h9, h10, h11, h12⟩ := f
  obtain ⟨x1, x2, y1, y2, d1, d2⟩ := r
  have q0 := pl_le wp cv 0; have q1 := pl_le wp cv 1; have q2 := pl_le wp cv 2
  have f0 : fw p l 0 = (p.beg, p.beg) := rfl
  rcases k with _ | _ | _ | k
  · simp only [f0, bw2, bw1, Nat.sub_zero] at x1 x2 y1 y2
    obtain ⟨b, b1, b2, b3, b4⟩ := pickF (lo := max p.s1l (p.dl - ph p l 2)) (hi := min p.s1h (p.dh - pl p l 2)) (t := y) (by omega) q1 (by omega) (by omega)
    obtain ⟨c, c1, c2, c3, c4⟩ := pickF (lo := p.dl) (hi := p.dh) (t := b) (by omega) q2 (by omega) (by omega)
    obtain rfl : x = p.beg := by omega
    exact ⟨(y, b, c), ⟨by simp only; omega, by simp only; omega, by simp only; omega, by simp only; omega, by simp only; omega, by simp only; omega, by simp only; omega, by simp only; omega, by simp only; omega, by simp only; omega, by simp only; omega, by simp only; omega⟩, rfl⟩
  · simp only [fw1, bw1, Nat.reduceSub, Nat.reduceAdd] at x1 x2 y1 y2 d1 d2
    obtain ⟨c, c1, c2, c3, c4⟩ := pickF (lo := p.dl) (hi := p.dh) (t := y) (by omega) q2 (by omega) (by omega)
    exact ⟨(x, y, c), ⟨by simp only; omega, by simp only; omega, by simp only; omega, by simp only; omega, by simp only; omega, by simp only; omega, by simp only; omega, by simp only; omega, by simp only; omega, by simp only; omega, by simp only; omega, by simp only; omega⟩, rfl⟩
  · simp only [fw2, fw1, bw0, Nat.reduceSub, Nat.reduceAdd] at x1 x2 y1 y2 d1 d2
    obtain ⟨a, a1, a2, a3, a4⟩ := pick (lo := max (p.beg + pl p l 0) p.s0l) (hi := min (p.beg + ph p l 0) p.s0h) (t := x) (by omega) q1 (by omega) (by omega)
    exact ⟨(a, x, y), ⟨by simp only; omega, by simp only; omega, by simp only; omega, by simp only; omega, by simp only; omega, by simp only; omega, by simp only; omega, by simp only; omega, by simp only; omega, by simp only; omega, by simp only; omega, by simp only; omega⟩, rfl⟩
  · omega
/-- a part's ranges fit together if the choice can be played -/
theorem rg_some (wp : WP p) (cv : CV p l) (hc : can p l = true) {k : Nat} (hk : k < 3) : (fw p l k).1 ≤ (fw p l k).2 ∧ (bw p l (2 - k)).1 ≤ (bw p l (2 - k)).2 ∧ pl p l k ≤ ph p l k ∧ pl p l k ≤ (bw p l (2 - k)).2 - (fw p l k).1 ∧ (bw p l (2 - k)).1 - (fw p l k).2 ≤ ph p l k := by
  obtain ⟨a', b', c', f⟩ := (can_fit wp cv).1 hc
  have r := fit_rg (h := (a', b', c')) f hk
  obtain ⟨x1, x2, y1, y2, d1, d2⟩ := r
  have := pl_le wp cv k
  omega
end

/-! the widest of some bounds -/
theorem wd_char : ∀ {vs : List (Int × Int)}, vs ≠ [] → (∃ v ∈ vs, v.1 = (wd vs).1) ∧ (∀ v ∈ vs, (wd vs).1 ≤ v.1) ∧ (∃ v ∈ vs, v.2 = (wd vs).2) ∧ (∀ v ∈ vs, v.2 ≤ (wd vs).2) := by
  intro vs
  generalize hn : vs.length = n
  induction n generalizing vs with
  | zero => intro h; exact absurd (List.length_eq_zero_iff.1 hn) h
  | succ n ih =>
    intro _
    have e : vs = vs.dropLast ++ [vs.getLast (by intro e; rw [e] at hn; cases hn)] := (List.dropLast_concat_getLast _).symm
    generalize vs.getLast (by intro e; rw [e] at hn; cases hn) = v at e
    generalize hw : vs.dropLast = ws at e
    have hl : ws.length = n := by rw [e, List.length_append] at hn; simpa using hn
    subst e
    by_cases h0 : ws = []
    · subst h0
      simp [wd]
    · obtain ⟨⟨u, u1, u2⟩, g1, ⟨w, w1, w2⟩, g2⟩ := ih hl h0
      rw [wd_app h0]
      refine ⟨?_, ?_, ?_, ?_⟩
      · simp only
        rcases Int.le_total (wd ws).1 v.1 with h | h
        · exact ⟨u, by simp [u1], by omega⟩
        · exact ⟨v, by simp, by omega⟩
      · intro x hx; simp only
        rcases List.mem_append.1 hx with hx | hx
        · have := g1 x hx; omega
        · simp only [List.mem_singleton] at hx; subst hx; omega
      · simp only
        rcases Int.le_total v.2 (wd ws).2 with h | h
        · exact ⟨w, by simp [w1], by omega⟩
        · exact ⟨v, by simp, by omega⟩
      · intro x hx; simp only
        rcases List.mem_append.1 hx with hx | hx
        · have := g2 x hx; omega
        · simp only [List.mem_singleton] at hx; subst hx; omega
section
variable {p : Pl} {l : List Nat} (wp : WP p) (cv : CV p l) (hc : can p l = true)
include wp cv hc
/-- when a part ends -/
theorem end_met {k : Nat} (hk : k < 3) : Met (hrs p l) (fun h => ((prH p h k).2, (prH p h k).2)) (endV p k l) := by
  obtain ⟨a', b', c', f⟩ := (can_fit wp cv).1 hc
  have r0 := fit_rg (h := (a', b', c')) f hk
  obtain ⟨x1, x2, y1, y2, d1, d2⟩ := r0
  obtain ⟨e1, e2, e3, e4, e5⟩ := rg_some wp cv hc hk
  have ef : fw p l (k + 1) = (max ((fw p l k).1 + pl p l k) (wl p k), min ((fw p l k).2 + ph p l k) (wh p k)) := rfl
  have hw := win_le wp k
  have hb : wl p k ≤ (bw p l (2 - k)).1 ∧ (bw p l (2 - k)).2 ≤ wh p k := by
    have w0 : wl p 0 = p.s0l := rfl
    have w0' : wh p 0 = p.s0h := rfl
    have w1 : wl p 1 = p.s1l := rfl
    have w1' : wh p 1 = p.s1h := rfl
    have w2 : wl p 2 = p.dl := rfl
    have w2' : wh p 2 = p.dh := rfl
    rcases k with _ | _ | _ | k
    · simp only [bw2, Nat.sub_zero]; omega
    · simp only [bw1, Nat.reduceSub, Nat.reduceAdd]; omega
    · simp only [bw0, Nat.reduceSub, Nat.reduceAdd]; omega
    · omega
  have key : ∀ z, (endV p k l).1 ≤ z → z ≤ (endV p k l).2 → ∃ h ∈ hrs p l, (prH p h k).2 = z := fun z z1 z2 => by
    simp only [endV, ef] at z1 z2
    obtain ⟨x, p1, p2, p3, p4⟩ := pick (lo := (fw p l k).1) (hi := (fw p l k).2) (t := z) e1 e3 (by omega) (by omega)
    obtain ⟨h, h1, h2⟩ := rg_fit wp cv hc hk (x := x) (y := z) ⟨p1, p2, by omega, by omega, p3, p4⟩
    exact ⟨h, (mem_hrsH wp cv).2 h1, by rw [h2]⟩
  have hz : (endV p k l).1 ≤ (endV p k l).2 := by simp only [endV, ef]; omega
  refine ⟨key _ (Int.le_refl _) hz, fun h hm => ?_, key _ hz (Int.le_refl _), fun h hm => ?_⟩
  · obtain ⟨x1, x2, y1, y2, d1, d2⟩ := fit_rg ((mem_hrsH wp cv).1 hm) hk
    simp only [endV, ef]; omega
  · obtain ⟨x1, x2, y1, y2, d1, d2⟩ := fit_rg ((mem_hrsH wp cv).1 hm) hk
    simp only [endV, ef]; omega
/-- when something begins that has aL to aH ahead of it, and rL to rH from it on -/
theorem beg_met {k : Nat} (hk : k < 3) {aL aH rL rH : Int} (ha : aL ≤ aH) (hr : rL ≤ rH) (hl : pl p l k = aL + rL) (hh : ph p l k = aH + rH) :
    Met (hrs p l) (fun h => (max ((prH p h k).1 + aL) ((prH p h k).2 - rH), min ((prH p h k).1 + aH) ((prH p h k).2 - rL)))
      (max ((fw p l k).1 + aL) ((bw p l (2 - k)).1 - rH), min ((fw p l k).2 + aH) ((bw p l (2 - k)).2 - rL)) := by
  obtain ⟨e1, e2, e3, e4, e5⟩ := rg_some wp cv hc hk
  refine ⟨?_, fun h hm => ?_, ?_, fun h hm => ?_⟩
  · obtain ⟨x, y, q1, q2, q3, q4, q5, q6⟩ := rect (A := (fw p l k).1) (B := min (fw p l k).2 (max ((fw p l k).1 + aL) ((bw p l (2 - k)).1 - rH) - aL)) (C := (bw p l (2 - k)).1) (D := min (bw p l (2 - k)).2 (max ((fw p l k).1 + aL) ((bw p l (2 - k)).1 - rH) + rH)) (L := pl p l k) (H := ph p l k) (by omega) (by omega) e3 (by omega) (by omega)
    obtain ⟨h, h1, h2⟩ := rg_fit wp cv hc hk (x := x) (y := y) ⟨by omega, by omega, by omega, by omega, q5, q6⟩
    exact ⟨h, (mem_hrsH wp cv).2 h1, by simp only [h2]; omega⟩
  · obtain ⟨x1, x2, y1, y2, d1, d2⟩ := fit_rg ((mem_hrsH wp cv).1 hm) hk
    simp only; omega
  · obtain ⟨x, y, q1, q2, q3, q4, q5, q6⟩ := rect (A := max (fw p l k).1 (min ((fw p l k).2 + aH) ((bw p l (2 - k)).2 - rL) - aH)) (B := (fw p l k).2) (C := max (bw p l (2 - k)).1 (min ((fw p l k).2 + aH) ((bw p l (2 - k)).2 - rL) + rL)) (D := (bw p l (2 - k)).2) (L := pl p l k) (H := ph p l k) (by omega) (by omega) e3 (by omega) (by omega)
    obtain ⟨h, h1, h2⟩ := rg_fit wp cv hc hk (x := x) (y := y) ⟨by omega, by omega, by omega, by omega, q5, q6⟩
    exact ⟨h, (mem_hrsH wp cv).2 h1, by simp only [h2]; omega⟩
  · obtain ⟨x1, x2, y1, y2, d1, d2⟩ := fit_rg ((mem_hrsH wp cv).1 hm) hk
    simp only; omega
/-- how long something lasts, from L to H itself, beside which others last from sL to sH -/
theorem long_met {k : Nat} (hk : k < 3) {L H sL sH : Int} (hLH : L ≤ H) (hs : sL ≤ sH) (hl : pl p l k = sL + L) (hh : ph p l k = sH + H) :
    Met (hrs p l) (fun h => (max L ((prH p h k).2 - (prH p h k).1 - sH), min H ((prH p h k).2 - (prH p h k).1 - sL)))
      (max L ((bw p l (2 - k)).1 - (fw p l k).2 - sH), min H ((bw p l (2 - k)).2 - (fw p l k).1 - sL)) := by
  obtain ⟨e1, e2, e3, e4, e5⟩ := rg_some wp cv hc hk
  refine ⟨?_, fun h hm => ?_, ?_, fun h hm => ?_⟩
  · obtain ⟨x, y, q1, q2, q3, q4, q5, q6⟩ := rect (A := (fw p l k).1) (B := (fw p l k).2) (C := (bw p l (2 - k)).1) (D := (bw p l (2 - k)).2) (L := pl p l k) (H := min (ph p l k) (max (pl p l k) ((bw p l (2 - k)).1 - (fw p l k).2))) (by omega) (by omega) (by omega) (by omega) (by omega)
    obtain ⟨h, h1, h2⟩ := rg_fit wp cv hc hk (x := x) (y := y) ⟨by omega, by omega, by omega, by omega, q5, by omega⟩
    exact ⟨h, (mem_hrsH wp cv).2 h1, by simp only [h2]; omega⟩
  · obtain ⟨x1, x2, y1, y2, d1, d2⟩ := fit_rg ((mem_hrsH wp cv).1 hm) hk
    simp only; omega
  · obtain ⟨x, y, q1, q2, q3, q4, q5, q6⟩ := rect (A := (fw p l k).1) (B := (fw p l k).2) (C := (bw p l (2 - k)).1) (D := (bw p l (2 - k)).2) (L := max (pl p l k) (min (ph p l k) ((bw p l (2 - k)).2 - (fw p l k).1))) (H := ph p l k) (by omega) (by omega) (by omega) (by omega) (by omega)
    obtain ⟨h, h1, h2⟩ := rg_fit wp cv hc hk (x := x) (y := y) ⟨by omega, by omega, by omega, by omega, by omega, by omega⟩
    exact ⟨h, (mem_hrsH wp cv).2 h1, by simp only [h2]; omega⟩
  · obtain ⟨x1, x2, y1, y2, d1, d2⟩ := fit_rg ((mem_hrsH wp cv).1 hm) hk
    simp only; omega
end
end Ni

namespace Ni

def lsBad (p : Pl) (l : List Nat) (ls : List Int) (i : Nat) (h : i < l.length) : Bool := !inn (ls.getD i 0) (scn p l[i]).least (scn p l[i]).most
/-- whether there is a length for each scene of a choice -/
def lastsP (p : Pl) (l : List Nat) (ls : List Int) : Bool := decide (l.length = ls.length) && okAll l.length (lsBad p l ls)
/-- the plan in which the first scenes of a choice have one length alone -/
def pF (p : Pl) (l : List Nat) (ls : List Int) : Nat → Pl
  | 0 => p
  | i + 1 => fixP (pF p l ls i) (l.getD i 0) (ls.getD i 0)
def pFF (p : Pl) (l : List Nat) (ls : List Int) : Pl := pF p l ls l.length
/-- when a part ends -/
def endI (p : Pl) (l : List Nat) (ls : List Int) (k : Int) : Nat → Int
  | 0 => p.beg
  | i + 1 => endI p l ls k i + (if (scn p (l.getD i 0)).part ≤ k then ls.getD i 0 else 0)
def endR (p : Pl) (l : List Nat) (ls : List Int) (k : Int) : Int := endI p l ls k l.length
def rfBad (p : Pl) (l : List Nat) (ls : List Int) (k : Nat) (_ : k < 3) : Bool := !inn (endR p l ls k) (wl p k) (wh p k)
def rfits (p : Pl) (l : List Nat) (ls : List Int) : Bool := okAll 3 (rfBad p l ls)
theorem getD_at {α : Type} {l : List α} {i : Nat} (h : i < l.length) (d : α) : l.getD i d = l[i] := by rw [List.getD_eq_getElem?_getD, List.getElem?_eq_getElem h]; rfl
theorem lasts_at {p : Pl} {l : List Nat} {ls : List Int} (h : lastsP p l ls = true) : l.length = ls.length ∧ ∀ i (hi : i < l.length), (scn p l[i]).least ≤ ls.getD i 0 ∧ ls.getD i 0 ≤ (scn p l[i]).most := by
  simp only [lastsP, Bool.and_eq_true, decide_eq_true_eq, okAll_iff] at h
  refine ⟨h.1, fun i hi => ?_⟩
  have := h.2 i hi
  simpa [lsBad, inn] using this
theorem scn_fix {p : Pl} {k x : Nat} {n : Int} (h : k < p.scenes.length) : scn (fixP p k n) x = if x = k then fixS (scn p k) n else scn p x := by
  unfold scn fixP
  simp only [List.getD_eq_getElem?_getD, List.getElem?_set]
  by_cases e : x = k
  · subst e; simp [h, scn_eq h]
  · rw [if_neg (fun h => e h.symm), if_neg e]
theorem pF_fields (p : Pl) (l : List Nat) (ls : List Int) : ∀ i, (pF p l ls i).beg = p.beg ∧ (∀ k, wl (pF p l ls i) k = wl p k) ∧ (∀ k, wh (pF p l ls i) k = wh p k) ∧ (pF p l ls i).scenes.length = p.scenes.length
  | 0 => ⟨rfl, fun _ => rfl, fun _ => rfl, rfl⟩
  | i + 1 => by
    obtain ⟨h1, h2, h3, h4⟩ := pF_fields p l ls i
    exact ⟨h1, h2, h3, by simp only [pF]; rw [fixP_len]; exact h4⟩
theorem pF_part {p : Pl} {l : List Nat} {ls : List Int} (cv : CV p l) : ∀ i, i ≤ l.length → ∀ x, (scn (pF p l ls i) x).part = (scn p x).part
  | 0, _, _ => rfl
  | i + 1, hi, x => by
    have ih := pF_part (ls := ls) cv i (by omega)
    have hl : l.getD i 0 < (pF p l ls i).scenes.length := by rw [(pF_fields p l ls i).2.2.2, getD_at (by omega)]; exact cv.rng _ (List.getElem_mem _)
    simp only [pF, scn_fix hl]
    split
    · rename_i e; subst e; simp only [fixS]; exact ih _
    · exact ih x
theorem pF_len {p : Pl} {l : List Nat} {ls : List Int} (cv : CV p l) (inc : l.Pairwise (· < ·)) : ∀ i, i ≤ l.length → ∀ j (hj : j < l.length), j < i → (scn (pF p l ls i) l[j]).least = ls.getD j 0 ∧ (scn (pF p l ls i) l[j]).most = ls.getD j 0
  | 0, _, j, _, h => by omega
  | i + 1, hi, j, hj, h => by
    have hl : l.getD i 0 < (pF p l ls i).scenes.length := by rw [(pF_fields p l ls i).2.2.2, getD_at (by omega)]; exact cv.rng _ (List.getElem_mem _)
    simp only [pF, scn_fix hl]
    by_cases e : j = i
    · subst e
      rw [if_pos (getD_at hj 0).symm]; exact ⟨rfl, rfl⟩
    · have hne : l[j] ≠ l.getD i 0 := by
        rw [getD_at (by omega)]
        have := List.pairwise_iff_getElem.1 inc j i hj (by omega) (by omega)
        omega
      rw [if_neg hne]
      exact pF_len cv inc i (by omega) j hj (by omega)
theorem pF_ok {p : Pl} {l : List Nat} {ls : List Int} (gp : GP p) (wp : WP p) (cv : CV p l) (h : lastsP p l ls = true) : ∀ i, i ≤ l.length → GP (pF p l ls i) ∧ WP (pF p l ls i) ∧ CV (pF p l ls i) l
  | 0, _ => ⟨gp, wp, cv⟩
  | i + 1, hi => by
    obtain ⟨h1, h2, h3⟩ := pF_ok gp wp cv h i (by omega)
    have hv := (lasts_at h).2 i (by omega)
    have a1 := gp.least (cv.rng _ (List.getElem_mem (show i < l.length by omega)))
    have a2 := gp.most (cv.rng _ (List.getElem_mem (show i < l.length by omega)))
    exact ⟨fixP_gp h1 _ (by omega), fixP_wp h2 _ _, fixP_cv h3 _ _⟩
section
variable {p : Pl} {l : List Nat} {ls : List Int} (gp : GP p) (wp : WP p) (cv : CV p l) (inc : l.Pairwise (· < ·)) (h : lastsP p l ls = true) (hp : ∀ x ∈ l, 0 ≤ (scn p x).part ∧ (scn p x).part ≤ 2)
abbrev sL (p : Pl) (l : List Nat) (ls : List Int) (k : Int) : Int := ssum (fun x => (scn (pFF p l ls) x).least) (fun x => decide ((scn p x).part = k)) l
include cv inc
theorem pl_sL (k : Nat) : pl (pFF p l ls) l k = sL p l ls k ∧ ph (pFF p l ls) l k = sL p l ls k := by
  have e : (fun x => inPart (pFF p l ls) k x) = (fun x => decide ((scn p x).part = k)) := by
    funext x; unfold inPart pFF; rw [pF_part cv _ (Nat.le_refl _)]
  constructor
  · show lsum _ (ofP _ l k) = _
    unfold lsum leasts ofP sL ssum
    rw [show inPart (pFF p l ls) k = fun x => decide ((scn p x).part = k) from e]
  · show hsum _ (ofP _ l k) = _
    unfold hsum mosts ofP sL ssum
    rw [show inPart (pFF p l ls) k = fun x => decide ((scn p x).part = k) from e]
    refine congrArg List.sum (List.map_congr_left fun x hx => ?_)
    obtain ⟨j, hj, rfl⟩ := List.getElem_of_mem (List.mem_filter.1 hx).1
    obtain ⟨h1, h2⟩ := pF_len (ls := ls) cv inc l.length (Nat.le_refl _) j hj hj
    exact h2.trans h1.symm
theorem endI_ssum (k : Int) : ∀ i, i ≤ l.length → endI p l ls k i = p.beg + ssum (fun x => (scn (pFF p l ls) x).least) (fun x => decide ((scn p x).part ≤ k)) (l.take i)
  | 0, _ => by simp [endI, ssum]
  | i + 1, hi => by
    rw [endI, endI_ssum k i (by omega), ssum_take (by omega), getD_at (by omega) 0]
    obtain ⟨h1, h2⟩ := pF_len (ls := ls) cv inc l.length (Nat.le_refl _) i (by omega) (by omega)
    have h1 : (scn (pFF p l ls) l[i]).least = ls.getD i 0 := h1
    by_cases c : (scn p l[i]).part ≤ k
    · rw [if_pos c, if_pos (by simpa using c), h1]; omega
    · rw [if_neg c, if_neg (by simpa using c)]; omega
theorem endR_ssum (k : Int) : endR p l ls k = p.beg + ssum (fun x => (scn (pFF p l ls) x).least) (fun x => decide ((scn p x).part ≤ k)) l := by
  have := endI_ssum (ls := ls) cv inc k l.length (Nat.le_refl _)
  rwa [List.take_length] at this
include hp
theorem endR_eq : endR p l ls 0 = p.beg + sL p l ls 0 ∧ endR p l ls 1 = p.beg + sL p l ls 0 + sL p l ls 1 ∧ endR p l ls 2 = p.beg + sL p l ls 0 + sL p l ls 1 + sL p l ls 2 := by
  have key : ∀ k : Int, ssum (fun x => (scn (pFF p l ls) x).least) (fun x => decide ((scn p x).part ≤ k + 1)) l = ssum (fun x => (scn (pFF p l ls) x).least) (fun x => decide ((scn p x).part ≤ k)) l + sL p l ls (k + 1) := fun k => by
    refine ssum_split fun x hx => ⟨?_, ?_⟩
    · rw [Bool.eq_iff_iff]; simp only [Bool.or_eq_true, decide_eq_true_eq]; omega
    · rw [Bool.and_eq_false_iff]; simp only [decide_eq_false_iff_not]; omega
  have hm : ssum (fun x => (scn (pFF p l ls) x).least) (fun x => decide ((scn p x).part ≤ -1)) l = 0 := by
    unfold ssum
    rw [List.filter_eq_nil_iff.2 (fun x hx => by have := hp x hx; simp; omega)]; rfl
  have k0 := key (-1); have k1 := key 0; have k2 := key 1
  rw [hm] at k0
  refine ⟨?_, ?_, ?_⟩
  · rw [endR_ssum cv inc]; simp only [Int.reduceNeg, Int.reduceAdd] at k0; omega
  · rw [endR_ssum cv inc]; simp only [Int.reduceNeg, Int.reduceAdd] at k0 k1; omega
  · rw [endR_ssum cv inc]; simp only [Int.reduceNeg, Int.reduceAdd] at k0 k1 k2; omega
include gp wp h
/-- a programme fits just if its parts end in their windows -/
theorem fits_iff : can (pFF p l ls) l = rfits p l ls := by
  obtain ⟨g1, g2, g3⟩ := pF_ok gp wp cv h l.length (Nat.le_refl _)
  obtain ⟨q1, q2, q3, q4⟩ := pF_fields p l ls l.length
  have q1 : (pFF p l ls).beg = p.beg := q1
  obtain ⟨s0, t0⟩ := pl_sL (ls := ls) cv inc 0
  obtain ⟨s1, t1⟩ := pl_sL (ls := ls) cv inc 1
  obtain ⟨s2, t2⟩ := pl_sL (ls := ls) cv inc 2
  obtain ⟨e0, e1, e2⟩ := endR_eq (ls := ls) cv inc hp
  have w0 : (pFF p l ls).s0l = wl p 0 := q2 0
  have w0' : (pFF p l ls).s0h = wh p 0 := q3 0
  have w1 : (pFF p l ls).s1l = wl p 1 := q2 1
  have w1' : (pFF p l ls).s1h = wh p 1 := q3 1
  have w2 : (pFF p l ls).dl = wl p 2 := q2 2
  have w2' : (pFF p l ls).dh = wh p 2 := q3 2
  have z0 : ((0 : Nat) : Int) = 0 := rfl
  have z1 : ((1 : Nat) : Int) = 1 := rfl
  have z2 : ((2 : Nat) : Int) = 2 := rfl
  rw [z0] at s0 t0; rw [z1] at s1 t1; rw [z2] at s2 t2
  rw [Bool.eq_iff_iff]
  refine (can_fit g2 g3).trans ?_
  unfold rfits
  rw [okAll_iff]
  constructor
  · rintro ⟨a, b, c, h1, h2, h3, h4, h5, h6, h7, h8, h9, h10, h11, h12⟩ k hk
    change (pFF p l ls).s0l ≤ a at h1; change a ≤ (pFF p l ls).s0h at h2; change (pFF p l ls).s1l ≤ b at h3; change b ≤ (pFF p l ls).s1h at h4; change (pFF p l ls).dl ≤ c at h5; change c ≤ (pFF p l ls).dh at h6
    change pl (pFF p l ls) l 0 ≤ a - (pFF p l ls).beg at h7; change a - (pFF p l ls).beg ≤ ph (pFF p l ls) l 0 at h8
    change pl (pFF p l ls) l 1 ≤ b - a at h9; change b - a ≤ ph (pFF p l ls) l 1 at h10; change pl (pFF p l ls) l 2 ≤ c - b at h11; change c - b ≤ ph (pFF p l ls) l 2 at h12
    unfold rfBad inn
    rcases k with _ | _ | _ | k
    · simp only [z0, Bool.not_eq_false', Bool.and_eq_true, decide_eq_true_eq]; omega
    · simp only [Nat.zero_add, z1, Bool.not_eq_false', Bool.and_eq_true, decide_eq_true_eq]; omega
    · simp only [Nat.zero_add, Nat.reduceAdd, z2, Bool.not_eq_false', Bool.and_eq_true, decide_eq_true_eq]; omega
    · omega
  · intro hk
    have k0 := hk 0 (by omega); have k1 := hk 1 (by omega); have k2 := hk 2 (by omega)
    simp only [rfBad, inn, z0, z1, z2, Bool.not_eq_false', Bool.and_eq_true, decide_eq_true_eq] at k0 k1 k2
    refine ⟨endR p l ls 0, endR p l ls 1, endR p l ls 2, ?_⟩
    show Fit (pFF p l ls) l _ _ _
    constructor <;> omega
end
end Ni

namespace Ni

theorem nxt_lt {now : List Nat} {x : Nat} (h : ∀ y ∈ now, y < x) : nxt now ≤ x := nxt_le h
theorem mem_lsts {n : Nat} : ∀ (r now : List Nat), (now ++ r).Pairwise (· < ·) → (∀ x ∈ r, x < n) → now ++ r ∈ lsts n r.length now
  | [], now, _, _ => by simp [lsts]
  | x :: r, now, h, hx => by
    have h1 : nxt now ≤ x := nxt_lt fun y hy => by
      rw [List.pairwise_append] at h
      exact h.2.2 y hy x (by simp)
    have h2 := hx x (by simp)
    simp only [List.length_cons, lsts]
    refine mem_fm.2 ⟨x - nxt now, by omega, ?_⟩
    rw [show nxt now + (x - nxt now) = x by omega]
    have := mem_lsts r (now ++ [x]) (by simpa using h) fun y hy => hx y (List.mem_cons_of_mem _ hy)
    simpa using this
theorem inc_len {n : Nat} {l : List Nat} (h : l.Pairwise (· < ·)) (hx : ∀ x ∈ l, x < n) : l.length ≤ n := by
  have key : ∀ i (hi : i < l.length), i ≤ l[i] := by
    intro i
    induction i with
    | zero => intro _; omega
    | succ i ih =>
      intro hi
      have h1 := ih (by omega)
      have h2 := List.pairwise_iff_getElem.1 h i (i + 1) (by omega) hi (by omega)
      omega
  rcases Nat.eq_zero_or_pos l.length with h0 | h0
  · omega
  · have h1 := key (l.length - 1) (by omega)
    have h2 := hx _ (List.getElem_mem (show l.length - 1 < l.length by omega))
    omega
/-- every choice is among all -/
theorem mem_allC {p : Pl} {l : List Nat} (h : l.Pairwise (· < ·)) (hx : ∀ x ∈ l, x < p.scenes.length) (hc : isC p l = true) : l ∈ allC p := by
  have hl := inc_len h hx
  refine mem_fm.2 ⟨p.scenes.length - l.length, by omega, ?_⟩
  unfold aA aL
  rw [show p.scenes.length - (p.scenes.length - l.length) = l.length by omega]
  exact List.mem_filter.2 ⟨by simpa using mem_lsts (n := p.scenes.length) l [] (by simpa using h) hx, hc⟩
theorem ris_inc {p : Pl} {l : List Nat} (h : Ris p (up l) = true) : l.Pairwise (· < ·) := by
  unfold Ris at h
  rw [okAll_iff] at h
  have hl : (up l).length = l.length := by simp [up]
  have hs : ∀ i (h1 : i < l.length) (h2 : 0 < i), l[i - 1] < l[i] := fun i h1 h2 => by
    have := h i (by rw [hl]; exact h1)
    simp only [risBad, Bool.or_eq_false_iff, Bool.and_eq_false_iff, decide_eq_false_iff_not] at this
    have e : ∀ j (hj : j < l.length), (up l)[j]'(by rw [hl]; exact hj) = (l[j] : Int) := fun j hj => by simp [up]
    have h3 := this.2
    rw [e i h1, e (i - 1) (by omega)] at h3
    omega
  have step : ∀ d i (h1 : i + d + 1 < l.length), l[i] < l[i + d + 1] := by
    intro d
    induction d with
    | zero => intro i h1; have := hs (i + 1) h1 (by omega); simpa using this
    | succ d ih =>
      intro i h1
      have a := ih i (by omega)
      have b := hs (i + (d + 1) + 1) h1 (by omega)
      simp only [Nat.add_sub_cancel] at b
      have e : i + (d + 1) = i + d + 1 := by omega
      simp only [e] at b
      exact Nat.lt_trans a b
  refine List.pairwise_iff_getElem.2 fun i j h1 h2 h3 => ?_
  obtain ⟨d, rfl⟩ : ∃ d, j = i + d + 1 := ⟨j - i - 1, by omega⟩
  exact step d i h2
end Ni

namespace Ni
section
variable {p : Pl} {l : List Nat} {ls : List Int} (gp : GP p) (wp : WP p) (cv : CV p l) (inc : l.Pairwise (· < ·)) (h : lastsP p l ls = true) (hp : ∀ x ∈ l, 0 ≤ (scn p x).part ∧ (scn p x).part ≤ 2)
include cv inc h
theorem pFF_bd : ∀ x ∈ l, (scn p x).least ≤ (scn (pFF p l ls) x).least ∧ (scn (pFF p l ls) x).least ≤ (scn p x).most := fun x hx => by
  obtain ⟨j, hj, rfl⟩ := List.getElem_of_mem hx
  obtain ⟨h1, _⟩ := pF_len (ls := ls) cv inc l.length (Nat.le_refl _) j hj hj
  have h1 : (scn (pFF p l ls) l[j]).least = ls.getD j 0 := h1
  rw [h1]; exact (lasts_at h).2 j hj
theorem sL_bd (k : Nat) : pl p l k ≤ sL p l ls k ∧ sL p l ls k ≤ ph p l k := by
  have e : (fun x => inPart p k x) = (fun x => decide ((scn p x).part = k)) := rfl
  constructor
  · show lsum p (ofP p l k) ≤ _
    unfold lsum leasts ofP sL ssum
    exact sum_le fun x hx => (pFF_bd cv inc h x (List.mem_filter.1 hx).1).1
  · show _ ≤ hsum p (ofP p l k)
    unfold hsum mosts ofP sL ssum
    exact sum_le fun x hx => (pFF_bd cv inc h x (List.mem_filter.1 hx).1).2
include hp
/-- the ends of the parts, with the bounds of what lies between them -/
theorem ends_bd : (pl p l 0 ≤ endR p l ls 0 - p.beg ∧ endR p l ls 0 - p.beg ≤ ph p l 0) ∧ (pl p l 1 ≤ endR p l ls 1 - endR p l ls 0 ∧ endR p l ls 1 - endR p l ls 0 ≤ ph p l 1) ∧ (pl p l 2 ≤ endR p l ls 2 - endR p l ls 1 ∧ endR p l ls 2 - endR p l ls 1 ≤ ph p l 2) := by
  obtain ⟨e0, e1, e2⟩ := endR_eq (ls := ls) cv inc hp
  have b0 := sL_bd cv inc h 0; have b1 := sL_bd cv inc h 1; have b2 := sL_bd cv inc h 2
  simp only [Int.natCast_zero, show ((1 : Nat) : Int) = 1 from rfl, show ((2 : Nat) : Int) = 2 from rfl] at b0 b1 b2
  omega
/-- the hours of a programme that fits -/
theorem fit_of (hf : rfits p l ls = true) : Fit p l (endR p l ls 0) (endR p l ls 1) (endR p l ls 2) := by
  obtain ⟨b0, b1, b2⟩ := ends_bd cv inc h hp
  unfold rfits at hf
  rw [okAll_iff] at hf
  have k0 := hf 0 (by omega); have k1 := hf 1 (by omega); have k2 := hf 2 (by omega)
  have z0 : ((0 : Nat) : Int) = 0 := rfl
  have z1 : ((1 : Nat) : Int) = 1 := rfl
  have z2 : ((2 : Nat) : Int) = 2 := rfl
  simp only [rfBad, inn, z0, z1, z2, Bool.not_eq_false', Bool.and_eq_true, decide_eq_true_eq] at k0 k1 k2
  have w0 : wl p 0 = p.s0l := rfl
  have w0' : wh p 0 = p.s0h := rfl
  have w1 : wl p 1 = p.s1l := rfl
  have w1' : wh p 1 = p.s1h := rfl
  have w2 : wl p 2 = p.dl := rfl
  have w2' : wh p 2 = p.dh := rfl
  constructor <;> omega
include wp
theorem can_of (hf : rfits p l ls = true) : can p l = true := (can_fit wp cv).2 ⟨_, _, _, fit_of cv inc h hp hf⟩
end
end Ni

namespace Ni
theorem part_step {p : Pl} (h : PlOK p = true) {i : Nat} (hi : i + 1 < p.scenes.length) : (scn p i).part ≤ (scn p (i + 1)).part := by
  simp only [PlOK, wnd, inn, Bool.and_eq_true, decide_eq_true_eq] at h
  have := h.2.1 (i + 1) hi
  simp only [scBad, inn, Bool.or_eq_false_iff, Bool.and_eq_false_iff, Bool.not_eq_false', Bool.and_eq_true, decide_eq_true_eq, decide_eq_false_iff_not, Nat.add_sub_cancel] at this
  rw [scn_eq hi, scn_eq (show i < p.scenes.length by omega)]
  omega
theorem part_mono {p : Pl} (h : PlOK p = true) {x y : Nat} (hy : y < p.scenes.length) (hxy : x ≤ y) : (scn p x).part ≤ (scn p y).part := by
  obtain ⟨d, rfl⟩ : ∃ d, y = x + d := ⟨y - x, by omega⟩
  induction d with
  | zero => exact Int.le_refl _
  | succ d ih =>
    have h1 := ih (by omega) (by omega)
    have h2 := part_step h (i := x + d) (by omega)
    exact Int.le_trans h1 h2
/-- when a scene of a programme begins -/
def nowI (p : Pl) (ls : List Int) : Nat → Int
  | 0 => p.beg
  | i + 1 => nowI p ls i + ls.getD i 0
theorem filter_lt {l : List Nat} (inc : l.Pairwise (· < ·)) {i : Nat} (hi : i < l.length) : l.filter (fun x => decide (x < l[i])) = l.take i := by
  have h1 : (l.take i).filter (fun x => decide (x < l[i])) = l.take i := List.filter_eq_self.2 fun x hx => by
    obtain ⟨j, hj, rfl⟩ := List.getElem_of_mem hx
    rw [List.length_take] at hj
    rw [List.getElem_take]
    exact decide_eq_true (List.pairwise_iff_getElem.1 inc j i (by omega) hi (by omega))
  have h2 : (l.drop i).filter (fun x => decide (x < l[i])) = [] := List.filter_eq_nil_iff.2 fun x hx => by
    obtain ⟨j, hj, rfl⟩ := List.getElem_of_mem hx
    rw [List.length_drop] at hj
    rw [List.getElem_drop]
    simp only [decide_eq_true_eq, Nat.not_lt]
    rcases Nat.eq_zero_or_pos j with h0 | h0
    · subst h0; exact Nat.le_refl _
    · exact Nat.le_of_lt (List.pairwise_iff_getElem.1 inc i (i + j) hi (by omega) (by omega))
  generalize l[i] = v at h1 h2 ⊢
  have e := List.take_append_drop i l
  calc l.filter (fun x => decide (x < v)) = (l.take i ++ l.drop i).filter (fun x => decide (x < v)) := by rw [e]
    _ = l.take i := by rw [List.filter_append, h1, h2, List.append_nil]
section
variable {p : Pl} {l : List Nat} {ls : List Int} (ok : PlOK p = true) (gp : GP p) (wp : WP p) (cv : CV p l) (inc : l.Pairwise (· < ·)) (h : lastsP p l ls = true)
abbrev fL (p : Pl) (l : List Nat) (ls : List Int) (x : Nat) : Int := (scn (pFF p l ls) x).least
include cv inc h
theorem now_sum {i : Nat} (hi : i < l.length) : nowI p ls i = p.beg + ssum (fL p l ls) (fun x => decide (x < l[i])) l := by
  have key : ∀ j, j ≤ l.length → nowI p ls j = p.beg + ((l.take j).map (fL p l ls)).sum := by
    intro j
    induction j with
    | zero => intro _; simp [nowI]
    | succ j ih =>
      intro hj
      rw [nowI, ih (by omega), List.take_succ_eq_append_getElem (by omega), List.map_append, List.sum_append]
      obtain ⟨h1, _⟩ := pF_len (ls := ls) cv inc l.length (Nat.le_refl _) j (by omega) (by omega)
      have h1 : fL p l ls l[j] = ls.getD j 0 := h1
      simp [h1]; omega
  rw [key i (by omega)]
  unfold ssum
  rw [filter_lt inc hi]
theorem fL_bd : ∀ x ∈ l, (scn p x).least ≤ fL p l ls x ∧ fL p l ls x ≤ (scn p x).most := pFF_bd cv inc h
theorem fsum_bd (k a b : Int) : lo p l k a b ≤ ssum (fL p l ls) (inP p k a b) l ∧ ssum (fL p l ls) (inP p k a b) l ≤ hi p l k a b :=
  ⟨ssum_le fun x hx => (fL_bd cv inc h x hx).1, ssum_le fun x hx => (fL_bd cv inc h x hx).2⟩
include ok wp
/-- where a scene of a programme lies in its part -/
theorem now_at {i k : Nat} (hi : i < l.length) (hk : (scn p l[i]).part = (k : Int)) (hk3 : k < 3) :
    ∃ B A, (lo p l k 0 ((l[i] : Int) - 1) ≤ B ∧ B ≤ Ni.hi p l k 0 ((l[i] : Int) - 1)) ∧ (lo p l k ((l[i] : Int) + 1) 10 ≤ A ∧ A ≤ Ni.hi p l k ((l[i] : Int) + 1) 10) ∧
      nowI p ls i = (prH p (endR p l ls 0, endR p l ls 1, endR p l ls 2) k).1 + B ∧ (prH p (endR p l ls 0, endR p l ls 1, endR p l ls 2) k).2 = nowI p ls i + ls.getD i 0 + A ∧
      (scn p l[i]).least ≤ ls.getD i 0 ∧ ls.getD i 0 ≤ (scn p l[i]).most := by
  have hm : l[i] ∈ l := List.getElem_mem hi
  have hpp : ∀ x ∈ l, 0 ≤ (scn p x).part ∧ (scn p x).part ≤ 2 := fun x hx => by
    have hx := cv.rng x hx
    simp only [PlOK, wnd, inn, Bool.and_eq_true, decide_eq_true_eq] at ok
    have := ok.2.1 x hx
    simp only [scBad, inn, Bool.or_eq_false_iff, Bool.not_eq_false', Bool.and_eq_true, decide_eq_true_eq] at this
    rw [scn_eq hx]; omega
  refine ⟨ssum (fL p l ls) (inP p k 0 ((l[i] : Int) - 1)) l, ssum (fL p l ls) (inP p k ((l[i] : Int) + 1) 10) l, fsum_bd cv inc h k _ _, fsum_bd cv inc h k _ _, ?_, ?_, (lasts_at h).2 i hi⟩
  · rw [now_sum cv inc h hi]
    have hs : ssum (fL p l ls) (fun x => decide (x < l[i])) l = ssum (fL p l ls) (fun x => decide ((scn p x).part ≤ (k : Int) - 1)) l + ssum (fL p l ls) (inP p k 0 ((l[i] : Int) - 1)) l := by
      refine ssum_split fun x hx => ?_
      have h1 := cv.rng x hx
      have h2 := cv.rng _ hm
      have h3 : x ≤ l[i] → (scn p x).part ≤ (scn p l[i]).part := part_mono ok h2
      have h4 : l[i] ≤ x → (scn p l[i]).part ≤ (scn p x).part := part_mono ok h1
      constructor
      · rw [Bool.eq_iff_iff]
        simp only [inP, Bool.or_eq_true, Bool.and_eq_true, decide_eq_true_eq]
        constructor
        · intro h5
          have := h3 (by omega)
          rcases Int.lt_or_le (scn p x).part k with g | g
          · left; omega
          · right; exact ⟨⟨by omega, by omega⟩, by omega⟩
        · rintro (h5 | ⟨⟨h5, h6⟩, h7⟩)
          · rcases Nat.lt_or_ge x l[i] with g | g
            · exact g
            · have := h4 g; omega
          · omega
      · rw [Bool.and_eq_false_iff]
        simp only [inP, Bool.and_eq_false_iff, decide_eq_false_iff_not]
        omega
    rw [hs]
    have z0 : ((0 : Nat) : Int) = 0 := rfl
    have hneg : ssum (fL p l ls) (fun x => decide ((scn p x).part ≤ (-1 : Int))) l = 0 := by
      unfold ssum
      rw [List.filter_eq_nil_iff.2 (fun x hx => by have := hpp x hx; simp; omega)]; rfl
    rcases k with _ | _ | _ | k
    · simp only [prH, if_true, z0, Int.zero_sub]; rw [hneg]; omega
    · have : endR p l ls 0 = p.beg + ssum (fL p l ls) (fun x => decide ((scn p x).part ≤ 0)) l := endR_ssum (ls := ls) cv inc 0
      simp only [prH, Nat.zero_add, Nat.reduceEqDiff, if_false, if_true, show ((1 : Nat) : Int) - 1 = 0 from rfl]
      rw [this]; omega
    · have : endR p l ls 1 = p.beg + ssum (fL p l ls) (fun x => decide ((scn p x).part ≤ 1)) l := endR_ssum (ls := ls) cv inc 1
      simp only [prH, Nat.zero_add, Nat.reduceAdd, Nat.reduceEqDiff, if_false, show ((2 : Nat) : Int) - 1 = 1 from rfl]
      rw [this]; omega
    · omega
  · rw [now_sum cv inc h hi]
    have hs : ssum (fL p l ls) (fun x => decide ((scn p x).part ≤ (k : Int))) l = ssum (fL p l ls) (fun x => decide (x < l[i])) l + ssum (fL p l ls) (inP p k (l[i] : Int) 10) l := by
      refine ssum_split fun x hx => ?_
      have h1 := cv.rng x hx
      have h2 := cv.rng _ hm
      have hw := wp.len
      have h3 : x ≤ l[i] → (scn p x).part ≤ (scn p l[i]).part := part_mono ok h2
      have h4 : l[i] ≤ x → (scn p l[i]).part ≤ (scn p x).part := part_mono ok h1
      constructor
      · rw [Bool.eq_iff_iff]
        simp only [inP, Bool.or_eq_true, Bool.and_eq_true, decide_eq_true_eq]
        constructor
        · intro h5
          rcases Nat.lt_or_ge x l[i] with g | g
          · left; exact g
          · right; have := h4 g; exact ⟨⟨by omega, by omega⟩, by omega⟩
        · rintro (h5 | ⟨⟨h5, h6⟩, h7⟩)
          · have := h3 (by omega); omega
          · omega
      · rw [Bool.and_eq_false_iff]
        simp only [inP, Bool.and_eq_false_iff, decide_eq_false_iff_not]
        omega
    have hat := ssum_split (f := fL p l ls) (inP_at wp cv (cv.rng _ hm))
    rw [ssum_one inc hm, hk] at hat
    obtain ⟨h1, _⟩ := pF_len (ls := ls) cv inc l.length (Nat.le_refl _) i hi hi
    have h1 : fL p l ls l[i] = ls.getD i 0 := h1
    rw [h1] at hat
    rw [hat] at hs
    have he : (prH p (endR p l ls 0, endR p l ls 1, endR p l ls 2) k).2 = endR p l ls (k : Int) := by
      rcases k with _ | _ | _ | k
      · rfl
      · rfl
      · rfl
      · omega
    rw [he, endR_ssum (ls := ls) cv inc (k : Int)]
    change p.beg + ssum (fL p l ls) (fun x => decide ((scn p x).part ≤ (k : Int))) l = _
    rw [hs]; omega
end
end Ni

namespace Go.Proofs.YtjghdbdiejaacaaGreatDoor
open Go Go.Ab Ni
theorem en35 : Ent Tryz.prog 35 := Ent.of Tryz.func35 (by kernel_rfl) rfl
theorem en62 : Ent Tryz.prog 62 := Ent.of Tryz.func62 (by kernel_rfl) rfl
theorem en89 : Ent Tryz.prog 89 := Ent.of Tryz.func89 (by kernel_rfl) rfl
theorem en90 : Ent Tryz.prog 90 := Ent.of Tryz.func90 (by kernel_rfl) rfl
theorem en91 : Ent Tryz.prog 91 := Ent.of Tryz.func91 (by kernel_rfl) rfl
set_option maxHeartbeats 400000 in
/-- kelir/kelirref03.in -/
theorem in_pure (n lo hi : Int) : APure Tryz.prog 89 [I n, I lo, I hi] (B (inn n lo hi)) := by
 refine apure_of (rs := [.tmp 6]) Tryz.func89 rfl rfl (Nat.le_of_ble_eq_true rfl) (by simp [AV.pureL, AV.pureB, AV.pureE, pureE_map]) (rfl) fun e0 he0 => ?_
 refine aw_seq (aw_region ?_)
 refine asr (lr _) rfl ?_
 refine sq_nil (aw_seq (aw_region ?_))
 refine mvr (lr _) rfl ?_
 refine mvr (lr _) rfl ?_
 refine sq_ev rfl (ev_geq (lr _) (lr _)) ?_
 refine mvr (lr _) rfl ?_
 refine sq_split 10 (lr _) (fun g1 => ?_) (fun g1 => ?_)
 ·
  have g1' := g1
  try simp only [qq] at g1'
  refine sq_yes rfl rfl (less_b g1) rfl (ev_mv (v := .raw _) (lr _)) ?_
  refine sq_yes rfl rfl (less_b g1) rfl (ev_mv (v := .raw _) (lr _)) ?_
  refine sq_yes rfl rfl (less_b g1) rfl (ev_leq (lr _) (lr _)) ?_
  refine sq_ev rfl (ev_pickT (v := .raw _) (less_b g1) (lr _)) ?_
  refine asr (lr _) rfl ?_
  refine sq_nil (aw_ret ?_)
  exact retQ_pure (v := .raw _) rfl rfl (Less.eq (by simp [inn, *]))
 ·
  have g1' := g1
  try simp only [qq] at g1'
  refine sq_no rfl rfl (less_b g1) rfl rfl ?_
  refine sq_no rfl rfl (less_b g1) rfl rfl ?_
  refine sq_no rfl rfl (less_b g1) rfl rfl ?_
  refine sq_ev rfl (ev_pickF (v := .raw _) (less_b g1) (lr _)) ?_
  refine asr (lr _) rfl ?_
  refine sq_nil (aw_ret ?_)
  exact retQ_pure (v := .raw _) rfl rfl (Less.eq (by simp [inn, *]))

set_option maxHeartbeats 400000 in
/-- kelir/kelirref03.window -/
theorem window_pure (lo hi : Int) : APure Tryz.prog 90 [.agg [I lo, I hi]] (B (wnd lo hi)) := by
 refine apure_of (rs := [.tmp 2]) Tryz.func90 rfl rfl (Nat.le_of_ble_eq_true rfl) (by simp [AV.pureL, AV.pureB, AV.pureE, pureE_map]) (rfl) fun e0 he0 => ?_
 refine aw_seq (aw_region ?_)
 refine sq_box rfl (lr _) rfl ?_
 refine asr (lr _) rfl ?_
 refine sq_nil (aw_seq (aw_region ?_))
 refine sq_ev rfl (ev_fieldAddr fo23_0 (lr _)) ?_
 refine sq_ev rfl (ev_load (lr _) rfl ty3 rfl) ?_
 refine sq_ev rfl (ev_call en89 (lr _) (in_pure _ _ _) ⟨lr _, lr _, lr _, trivial⟩) ?_
 refine mvr (lr _) rfl ?_
 refine sq_split 6 (lr _) (fun g1 => ?_) (fun g1 => ?_)
 ·
  have g1' := g1
  try simp only [qq] at g1'
  refine sq_yes rfl rfl (less_b g1) rfl (ev_fieldAddr fo23_1 (lr _)) ?_
  refine sq_yes rfl rfl (less_b g1) rfl (ev_load (lr _) rfl ty3 rfl) ?_
  refine sq_yes rfl rfl (less_b g1) rfl (ev_fieldAddr fo23_0 (lr _)) ?_
  refine sq_yes rfl rfl (less_b g1) rfl (ev_load (lr _) rfl ty3 rfl) ?_
  refine sq_yes rfl rfl (less_b g1) rfl (ev_call en89 (lr _) (in_pure _ _ _) ⟨lr _, lr _, lr _, trivial⟩) ?_
  refine sq_ev rfl (ev_pickT (v := .raw _) (less_b g1) (lr _)) ?_
  refine mvr (lr _) rfl ?_
  refine sq_split 13 (lr _) (fun g2 => ?_) (fun g2 => ?_)
  ·
   have g2' := g2
   try simp only [qq] at g2'
   simp only [inn, Bool.and_eq_true, decide_eq_true_eq] at g1' g2'
   refine sq_yes rfl rfl (less_b g2) rfl (ev_fieldAddr fo23_1 (lr _)) ?_
   refine sq_yes rfl rfl (less_b g2) rfl (ev_load (lr _) rfl ty3 rfl) ?_
   refine sq_yes rfl rfl (less_b g2) rfl (ev_fieldAddr fo23_0 (lr _)) ?_
   refine sq_yes rfl rfl (less_b g2) rfl (ev_load (lr _) rfl ty3 rfl) ?_
   refine sq_yes rfl rfl (less_b g2) rfl (ev_sub (lr _) (lr _) (wr (by omega) (by omega))) ?_
   refine sq_yes rfl rfl (less_b g2) rfl (ev_leq (lr _) (lr _)) ?_
   refine sq_ev rfl (ev_pickT (v := .raw _) (less_b g2) (lr _)) ?_
   refine asr (lr _) rfl ?_
   refine sq_nil (aw_ret ?_)
   exact retQ_pure (v := .raw _) rfl rfl (Less.eq (by simp [wnd, *]))
  ·
   have g2' := g2
   try simp only [qq] at g2'
   refine sq_no rfl rfl (less_b g2) rfl rfl ?_
   refine sq_no rfl rfl (less_b g2) rfl rfl ?_
   refine sq_no rfl rfl (less_b g2) rfl rfl ?_
   refine sq_no rfl rfl (less_b g2) rfl rfl ?_
   refine sq_no rfl rfl (less_b g2) rfl rfl ?_
   refine sq_no rfl rfl (less_b g2) rfl rfl ?_
   refine sq_ev rfl (ev_pickF (v := .raw _) (less_b g2) (lr _)) ?_
   refine asr (lr _) rfl ?_
   refine sq_nil (aw_ret ?_)
   exact retQ_pure (v := .raw _) rfl rfl (Less.eq (by simp [wnd, *]))
 ·
  have g1' := g1
  try simp only [qq] at g1'
  refine sq_no rfl rfl (less_b g1) rfl rfl ?_
  refine sq_no rfl rfl (less_b g1) rfl rfl ?_
  refine sq_no rfl rfl (less_b g1) rfl rfl ?_
  refine sq_no rfl rfl (less_b g1) rfl rfl ?_
  refine sq_no rfl rfl (less_b g1) rfl rfl ?_
  refine sq_ev rfl (ev_pickF (v := .raw _) (less_b g1) (lr _)) ?_
  refine mvr (lr _) rfl ?_
  refine sq_no rfl rfl (lr _) rfl rfl ?_
  refine sq_no rfl rfl (lr _) rfl rfl ?_
  refine sq_no rfl rfl (lr _) rfl rfl ?_
  refine sq_no rfl rfl (lr _) rfl rfl ?_
  refine sq_no rfl rfl (lr _) rfl rfl ?_
  refine sq_no rfl rfl (lr _) rfl rfl ?_
  refine sq_ev rfl (ev_pickF (v := .raw _) (lr _) (lr _)) ?_
  refine asr (lr _) rfl ?_
  refine sq_nil (aw_ret ?_)
  exact retQ_pure (v := .raw _) rfl rfl (Less.eq (by simp [wnd, *]))

set_option maxHeartbeats 2000000 in
/-- kelir/kelirref03.scenes -/
theorem scenes_pure (p : Pl) (hl : p.scenes.length ≤ 1000000) : APure Tryz.prog 91 [plan p] (B (decide (ScOK p.scenes))) := by
 refine apure_of (rs := [.tmp 2]) Tryz.func91 rfl rfl (Nat.le_of_ble_eq_true rfl) (by simp [AV.pureL, AV.pureB, AV.pureE, pureE_map]) (rfl) fun e0 he0 => ?_
 refine aw_seq (aw_region ?_)
 refine sq_box rfl (lr _) rfl ?_
 refine asr (lr _) rfl ?_
 refine sq_nil (aw_seq (aw_region ?_))
 refine asr (lr _) rfl ?_
 refine sq_nil (aw_seq (aw_seq (aw_region ?_)))
 refine asr (lr _) rfl ?_
 refine sq_nil (aw_block ?_)
 refine aw_loopk (ι := { k : Nat // k ≤ p.scenes.length ∧ ∀ i, (h : i < p.scenes.length) → i < k → scBad p.scenes i h = false }) [1] (fun i => [(3, I (loosies (p.scenes.take i.1))), (4, I i.1)]) (fun H i => H) (fun i => p.scenes.length - i.1) (⟨0, Nat.zero_le _, by omega⟩) ⟨lr _, lr _, lr _, trivial⟩ rfl ?_
 rintro ⟨k, hk, hok⟩
 dsimp only [keepS, St.put, sget, slotsOf, List.map_cons, List.map_nil, List.cons_append, List.nil_append, List.length_cons, List.length_nil, Nat.reduceBEq, Nat.reduceAdd, cond_true, cond_false]
 have hlo := loosies_le (p.scenes.take k)
 have hlt := List.length_take_le k p.scenes
 refine aw_seq (aw_seq (aw_region ?_))
 refine mvr (lr _) rfl ?_
 refine sq_ev rfl (ev_fieldAddr fo27_3 (lr _)) ?_
 refine sq_ev rfl (ev_load (lr _) rfl ty25 rfl) ?_
 refine sq_ev rfl (ev_len_map sl25 (lr _)) ?_
 refine sq_ev rfl (ev_lss (lr _) (lr _)) ?_
 refine sq_nil ?_
 refine aw_cond (lr _) (fun c1 => ?_) (fun c1 => ?_)
 ·
  have c1' := c1
  try simp only [qq] at c1'
  refine aw_skip (aw_seq (aw_block (aw_seq (aw_region ?_))))
  refine sq_ev rfl (ev_fieldAddr fo27_3 (lr _)) ?_
  refine sq_ev rfl (ev_load (lr _) rfl ty25 rfl) ?_
  refine mvr (lr _) rfl ?_
  refine sq_ev rfl (ev_index_map sl25 (lr _) (lr _) rfl (by omega)) ?_
  refine sq_ev rfl (ev_load_agg_i (lr _) ty84 (Nat.le_of_ble_eq_true rfl)) ?_
  refine sq_alloc rfl z84 ?_
  refine sq_store rfl (lr _) (lr _) rfl rfl ty84 rfl rfl ?_
  refine sq_nil (aw_seq (aw_seq ?_))
  refine aw_draw 50 mo (by kernel_rfl) ?_
  refine dr_ev rfl (ev_fieldAddr fo84_0 (lr _)) ?_
  refine dr_ev rfl (ev_load (lr _) rfl ty3 rfl) ?_
  refine dr_ev rfl (ev_call en89 (lr _) (in_pure _ _ _) ⟨lr _, lr _, lr _, trivial⟩) ?_
  refine dr_ev rfl (ev_not (lr _)) ?_
  refine dr_ev rfl (ev_mv (v := .raw _) (lr _)) ?_
  refine dr_split 22 (lr _) (fun g2 => ?_) (fun g2 => ?_)
  ·
   have g2' := g2
   try simp only [qq] at g2'
   refine dr_no rfl rfl (less_b g2) rfl rfl ?_
   refine dr_no rfl rfl (less_b g2) rfl rfl ?_
   refine dr_no rfl rfl (less_b g2) rfl rfl ?_
   refine dr_no rfl rfl (lr _) rfl rfl ?_
   refine dr_no rfl rfl (lr _) rfl rfl ?_
   refine dr_no rfl rfl (lr _) rfl rfl ?_
   refine dr_no rfl rfl (lr _) rfl rfl ?_
   refine dr_no rfl rfl (lr _) rfl rfl ?_
   refine dr_no rfl rfl (lr _) rfl rfl ?_
   refine dr_no rfl rfl (lr _) rfl rfl ?_
   refine dr_no rfl rfl (lr _) rfl rfl ?_
   refine dr_no rfl rfl (lr _) rfl rfl ?_
   refine dr_no rfl rfl (lr _) rfl rfl ?_
   refine dr_no rfl rfl (less_b g2) rfl rfl ?_
   refine dr_ev rfl (ev_pickT (v := .raw _) (less_b g2) (lr _)) ?_
   refine dr_ev rfl (ev_mv (v := .raw _) (lr _)) ?_
   refine dr_no rfl rfl (lr _) rfl rfl ?_
   refine dr_no rfl rfl (lr _) rfl rfl ?_
   refine dr_no rfl rfl (lr _) rfl rfl ?_
   refine dr_no rfl rfl (lr _) rfl rfl ?_
   refine dr_ev rfl (ev_pickT (v := .raw _) (lr _) (lr _)) ?_
   refine dr_ev rfl (ev_mv (v := .raw _) (lr _)) ?_
   refine dr_no rfl rfl (lr _) rfl rfl ?_
   refine dr_no rfl rfl (lr _) rfl rfl ?_
   refine dr_no rfl rfl (lr _) rfl rfl ?_
   refine dr_no rfl rfl (lr _) rfl rfl ?_
   refine dr_no rfl rfl (lr _) rfl rfl ?_
   refine dr_no rfl rfl (lr _) rfl rfl ?_
   refine dr_ev rfl (ev_pickT (v := .raw _) (lr _) (lr _)) ?_
   refine dr_ev rfl (ev_mv (v := .raw _) (lr _)) ?_
   refine dr_no rfl rfl (lr _) rfl rfl ?_
   refine dr_no rfl rfl (lr _) rfl rfl ?_
   refine dr_no rfl rfl (lr _) rfl rfl ?_
   refine dr_no rfl rfl (lr _) rfl rfl ?_
   refine dr_no rfl rfl (lr _) rfl rfl ?_
   refine dr_no rfl rfl (lr _) rfl rfl ?_
   refine dr_no rfl rfl (lr _) rfl rfl ?_
   refine dr_no rfl rfl (lr _) rfl rfl ?_
   refine dr_ev rfl (ev_pickT (v := .raw _) (lr _) (lr _)) ?_
   refine dr_ev rfl (ev_mv (v := .raw _) (lr _)) ?_
   refine dr_no rfl rfl (lr _) rfl rfl ?_
   refine dr_no rfl rfl (lr _) rfl rfl ?_
   refine dr_no rfl rfl (lr _) rfl rfl ?_
   refine dr_no rfl rfl (lr _) rfl rfl ?_
   refine dr_ev rfl (ev_pickT (v := .raw _) (lr _) (lr _)) ?_
   refine dr_end (sq_nil ?_)
   refine aw_true (lr _) ?_
   refine aw_seq (aw_region ?_)
   refine asr (lr _) rfl ?_
   refine sq_nil (aw_ret ?_)
   exact retQ_pure (v := .raw _) rfl rfl (Less.eq (by rw [scOK_bad (i := k) (by omega) (by simp [scBad, *])]))
  ·
   have g2' := g2
   try simp only [qq] at g2'
   refine dr_yes rfl rfl (less_b g2) rfl (ev_mv (v := .raw _) (lr _)) ?_
   refine dr_yes rfl rfl (less_b g2) rfl (ev_gtr (lr _) (lr _)) ?_
   refine dr_yes rfl rfl (less_b g2) rfl (ev_mv (v := .raw _) (lr _)) ?_
   refine dr_split 25 (lr _) (fun g3 => ?_) (fun g3 => ?_)
   ·
    have g3' := g3
    try simp only [qq] at g3'
    have g3n : 0 < k := by omega
    refine dr_yes rfl rfl (less_b g3) rfl (ev_fieldAddr fo84_0 (lr _)) ?_
    refine dr_yes rfl rfl (less_b g3) rfl (ev_load (lr _) rfl ty3 rfl) ?_
    refine dr_yes rfl rfl (less_b g3) rfl (ev_fieldAddr fo27_3 (lr _)) ?_
    refine dr_yes rfl rfl (less_b g3) rfl (ev_load (lr _) rfl ty25 rfl) ?_
    refine dr_yes rfl rfl (less_b g3) rfl (ev_mv (v := .raw _) (lr _)) ?_
    refine dr_yes rfl rfl (less_b g3) rfl (ev_sub (lr _) (lr _) (wr (by omega) (by omega))) ?_
    refine dr_yes rfl rfl (less_b g3) rfl (ev_index_map sl25 (lr _) (lr _) (show ((k : Int) - 1) = ((k - 1 : Nat) : Int) by omega) (by omega)) ?_
    refine dr_yes rfl rfl (less_b g3) rfl (ev_fieldAddr_i fo84_0 (lr _)) ?_
    refine dr_yes rfl rfl (less_b g3) rfl (ev_load_i (lr _) ty3 rfl) ?_
    refine dr_yes rfl rfl (less_b g3) rfl (ev_lss (lr _) (lr _)) ?_
    refine dr_yes rfl rfl (less_b g2) rfl (ev_pickT (v := .raw _) (less_b g3) (lr _)) ?_
    refine dr_ev rfl (ev_pickF (v := .raw _) (less_b g2) (lr _)) ?_
    refine dr_ev rfl (ev_mv (v := .raw _) (lr _)) ?_
    refine dr_split 38 (lr _) (fun g4 => ?_) (fun g4 => ?_)
    ·
     have g4' := g4
     try simp only [qq] at g4'
     refine dr_no rfl rfl (less_b g4) rfl rfl ?_
     refine dr_no rfl rfl (less_b g4) rfl rfl ?_
     refine dr_no rfl rfl (less_b g4) rfl rfl ?_
     refine dr_no rfl rfl (less_b g4) rfl rfl ?_
     refine dr_ev rfl (ev_pickT (v := .raw _) (less_b g4) (lr _)) ?_
     refine dr_ev rfl (ev_mv (v := .raw _) (lr _)) ?_
     refine dr_no rfl rfl (lr _) rfl rfl ?_
     refine dr_no rfl rfl (lr _) rfl rfl ?_
     refine dr_no rfl rfl (lr _) rfl rfl ?_
     refine dr_no rfl rfl (lr _) rfl rfl ?_
     refine dr_no rfl rfl (lr _) rfl rfl ?_
     refine dr_no rfl rfl (lr _) rfl rfl ?_
     refine dr_ev rfl (ev_pickT (v := .raw _) (lr _) (lr _)) ?_
     refine dr_ev rfl (ev_mv (v := .raw _) (lr _)) ?_
     refine dr_no rfl rfl (lr _) rfl rfl ?_
     refine dr_no rfl rfl (lr _) rfl rfl ?_
     refine dr_no rfl rfl (lr _) rfl rfl ?_
     refine dr_no rfl rfl (lr _) rfl rfl ?_
     refine dr_no rfl rfl (lr _) rfl rfl ?_
     refine dr_no rfl rfl (lr _) rfl rfl ?_
     refine dr_no rfl rfl (lr _) rfl rfl ?_
     refine dr_no rfl rfl (lr _) rfl rfl ?_
     refine dr_ev rfl (ev_pickT (v := .raw _) (lr _) (lr _)) ?_
     refine dr_ev rfl (ev_mv (v := .raw _) (lr _)) ?_
     refine dr_no rfl rfl (lr _) rfl rfl ?_
     refine dr_no rfl rfl (lr _) rfl rfl ?_
     refine dr_no rfl rfl (lr _) rfl rfl ?_
     refine dr_no rfl rfl (lr _) rfl rfl ?_
     refine dr_ev rfl (ev_pickT (v := .raw _) (lr _) (lr _)) ?_
     refine dr_end (sq_nil ?_)
     refine aw_true (lr _) ?_
     refine aw_seq (aw_region ?_)
     refine asr (lr _) rfl ?_
     refine sq_nil (aw_ret ?_)
     exact retQ_pure (v := .raw _) rfl rfl (Less.eq (by rw [scOK_bad (i := k) (by omega) (by simp [scBad, *])]))
    ·
     have g4' := g4
     try simp only [qq] at g4'
     refine dr_yes rfl rfl (less_b g4) rfl (ev_fieldAddr fo84_1 (lr _)) ?_
     refine dr_yes rfl rfl (less_b g4) rfl (ev_load (lr _) rfl ty3 rfl) ?_
     refine dr_yes rfl rfl (less_b g4) rfl (ev_call en89 (lr _) (in_pure _ _ _) ⟨lr _, lr _, lr _, trivial⟩) ?_
     refine dr_yes rfl rfl (less_b g4) rfl (ev_not (lr _)) ?_
     refine dr_ev rfl (ev_pickF (v := .raw _) (less_b g4) (lr _)) ?_
     refine dr_ev rfl (ev_mv (v := .raw _) (lr _)) ?_
     refine dr_split 44 (lr _) (fun g5 => ?_) (fun g5 => ?_)
     ·
      have g5' := g5
      try simp only [qq] at g5'
      refine dr_no rfl rfl (less_b g5) rfl rfl ?_
      refine dr_no rfl rfl (less_b g5) rfl rfl ?_
      refine dr_no rfl rfl (less_b g5) rfl rfl ?_
      refine dr_no rfl rfl (less_b g5) rfl rfl ?_
      refine dr_no rfl rfl (less_b g5) rfl rfl ?_
      refine dr_no rfl rfl (less_b g5) rfl rfl ?_
      refine dr_ev rfl (ev_pickT (v := .raw _) (less_b g5) (lr _)) ?_
      refine dr_ev rfl (ev_mv (v := .raw _) (lr _)) ?_
      refine dr_no rfl rfl (lr _) rfl rfl ?_
      refine dr_no rfl rfl (lr _) rfl rfl ?_
      refine dr_no rfl rfl (lr _) rfl rfl ?_
      refine dr_no rfl rfl (lr _) rfl rfl ?_
      refine dr_no rfl rfl (lr _) rfl rfl ?_
      refine dr_no rfl rfl (lr _) rfl rfl ?_
      refine dr_no rfl rfl (lr _) rfl rfl ?_
      refine dr_no rfl rfl (lr _) rfl rfl ?_
      refine dr_ev rfl (ev_pickT (v := .raw _) (lr _) (lr _)) ?_
      refine dr_ev rfl (ev_mv (v := .raw _) (lr _)) ?_
      refine dr_no rfl rfl (lr _) rfl rfl ?_
      refine dr_no rfl rfl (lr _) rfl rfl ?_
      refine dr_no rfl rfl (lr _) rfl rfl ?_
      refine dr_no rfl rfl (lr _) rfl rfl ?_
      refine dr_ev rfl (ev_pickT (v := .raw _) (lr _) (lr _)) ?_
      refine dr_end (sq_nil ?_)
      refine aw_true (lr _) ?_
      refine aw_seq (aw_region ?_)
      refine asr (lr _) rfl ?_
      refine sq_nil (aw_ret ?_)
      exact retQ_pure (v := .raw _) rfl rfl (Less.eq (by rw [scOK_bad (i := k) (by omega) (by simp [scBad, *])]))
     ·
      have g5' := g5
      try simp only [qq] at g5'
      refine dr_yes rfl rfl (less_b g5) rfl (ev_fieldAddr fo84_2 (lr _)) ?_
      refine dr_yes rfl rfl (less_b g5) rfl (ev_load (lr _) rfl ty3 rfl) ?_
      refine dr_yes rfl rfl (less_b g5) rfl (ev_fieldAddr fo84_1 (lr _)) ?_
      refine dr_yes rfl rfl (less_b g5) rfl (ev_load (lr _) rfl ty3 rfl) ?_
      refine dr_yes rfl rfl (less_b g5) rfl (ev_call en89 (lr _) (in_pure _ _ _) ⟨lr _, lr _, lr _, trivial⟩) ?_
      refine dr_yes rfl rfl (less_b g5) rfl (ev_not (lr _)) ?_
      refine dr_ev rfl (ev_pickF (v := .raw _) (less_b g5) (lr _)) ?_
      refine dr_ev rfl (ev_mv (v := .raw _) (lr _)) ?_
      refine dr_split 52 (lr _) (fun g6 => ?_) (fun g6 => ?_)
      ·
       have g6' := g6
       try simp only [qq] at g6'
       refine dr_no rfl rfl (less_b g6) rfl rfl ?_
       refine dr_no rfl rfl (less_b g6) rfl rfl ?_
       refine dr_no rfl rfl (less_b g6) rfl rfl ?_
       refine dr_no rfl rfl (less_b g6) rfl rfl ?_
       refine dr_no rfl rfl (less_b g6) rfl rfl ?_
       refine dr_no rfl rfl (less_b g6) rfl rfl ?_
       refine dr_no rfl rfl (less_b g6) rfl rfl ?_
       refine dr_no rfl rfl (less_b g6) rfl rfl ?_
       refine dr_ev rfl (ev_pickT (v := .raw _) (less_b g6) (lr _)) ?_
       refine dr_ev rfl (ev_mv (v := .raw _) (lr _)) ?_
       refine dr_no rfl rfl (lr _) rfl rfl ?_
       refine dr_no rfl rfl (lr _) rfl rfl ?_
       refine dr_no rfl rfl (lr _) rfl rfl ?_
       refine dr_no rfl rfl (lr _) rfl rfl ?_
       refine dr_ev rfl (ev_pickT (v := .raw _) (lr _) (lr _)) ?_
       refine dr_end (sq_nil ?_)
       refine aw_true (lr _) ?_
       refine aw_seq (aw_region ?_)
       refine asr (lr _) rfl ?_
       refine sq_nil (aw_ret ?_)
       exact retQ_pure (v := .raw _) rfl rfl (Less.eq (by rw [scOK_bad (i := k) (by omega) (by simp [scBad, *])]))
      ·
       have g6' := g6
       try simp only [qq] at g6'
       refine dr_yes rfl rfl (less_b g6) rfl (ev_fieldAddr fo84_4 (lr _)) ?_
       refine dr_yes rfl rfl (less_b g6) rfl (ev_load (lr _) rfl ty3 rfl) ?_
       refine dr_yes rfl rfl (less_b g6) rfl (ev_fieldAddr fo27_3 (lr _)) ?_
       refine dr_yes rfl rfl (less_b g6) rfl (ev_load (lr _) rfl ty25 rfl) ?_
       refine dr_yes rfl rfl (less_b g6) rfl (ev_len_map sl25 (lr _)) ?_
       refine dr_yes rfl rfl (less_b g6) rfl (ev_sub (lr _) (lr _) (wr (by omega) (by omega))) ?_
       refine dr_yes rfl rfl (less_b g6) rfl (ev_call en89 (lr _) (in_pure _ _ _) ⟨lr _, lr _, lr _, trivial⟩) ?_
       refine dr_yes rfl rfl (less_b g6) rfl (ev_not (lr _)) ?_
       refine dr_ev rfl (ev_pickF (v := .raw _) (less_b g6) (lr _)) ?_
       refine dr_ev rfl (ev_mv (v := .raw _) (lr _)) ?_
       refine dr_split 62 (lr _) (fun g7 => ?_) (fun g7 => ?_)
       ·
        have g7' := g7
        try simp only [qq] at g7'
        refine dr_no rfl rfl (less_b g7) rfl rfl ?_
        refine dr_no rfl rfl (less_b g7) rfl rfl ?_
        refine dr_no rfl rfl (less_b g7) rfl rfl ?_
        refine dr_no rfl rfl (less_b g7) rfl rfl ?_
        refine dr_ev rfl (ev_pickT (v := .raw _) (less_b g7) (lr _)) ?_
        refine dr_end (sq_nil ?_)
        refine aw_true (lr _) ?_
        refine aw_seq (aw_region ?_)
        refine asr (lr _) rfl ?_
        refine sq_nil (aw_ret ?_)
        exact retQ_pure (v := .raw _) rfl rfl (Less.eq (by rw [scOK_bad (i := k) (by omega) (by simp [scBad, *])]))
       ·
        have g7' := g7
        try simp only [qq] at g7'
        refine dr_yes rfl rfl (less_b g7) rfl (ev_fieldAddr fo84_4 (lr _)) ?_
        refine dr_yes rfl rfl (less_b g7) rfl (ev_load (lr _) rfl ty3 rfl) ?_
        refine dr_yes rfl rfl (less_b g7) rfl (ev_mv (v := .raw _) (lr _)) ?_
        refine dr_yes rfl rfl (less_b g7) rfl (ev_eql (lr _) (lr _)) ?_
        refine dr_ev rfl (ev_pickF (v := .raw _) (less_b g7) (lr _)) ?_
        refine dr_end (sq_nil ?_)
        refine aw_cond (lr _) (fun c8 => ?_) (fun c8 => ?_)
        ·
         have c8' := c8
         try simp only [qq] at c8'
         refine aw_seq (aw_region ?_)
         refine asr (lr _) rfl ?_
         refine sq_nil (aw_ret ?_)
         exact retQ_pure (v := .raw _) rfl rfl (Less.eq (by rw [scOK_bad (i := k) (by omega) (by simp [scBad, *])]))
        ·
         have c8' := c8
         try simp only [qq] at c8'
         refine aw_skip (aw_seq (aw_region ?_))
         refine sq_ev rfl (ev_fieldAddr fo84_3 (lr _)) ?_
         refine sq_ev rfl (ev_load (lr _) rfl ty4 rfl) ?_
         refine sq_nil ?_
         refine aw_cond (lr _) (fun c9 => ?_) (fun c9 => ?_)
         ·
          have c9' := c9
          try simp only [qq] at c9'
          refine aw_region ?_
          refine mvr (lr _) rfl ?_
          refine sq_ev rfl (ev_add (lr _) (lr _) (wr (by omega) (by omega))) ?_
          refine asr (lr _) rfl ?_
          refine sq_nil (aw_region ?_)
          refine mvr (lr _) rfl ?_
          refine sq_ev rfl (ev_add (lr _) (lr _) (wr (by omega) (by omega))) ?_
          refine asr (lr _) rfl ?_
          refine sq_nil ?_
          have hstep := loosies_take (l := p.scenes) (k := k) (by omega)
          have hgood : scBad p.scenes k (by omega) = false := by simp [scBad, *]
          exact ⟨⟨k + 1, by omega, fun i h hi => (by by_cases e : i = k; (subst e; exact hgood); exact hok i h (by omega))⟩, by simp only; omega, Sub.fin 1 ⟨less_int (by rw [hstep]; simp [*]), lr _, lr _, trivial⟩ rfl (by simp [slotsIn, objsIn, sget, keepS, AObj.inB, AV.inB, AV.inL, AV.inE, inE_map]) (by simp [slotsIn, objsIn, sget, keepS, AObj.inB, AV.inB, AV.inL, AV.inE, inE_map]) (by simp [he0])⟩
         ·
          have c9' := c9
          try simp only [qq] at c9'
          refine aw_skip (aw_region ?_)
          refine mvr (lr _) rfl ?_
          refine sq_ev rfl (ev_add (lr _) (lr _) (wr (by omega) (by omega))) ?_
          refine asr (lr _) rfl ?_
          refine sq_nil ?_
          have hstep := loosies_take (l := p.scenes) (k := k) (by omega)
          have hgood : scBad p.scenes k (by omega) = false := by simp [scBad, *]
          exact ⟨⟨k + 1, by omega, fun i h hi => (by by_cases e : i = k; (subst e; exact hgood); exact hok i h (by omega))⟩, by simp only; omega, Sub.fin 1 ⟨less_int (by rw [hstep]; simp [*]), lr _, lr _, trivial⟩ rfl (by simp [slotsIn, objsIn, sget, keepS, AObj.inB, AV.inB, AV.inL, AV.inE, inE_map]) (by simp [slotsIn, objsIn, sget, keepS, AObj.inB, AV.inB, AV.inL, AV.inE, inE_map]) (by simp [he0])⟩
   ·
    have g3' := g3
    try simp only [qq] at g3'
    have g3n : ¬ (0 < k) := by omega
    refine dr_no rfl rfl (less_b g3) rfl rfl ?_
    refine dr_no rfl rfl (less_b g3) rfl rfl ?_
    refine dr_no rfl rfl (less_b g3) rfl rfl ?_
    refine dr_no rfl rfl (less_b g3) rfl rfl ?_
    refine dr_no rfl rfl (less_b g3) rfl rfl ?_
    refine dr_no rfl rfl (less_b g3) rfl rfl ?_
    refine dr_no rfl rfl (less_b g3) rfl rfl ?_
    refine dr_no rfl rfl (less_b g3) rfl rfl ?_
    refine dr_no rfl rfl (less_b g3) rfl rfl ?_
    refine dr_no rfl rfl (less_b g3) rfl rfl ?_
    refine dr_yes rfl rfl (less_b g2) rfl (ev_pickF (v := .raw _) (less_b g3) (lr _)) ?_
    refine dr_ev rfl (ev_pickF (v := .raw _) (less_b g2) (lr _)) ?_
    refine dr_ev rfl (ev_mv (v := .raw _) (lr _)) ?_
    refine dr_yes rfl rfl (lr _) rfl (ev_fieldAddr fo84_1 (lr _)) ?_
    refine dr_yes rfl rfl (lr _) rfl (ev_load (lr _) rfl ty3 rfl) ?_
    refine dr_yes rfl rfl (lr _) rfl (ev_call en89 (lr _) (in_pure _ _ _) ⟨lr _, lr _, lr _, trivial⟩) ?_
    refine dr_yes rfl rfl (lr _) rfl (ev_not (lr _)) ?_
    refine dr_ev rfl (ev_pickF (v := .raw _) (lr _) (lr _)) ?_
    refine dr_ev rfl (ev_mv (v := .raw _) (lr _)) ?_
    refine dr_split 44 (lr _) (fun g10 => ?_) (fun g10 => ?_)
    ·
     have g10' := g10
     try simp only [qq] at g10'
     refine dr_no rfl rfl (less_b g10) rfl rfl ?_
     refine dr_no rfl rfl (less_b g10) rfl rfl ?_
     refine dr_no rfl rfl (less_b g10) rfl rfl ?_
     refine dr_no rfl rfl (less_b g10) rfl rfl ?_
     refine dr_no rfl rfl (less_b g10) rfl rfl ?_
     refine dr_no rfl rfl (less_b g10) rfl rfl ?_
     refine dr_ev rfl (ev_pickT (v := .raw _) (less_b g10) (lr _)) ?_
     refine dr_ev rfl (ev_mv (v := .raw _) (lr _)) ?_
     refine dr_no rfl rfl (lr _) rfl rfl ?_
     refine dr_no rfl rfl (lr _) rfl rfl ?_
     refine dr_no rfl rfl (lr _) rfl rfl ?_
     refine dr_no rfl rfl (lr _) rfl rfl ?_
     refine dr_no rfl rfl (lr _) rfl rfl ?_
     refine dr_no rfl rfl (lr _) rfl rfl ?_
     refine dr_no rfl rfl (lr _) rfl rfl ?_
     refine dr_no rfl rfl (lr _) rfl rfl ?_
     refine dr_ev rfl (ev_pickT (v := .raw _) (lr _) (lr _)) ?_
     refine dr_ev rfl (ev_mv (v := .raw _) (lr _)) ?_
     refine dr_no rfl rfl (lr _) rfl rfl ?_
     refine dr_no rfl rfl (lr _) rfl rfl ?_
     refine dr_no rfl rfl (lr _) rfl rfl ?_
     refine dr_no rfl rfl (lr _) rfl rfl ?_
     refine dr_ev rfl (ev_pickT (v := .raw _) (lr _) (lr _)) ?_
     refine dr_end (sq_nil ?_)
     refine aw_true (lr _) ?_
     refine aw_seq (aw_region ?_)
     refine asr (lr _) rfl ?_
     refine sq_nil (aw_ret ?_)
     exact retQ_pure (v := .raw _) rfl rfl (Less.eq (by rw [scOK_bad (i := k) (by omega) (by simp [scBad, *])]))
    ·
     have g10' := g10
     try simp only [qq] at g10'
     refine dr_yes rfl rfl (less_b g10) rfl (ev_fieldAddr fo84_2 (lr _)) ?_
     refine dr_yes rfl rfl (less_b g10) rfl (ev_load (lr _) rfl ty3 rfl) ?_
     refine dr_yes rfl rfl (less_b g10) rfl (ev_fieldAddr fo84_1 (lr _)) ?_
     refine dr_yes rfl rfl (less_b g10) rfl (ev_load (lr _) rfl ty3 rfl) ?_
     refine dr_yes rfl rfl (less_b g10) rfl (ev_call en89 (lr _) (in_pure _ _ _) ⟨lr _, lr _, lr _, trivial⟩) ?_
     refine dr_yes rfl rfl (less_b g10) rfl (ev_not (lr _)) ?_
     refine dr_ev rfl (ev_pickF (v := .raw _) (less_b g10) (lr _)) ?_
     refine dr_ev rfl (ev_mv (v := .raw _) (lr _)) ?_
     refine dr_split 52 (lr _) (fun g11 => ?_) (fun g11 => ?_)
     ·
      have g11' := g11
      try simp only [qq] at g11'
      refine dr_no rfl rfl (less_b g11) rfl rfl ?_
      refine dr_no rfl rfl (less_b g11) rfl rfl ?_
      refine dr_no rfl rfl (less_b g11) rfl rfl ?_
      refine dr_no rfl rfl (less_b g11) rfl rfl ?_
      refine dr_no rfl rfl (less_b g11) rfl rfl ?_
      refine dr_no rfl rfl (less_b g11) rfl rfl ?_
      refine dr_no rfl rfl (less_b g11) rfl rfl ?_
      refine dr_no rfl rfl (less_b g11) rfl rfl ?_
      refine dr_ev rfl (ev_pickT (v := .raw _) (less_b g11) (lr _)) ?_
      refine dr_ev rfl (ev_mv (v := .raw _) (lr _)) ?_
      refine dr_no rfl rfl (lr _) rfl rfl ?_
      refine dr_no rfl rfl (lr _) rfl rfl ?_
      refine dr_no rfl rfl (lr _) rfl rfl ?_
      refine dr_no rfl rfl (lr _) rfl rfl ?_
      refine dr_ev rfl (ev_pickT (v := .raw _) (lr _) (lr _)) ?_
      refine dr_end (sq_nil ?_)
      refine aw_true (lr _) ?_
      refine aw_seq (aw_region ?_)
      refine asr (lr _) rfl ?_
      refine sq_nil (aw_ret ?_)
      exact retQ_pure (v := .raw _) rfl rfl (Less.eq (by rw [scOK_bad (i := k) (by omega) (by simp [scBad, *])]))
     ·
      have g11' := g11
      try simp only [qq] at g11'
      refine dr_yes rfl rfl (less_b g11) rfl (ev_fieldAddr fo84_4 (lr _)) ?_
      refine dr_yes rfl rfl (less_b g11) rfl (ev_load (lr _) rfl ty3 rfl) ?_
      refine dr_yes rfl rfl (less_b g11) rfl (ev_fieldAddr fo27_3 (lr _)) ?_
      refine dr_yes rfl rfl (less_b g11) rfl (ev_load (lr _) rfl ty25 rfl) ?_
      refine dr_yes rfl rfl (less_b g11) rfl (ev_len_map sl25 (lr _)) ?_
      refine dr_yes rfl rfl (less_b g11) rfl (ev_sub (lr _) (lr _) (wr (by omega) (by omega))) ?_
      refine dr_yes rfl rfl (less_b g11) rfl (ev_call en89 (lr _) (in_pure _ _ _) ⟨lr _, lr _, lr _, trivial⟩) ?_
      refine dr_yes rfl rfl (less_b g11) rfl (ev_not (lr _)) ?_
      refine dr_ev rfl (ev_pickF (v := .raw _) (less_b g11) (lr _)) ?_
      refine dr_ev rfl (ev_mv (v := .raw _) (lr _)) ?_
      refine dr_split 62 (lr _) (fun g12 => ?_) (fun g12 => ?_)
      ·
       have g12' := g12
       try simp only [qq] at g12'
       refine dr_no rfl rfl (less_b g12) rfl rfl ?_
       refine dr_no rfl rfl (less_b g12) rfl rfl ?_
       refine dr_no rfl rfl (less_b g12) rfl rfl ?_
       refine dr_no rfl rfl (less_b g12) rfl rfl ?_
       refine dr_ev rfl (ev_pickT (v := .raw _) (less_b g12) (lr _)) ?_
       refine dr_end (sq_nil ?_)
       refine aw_true (lr _) ?_
       refine aw_seq (aw_region ?_)
       refine asr (lr _) rfl ?_
       refine sq_nil (aw_ret ?_)
       exact retQ_pure (v := .raw _) rfl rfl (Less.eq (by rw [scOK_bad (i := k) (by omega) (by simp [scBad, *])]))
      ·
       have g12' := g12
       try simp only [qq] at g12'
       refine dr_yes rfl rfl (less_b g12) rfl (ev_fieldAddr fo84_4 (lr _)) ?_
       refine dr_yes rfl rfl (less_b g12) rfl (ev_load (lr _) rfl ty3 rfl) ?_
       refine dr_yes rfl rfl (less_b g12) rfl (ev_mv (v := .raw _) (lr _)) ?_
       refine dr_yes rfl rfl (less_b g12) rfl (ev_eql (lr _) (lr _)) ?_
       refine dr_ev rfl (ev_pickF (v := .raw _) (less_b g12) (lr _)) ?_
       refine dr_end (sq_nil ?_)
       refine aw_cond (lr _) (fun c13 => ?_) (fun c13 => ?_)
       ·
        have c13' := c13
        try simp only [qq] at c13'
        refine aw_seq (aw_region ?_)
        refine asr (lr _) rfl ?_
        refine sq_nil (aw_ret ?_)
        exact retQ_pure (v := .raw _) rfl rfl (Less.eq (by rw [scOK_bad (i := k) (by omega) (by simp [scBad, *])]))
       ·
        have c13' := c13
        try simp only [qq] at c13'
        refine aw_skip (aw_seq (aw_region ?_))
        refine sq_ev rfl (ev_fieldAddr fo84_3 (lr _)) ?_
        refine sq_ev rfl (ev_load (lr _) rfl ty4 rfl) ?_
        refine sq_nil ?_
        refine aw_cond (lr _) (fun c14 => ?_) (fun c14 => ?_)
        ·
         have c14' := c14
         try simp only [qq] at c14'
         refine aw_region ?_
         refine mvr (lr _) rfl ?_
         refine sq_ev rfl (ev_add (lr _) (lr _) (wr (by omega) (by omega))) ?_
         refine asr (lr _) rfl ?_
         refine sq_nil (aw_region ?_)
         refine mvr (lr _) rfl ?_
         refine sq_ev rfl (ev_add (lr _) (lr _) (wr (by omega) (by omega))) ?_
         refine asr (lr _) rfl ?_
         refine sq_nil ?_
         have hstep := loosies_take (l := p.scenes) (k := k) (by omega)
         have hgood : scBad p.scenes k (by omega) = false := by simp [scBad, *]
         exact ⟨⟨k + 1, by omega, fun i h hi => (by by_cases e : i = k; (subst e; exact hgood); exact hok i h (by omega))⟩, by simp only; omega, Sub.fin 1 ⟨less_int (by rw [hstep]; simp [*]), lr _, lr _, trivial⟩ rfl (by simp [slotsIn, objsIn, sget, keepS, AObj.inB, AV.inB, AV.inL, AV.inE, inE_map]) (by simp [slotsIn, objsIn, sget, keepS, AObj.inB, AV.inB, AV.inL, AV.inE, inE_map]) (by simp [he0])⟩
        ·
         have c14' := c14
         try simp only [qq] at c14'
         refine aw_skip (aw_region ?_)
         refine mvr (lr _) rfl ?_
         refine sq_ev rfl (ev_add (lr _) (lr _) (wr (by omega) (by omega))) ?_
         refine asr (lr _) rfl ?_
         refine sq_nil ?_
         have hstep := loosies_take (l := p.scenes) (k := k) (by omega)
         have hgood : scBad p.scenes k (by omega) = false := by simp [scBad, *]
         exact ⟨⟨k + 1, by omega, fun i h hi => (by by_cases e : i = k; (subst e; exact hgood); exact hok i h (by omega))⟩, by simp only; omega, Sub.fin 1 ⟨less_int (by rw [hstep]; simp [*]), lr _, lr _, trivial⟩ rfl (by simp [slotsIn, objsIn, sget, keepS, AObj.inB, AV.inB, AV.inL, AV.inE, inE_map]) (by simp [slotsIn, objsIn, sget, keepS, AObj.inB, AV.inB, AV.inL, AV.inE, inE_map]) (by simp [he0])⟩
 ·
  have c1' := c1
  try simp only [qq] at c1'
  refine aw_exit (aw_seq (aw_region ?_))
  refine mvr (lr _) rfl ?_
  refine sq_ev rfl (ev_leq (lr _) (lr _)) ?_
  refine asr (lr _) rfl ?_
  refine sq_nil (aw_ret ?_)
  exact retQ_pure (v := .raw _) rfl rfl (Less.eq (by rw [scOK_end hk c1' hok]))

set_option maxHeartbeats 1000000 in
/-- kelir/kelirref03.Plan -/
theorem plan_pure (p : Pl) (hl : p.scenes.length ≤ 1000000) : APure Tryz.prog 24 [plan p] (B (PlOK p)) := by
 refine apure_of (rs := [.tmp 2]) Tryz.func24 rfl rfl (Nat.le_of_ble_eq_true rfl) (by simp [AV.pureL, AV.pureB, AV.pureE, pureE_map]) (rfl) fun e0 he0 => ?_
 refine aw_seq (aw_region ?_)
 refine sq_box rfl (lr _) rfl ?_
 refine asr (lr _) rfl ?_
 refine sq_nil (aw_seq (aw_region ?_))
 refine sq_ev rfl (ev_fieldAddr fo27_0 (lr _)) ?_
 refine sq_ev rfl (ev_load (lr _) rfl ty3 rfl) ?_
 refine sq_ev rfl (ev_call en89 (lr _) (in_pure _ _ _) ⟨lr _, lr _, lr _, trivial⟩) ?_
 refine mvr (lr _) rfl ?_
 refine sq_split 6 (lr _) (fun g1 => ?_) (fun g1 => ?_)
 ·
  have g1' := g1
  try simp only [qq] at g1'
  refine sq_yes rfl rfl (less_b g1) rfl (ev_fieldAddr fo27_1 (lr _)) ?_
  refine sq_yes rfl rfl (less_b g1) rfl (ev_index_box ar24 (lr _) (lr _) rfl (by decide)) ?_
  refine sq_yes rfl rfl (less_b g1) rfl (ev_load_agg (lr _) rfl ty23 rfl) ?_
  refine sq_yes rfl rfl (less_b g1) rfl (ev_call en90 (lr _) (window_pure _ _) ⟨lr _, trivial⟩) ?_
  refine sq_ev rfl (ev_pickT (v := .raw _) (less_b g1) (lr _)) ?_
  refine mvr (lr _) rfl ?_
  refine sq_split 12 (lr _) (fun g2 => ?_) (fun g2 => ?_)
  ·
   have g2' := g2
   try simp only [qq] at g2'
   refine sq_yes rfl rfl (less_b g2) rfl (ev_fieldAddr fo27_1 (lr _)) ?_
   refine sq_yes rfl rfl (less_b g2) rfl (ev_index_box ar24 (lr _) (lr _) rfl (by decide)) ?_
   refine sq_yes rfl rfl (less_b g2) rfl (ev_load_agg (lr _) rfl ty23 rfl) ?_
   refine sq_yes rfl rfl (less_b g2) rfl (ev_call en90 (lr _) (window_pure _ _) ⟨lr _, trivial⟩) ?_
   refine sq_ev rfl (ev_pickT (v := .raw _) (less_b g2) (lr _)) ?_
   refine mvr (lr _) rfl ?_
   refine sq_split 18 (lr _) (fun g3 => ?_) (fun g3 => ?_)
   ·
    have g3' := g3
    try simp only [qq] at g3'
    refine sq_yes rfl rfl (less_b g3) rfl (ev_fieldAddr fo27_2 (lr _)) ?_
    refine sq_yes rfl rfl (less_b g3) rfl (ev_load_agg (lr _) rfl ty23 rfl) ?_
    refine sq_yes rfl rfl (less_b g3) rfl (ev_call en90 (lr _) (window_pure _ _) ⟨lr _, trivial⟩) ?_
    refine sq_ev rfl (ev_pickT (v := .raw _) (less_b g3) (lr _)) ?_
    refine mvr (lr _) rfl ?_
    refine sq_split 23 (lr _) (fun g4 => ?_) (fun g4 => ?_)
    ·
     have g4' := g4
     try simp only [qq] at g4'
     refine sq_yes rfl rfl (less_b g4) rfl (ev_fieldAddr fo27_3 (lr _)) ?_
     refine sq_yes rfl rfl (less_b g4) rfl (ev_load (lr _) rfl ty25 rfl) ?_
     refine sq_yes rfl rfl (less_b g4) rfl (ev_len_map sl25 (lr _)) ?_
     refine sq_yes rfl rfl (less_b g4) rfl (ev_call en89 (lr _) (in_pure _ _ _) ⟨lr _, lr _, lr _, trivial⟩) ?_
     refine sq_ev rfl (ev_pickT (v := .raw _) (less_b g4) (lr _)) ?_
     refine mvr (lr _) rfl ?_
     refine sq_split 29 (lr _) (fun g5 => ?_) (fun g5 => ?_)
     ·
      have g5' := g5
      try simp only [qq] at g5'
      refine sq_yes rfl rfl (less_b g5) rfl (ev_load_agg (lr _) rfl ty27 rfl) ?_
      refine sq_yes rfl rfl (less_b g5) rfl (ev_call en91 (lr _) (scenes_pure _ hl) ⟨lr _, trivial⟩) ?_
      refine sq_ev rfl (ev_pickT (v := .raw _) (less_b g5) (lr _)) ?_
      refine asr (lr _) rfl ?_
      refine sq_nil (aw_ret ?_)
      exact retQ_pure (v := .raw _) rfl rfl (Less.eq (by simp [PlOK, *]))
     ·
      have g5' := g5
      try simp only [qq] at g5'
      refine sq_no rfl rfl (less_b g5) rfl rfl ?_
      refine sq_no rfl rfl (less_b g5) rfl rfl ?_
      refine sq_ev rfl (ev_pickF (v := .raw _) (less_b g5) (lr _)) ?_
      refine asr (lr _) rfl ?_
      refine sq_nil (aw_ret ?_)
      exact retQ_pure (v := .raw _) rfl rfl (Less.eq (by simp [PlOK, *]))
    ·
     have g4' := g4
     try simp only [qq] at g4'
     refine sq_no rfl rfl (less_b g4) rfl rfl ?_
     refine sq_no rfl rfl (less_b g4) rfl rfl ?_
     refine sq_no rfl rfl (less_b g4) rfl rfl ?_
     refine sq_no rfl rfl (less_b g4) rfl rfl ?_
     refine sq_ev rfl (ev_pickF (v := .raw _) (less_b g4) (lr _)) ?_
     refine mvr (lr _) rfl ?_
     refine sq_no rfl rfl (lr _) rfl rfl ?_
     refine sq_no rfl rfl (lr _) rfl rfl ?_
     refine sq_ev rfl (ev_pickF (v := .raw _) (lr _) (lr _)) ?_
     refine asr (lr _) rfl ?_
     refine sq_nil (aw_ret ?_)
     exact retQ_pure (v := .raw _) rfl rfl (Less.eq (by simp [PlOK, *]))
   ·
    have g3' := g3
    try simp only [qq] at g3'
    refine sq_no rfl rfl (less_b g3) rfl rfl ?_
    refine sq_no rfl rfl (less_b g3) rfl rfl ?_
    refine sq_no rfl rfl (less_b g3) rfl rfl ?_
    refine sq_ev rfl (ev_pickF (v := .raw _) (less_b g3) (lr _)) ?_
    refine mvr (lr _) rfl ?_
    refine sq_no rfl rfl (lr _) rfl rfl ?_
    refine sq_no rfl rfl (lr _) rfl rfl ?_
    refine sq_no rfl rfl (lr _) rfl rfl ?_
    refine sq_no rfl rfl (lr _) rfl rfl ?_
    refine sq_ev rfl (ev_pickF (v := .raw _) (lr _) (lr _)) ?_
    refine mvr (lr _) rfl ?_
    refine sq_no rfl rfl (lr _) rfl rfl ?_
    refine sq_no rfl rfl (lr _) rfl rfl ?_
    refine sq_ev rfl (ev_pickF (v := .raw _) (lr _) (lr _)) ?_
    refine asr (lr _) rfl ?_
    refine sq_nil (aw_ret ?_)
    exact retQ_pure (v := .raw _) rfl rfl (Less.eq (by simp [PlOK, *]))
  ·
   have g2' := g2
   try simp only [qq] at g2'
   refine sq_no rfl rfl (less_b g2) rfl rfl ?_
   refine sq_no rfl rfl (less_b g2) rfl rfl ?_
   refine sq_no rfl rfl (less_b g2) rfl rfl ?_
   refine sq_no rfl rfl (less_b g2) rfl rfl ?_
   refine sq_ev rfl (ev_pickF (v := .raw _) (less_b g2) (lr _)) ?_
   refine mvr (lr _) rfl ?_
   refine sq_no rfl rfl (lr _) rfl rfl ?_
   refine sq_no rfl rfl (lr _) rfl rfl ?_
   refine sq_no rfl rfl (lr _) rfl rfl ?_
   refine sq_ev rfl (ev_pickF (v := .raw _) (lr _) (lr _)) ?_
   refine mvr (lr _) rfl ?_
   refine sq_no rfl rfl (lr _) rfl rfl ?_
   refine sq_no rfl rfl (lr _) rfl rfl ?_
   refine sq_no rfl rfl (lr _) rfl rfl ?_
   refine sq_no rfl rfl (lr _) rfl rfl ?_
   refine sq_ev rfl (ev_pickF (v := .raw _) (lr _) (lr _)) ?_
   refine mvr (lr _) rfl ?_
   refine sq_no rfl rfl (lr _) rfl rfl ?_
   refine sq_no rfl rfl (lr _) rfl rfl ?_
   refine sq_ev rfl (ev_pickF (v := .raw _) (lr _) (lr _)) ?_
   refine asr (lr _) rfl ?_
   refine sq_nil (aw_ret ?_)
   exact retQ_pure (v := .raw _) rfl rfl (Less.eq (by simp [PlOK, *]))
 ·
  have g1' := g1
  try simp only [qq] at g1'
  refine sq_no rfl rfl (less_b g1) rfl rfl ?_
  refine sq_no rfl rfl (less_b g1) rfl rfl ?_
  refine sq_no rfl rfl (less_b g1) rfl rfl ?_
  refine sq_no rfl rfl (less_b g1) rfl rfl ?_
  refine sq_ev rfl (ev_pickF (v := .raw _) (less_b g1) (lr _)) ?_
  refine mvr (lr _) rfl ?_
  refine sq_no rfl rfl (lr _) rfl rfl ?_
  refine sq_no rfl rfl (lr _) rfl rfl ?_
  refine sq_no rfl rfl (lr _) rfl rfl ?_
  refine sq_no rfl rfl (lr _) rfl rfl ?_
  refine sq_ev rfl (ev_pickF (v := .raw _) (lr _) (lr _)) ?_
  refine mvr (lr _) rfl ?_
  refine sq_no rfl rfl (lr _) rfl rfl ?_
  refine sq_no rfl rfl (lr _) rfl rfl ?_
  refine sq_no rfl rfl (lr _) rfl rfl ?_
  refine sq_ev rfl (ev_pickF (v := .raw _) (lr _) (lr _)) ?_
  refine mvr (lr _) rfl ?_
  refine sq_no rfl rfl (lr _) rfl rfl ?_
  refine sq_no rfl rfl (lr _) rfl rfl ?_
  refine sq_no rfl rfl (lr _) rfl rfl ?_
  refine sq_no rfl rfl (lr _) rfl rfl ?_
  refine sq_ev rfl (ev_pickF (v := .raw _) (lr _) (lr _)) ?_
  refine mvr (lr _) rfl ?_
  refine sq_no rfl rfl (lr _) rfl rfl ?_
  refine sq_no rfl rfl (lr _) rfl rfl ?_
  refine sq_ev rfl (ev_pickF (v := .raw _) (lr _) (lr _)) ?_
  refine asr (lr _) rfl ?_
  refine sq_nil (aw_ret ?_)
  exact retQ_pure (v := .raw _) rfl rfl (Less.eq (by simp [PlOK, *]))

set_option maxHeartbeats 400000 in
/-- kelir/kelirref03.Scene -/
theorem scene_pure (p : Pl) (n : Int) (hl : p.scenes.length ≤ 1000000) : APure Tryz.prog 35 [plan p, I n] (B (isSc p n)) := by
 refine apure_of (rs := [.tmp 4]) Tryz.func35 rfl rfl (Nat.le_of_ble_eq_true rfl) (by simp [AV.pureL, AV.pureB, AV.pureE, pureE_map]) (rfl) fun e0 he0 => ?_
 refine aw_seq (aw_region ?_)
 refine sq_box rfl (lr _) rfl ?_
 refine asr (lr _) rfl ?_
 refine sq_nil (aw_seq (aw_region ?_))
 refine mvr (lr _) rfl ?_
 refine sq_ev rfl (ev_fieldAddr fo27_3 (lr _)) ?_
 refine sq_ev rfl (ev_load (lr _) rfl ty25 rfl) ?_
 refine sq_ev rfl (ev_len_map sl25 (lr _)) ?_
 refine sq_ev rfl (ev_sub (lr _) (lr _) (wr (by omega) (by omega))) ?_
 refine sq_ev rfl (ev_call en89 (lr _) (in_pure _ _ _) ⟨lr _, lr _, lr _, trivial⟩) ?_
 refine asr (lr _) rfl ?_
 refine sq_nil (aw_ret ?_)
 exact retQ_pure (v := .raw _) rfl rfl (Less.eq (by simp [isSc]))

set_option maxHeartbeats 400000 in
/-- kelir/kelirref03.Has -/
theorem has_pure (l : List Int) (n : Int) (hl : l.length ≤ 1000000) : APure Tryz.prog 62 [ints l, I n] (B (has l n)) := by
 refine apure_of (rs := [.tmp 4]) Tryz.func62 rfl rfl (Nat.le_of_ble_eq_true rfl) (by simp [AV.pureL, AV.pureB, AV.pureE, pureE_map]) (rfl) fun e0 he0 => ?_
 refine aw_seq (aw_region ?_)
 refine asr (lr _) rfl ?_
 refine sq_nil (aw_seq (aw_seq (aw_region ?_)))
 refine asr (lr _) rfl ?_
 refine sq_nil (aw_block ?_)
 refine aw_loopk (ι := { k : Nat // k ≤ l.length ∧ ∀ j, (h : j < l.length) → j < k → l[j] ≠ n }) [0, 1] (fun i => [(5, I i.1)]) (fun H i => H) (fun i => l.length - i.1) (⟨0, Nat.zero_le _, by omega⟩) ⟨lr _, lr _, lr _, trivial⟩ rfl ?_
 rintro ⟨k, hk, hok⟩
 dsimp only [keepS, St.put, sget, slotsOf, List.map_cons, List.map_nil, List.cons_append, List.nil_append, List.length_cons, List.length_nil, Nat.reduceBEq, Nat.reduceAdd, cond_true, cond_false]
 refine aw_seq (aw_seq (aw_region ?_))
 refine mvr (lr _) rfl ?_
 refine sq_ev rfl (ev_mv (v := .sl _ _) (lr _)) ?_
 refine sq_ev rfl (ev_len_map sl34 (lr _)) ?_
 refine sq_ev rfl (ev_lss (lr _) (lr _)) ?_
 refine sq_nil ?_
 refine aw_cond (lr _) (fun c1 => ?_) (fun c1 => ?_)
 ·
  have c1' := c1
  try simp only [qq] at c1'
  refine aw_skip (aw_seq (aw_block (aw_seq (aw_region ?_))))
  refine sq_ev rfl (ev_mv (v := .sl _ _) (lr _)) ?_
  refine mvr (lr _) rfl ?_
  refine sq_ev rfl (ev_index_map sl34 (lr _) (lr _) rfl (by omega)) ?_
  refine sq_ev rfl (ev_load_i (lr _) ty3 rfl) ?_
  refine mvr (lr _) rfl ?_
  refine sq_ev rfl (ev_eql (lr _) (lr _)) ?_
  refine sq_nil ?_
  refine aw_cond (lr _) (fun c2 => ?_) (fun c2 => ?_)
  ·
   have c2' := c2
   try simp only [qq] at c2'
   refine aw_seq (aw_region ?_)
   refine asr (lr _) rfl ?_
   refine sq_nil (aw_ret ?_)
   exact retQ_pure (v := .raw _) rfl rfl (Less.eq (by rw [has_yes (k := k) (by omega) c2']))
  ·
   have c2' := c2
   try simp only [qq] at c2'
   refine aw_skip (aw_region ?_)
   refine mvr (lr _) rfl ?_
   refine sq_ev rfl (ev_add (lr _) (lr _) (wr (by omega) (by omega))) ?_
   refine asr (lr _) rfl ?_
   refine sq_nil ?_
   exact ⟨⟨k + 1, by omega, fun j h hj => (by by_cases e : j = k; (subst e; exact c2'); exact hok j h (by omega))⟩, by simp only; omega, Sub.slots ⟨lr _, lr _, lr _, trivial⟩⟩
 ·
  have c1' := c1
  try simp only [qq] at c1'
  refine aw_exit (aw_seq (aw_region ?_))
  refine asr (lr _) rfl ?_
  refine sq_nil (aw_ret ?_)
  exact retQ_pure (v := .raw _) rfl rfl (Less.eq (by rw [has_no c1' hok]))

set_option maxHeartbeats 1000000 in
/-- kelir/kelirref03.Rising -/
theorem rising_pure (p : Pl) (l : List Int) (hp : p.scenes.length ≤ 1000000) (hl : l.length ≤ 1000000) : APure Tryz.prog 77 [plan p, ints l] (B (Ris p l)) := by
 refine apure_of (rs := [.tmp 4]) Tryz.func77 rfl rfl (Nat.le_of_ble_eq_true rfl) (by simp [AV.pureL, AV.pureB, AV.pureE, pureE_map]) (rfl) fun e0 he0 => ?_
 refine aw_seq (aw_region ?_)
 refine sq_box rfl (lr _) rfl ?_
 refine asr (lr _) rfl ?_
 refine sq_nil (aw_seq (aw_seq (aw_region ?_)))
 refine asr (lr _) rfl ?_
 refine sq_nil (aw_block ?_)
 refine aw_loopk (ι := { k : Nat // k ≤ l.length ∧ ∀ i, (h : i < l.length) → i < k → risBad p l i h = false }) [1, 2] (fun i => [(5, I i.1)]) (fun H i => H) (fun i => l.length - i.1) (⟨0, Nat.zero_le _, by omega⟩) ⟨lr _, lr _, lr _, trivial⟩ rfl ?_
 rintro ⟨k, hk, hok⟩
 dsimp only [keepS, St.put, sget, slotsOf, List.map_cons, List.map_nil, List.cons_append, List.nil_append, List.length_cons, List.length_nil, Nat.reduceBEq, Nat.reduceAdd, cond_true, cond_false]
 refine aw_seq (aw_seq (aw_region ?_))
 refine mvr (lr _) rfl ?_
 refine sq_ev rfl (ev_mv (v := .sl _ _) (lr _)) ?_
 refine sq_ev rfl (ev_len_map sl34 (lr _)) ?_
 refine sq_ev rfl (ev_lss (lr _) (lr _)) ?_
 refine sq_nil ?_
 refine aw_cond (lr _) (fun c1 => ?_) (fun c1 => ?_)
 ·
  have c1' := c1
  try simp only [qq] at c1'
  refine aw_skip (aw_seq (aw_block (aw_seq ?_)))
  refine aw_draw 23 mo (by kernel_rfl) ?_
  refine dr_ev rfl (ev_load_agg (lr _) rfl ty27 rfl) ?_
  refine dr_ev rfl (ev_mv (v := .sl _ _) (lr _)) ?_
  refine dr_ev rfl (ev_mv (v := .raw _) (lr _)) ?_
  refine dr_ev rfl (ev_index_map sl34 (lr _) (lr _) rfl (by omega)) ?_
  refine dr_ev rfl (ev_load_i (lr _) ty3 rfl) ?_
  refine dr_ev rfl (ev_call en35 (lr _) (scene_pure _ _ hp) ⟨lr _, lr _, trivial⟩) ?_
  refine dr_ev rfl (ev_not (lr _)) ?_
  refine dr_ev rfl (ev_mv (v := .raw _) (lr _)) ?_
  refine dr_split 19 (lr _) (fun g2 => ?_) (fun g2 => ?_)
  ·
   have g2' := g2
   try simp only [qq] at g2'
   refine dr_no rfl rfl (less_b g2) rfl rfl ?_
   refine dr_no rfl rfl (less_b g2) rfl rfl ?_
   refine dr_no rfl rfl (less_b g2) rfl rfl ?_
   refine dr_no rfl rfl (lr _) rfl rfl ?_
   refine dr_no rfl rfl (lr _) rfl rfl ?_
   refine dr_no rfl rfl (lr _) rfl rfl ?_
   refine dr_no rfl rfl (lr _) rfl rfl ?_
   refine dr_no rfl rfl (lr _) rfl rfl ?_
   refine dr_no rfl rfl (lr _) rfl rfl ?_
   refine dr_no rfl rfl (lr _) rfl rfl ?_
   refine dr_no rfl rfl (lr _) rfl rfl ?_
   refine dr_no rfl rfl (lr _) rfl rfl ?_
   refine dr_no rfl rfl (lr _) rfl rfl ?_
   refine dr_no rfl rfl (less_b g2) rfl rfl ?_
   refine dr_ev rfl (ev_pickT (v := .raw _) (less_b g2) (lr _)) ?_
   refine dr_end (sq_nil ?_)
   refine aw_true (lr _) ?_
   refine aw_seq (aw_region ?_)
   refine asr (lr _) rfl ?_
   refine sq_nil (aw_ret ?_)
   exact retQ_pure (v := .raw _) rfl rfl (Less.eq (by rw [Ris, okAll_bad (i := k) (by omega) (by first | (simp [risBad, *]; done) | (simp_all [risBad]; done))]))
  ·
   have g2' := g2
   try simp only [qq] at g2'
   refine dr_yes rfl rfl (less_b g2) rfl (ev_mv (v := .raw _) (lr _)) ?_
   refine dr_yes rfl rfl (less_b g2) rfl (ev_gtr (lr _) (lr _)) ?_
   refine dr_yes rfl rfl (less_b g2) rfl (ev_mv (v := .raw _) (lr _)) ?_
   refine dr_split 22 (lr _) (fun g3 => ?_) (fun g3 => ?_)
   ·
    have g3' := g3
    try simp only [qq] at g3'
    have g3n : 0 < k := by omega
    refine dr_yes rfl rfl (less_b g3) rfl (ev_mv (v := .sl _ _) (lr _)) ?_
    refine dr_yes rfl rfl (less_b g3) rfl (ev_mv (v := .raw _) (lr _)) ?_
    refine dr_yes rfl rfl (less_b g3) rfl (ev_index_map sl34 (lr _) (lr _) rfl (by omega)) ?_
    refine dr_yes rfl rfl (less_b g3) rfl (ev_load_i (lr _) ty3 rfl) ?_
    refine dr_yes rfl rfl (less_b g3) rfl (ev_mv (v := .sl _ _) (lr _)) ?_
    refine dr_yes rfl rfl (less_b g3) rfl (ev_mv (v := .raw _) (lr _)) ?_
    refine dr_yes rfl rfl (less_b g3) rfl (ev_sub (lr _) (lr _) (wr (by omega) (by omega))) ?_
    refine dr_yes rfl rfl (less_b g3) rfl (ev_index_map sl34 (lr _) (lr _) (show ((k : Int) - 1) = ((k - 1 : Nat) : Int) by omega) (by omega)) ?_
    refine dr_yes rfl rfl (less_b g3) rfl (ev_load_i (lr _) ty3 rfl) ?_
    refine dr_yes rfl rfl (less_b g3) rfl (ev_leq (lr _) (lr _)) ?_
    refine dr_yes rfl rfl (less_b g2) rfl (ev_pickT (v := .raw _) (less_b g3) (lr _)) ?_
    refine dr_ev rfl (ev_pickF (v := .raw _) (less_b g2) (lr _)) ?_
    refine dr_end (sq_nil ?_)
    refine aw_cond (lr _) (fun c4 => ?_) (fun c4 => ?_)
    ·
     have c4' := c4
     try simp only [qq] at c4'
     refine aw_seq (aw_region ?_)
     refine asr (lr _) rfl ?_
     refine sq_nil (aw_ret ?_)
     exact retQ_pure (v := .raw _) rfl rfl (Less.eq (by rw [Ris, okAll_bad (i := k) (by omega) (by first | (simp [risBad, *]; done) | (simp_all [risBad]; done))]))
    ·
     have c4' := c4
     try simp only [qq] at c4'
     refine aw_skip (aw_region ?_)
     refine mvr (lr _) rfl ?_
     refine sq_ev rfl (ev_add (lr _) (lr _) (wr (by omega) (by omega))) ?_
     refine asr (lr _) rfl ?_
     refine sq_nil ?_
     have hgood : risBad p l k (by omega) = false := by first | (simp [risBad, *]; done) | (simp_all [risBad]; done)
     exact ⟨⟨k + 1, by omega, fun i h hi => (by by_cases e : i = k; (subst e; exact hgood); exact hok i h (by omega))⟩, by simp only; omega, Sub.fin 1 ⟨lr _, lr _, lr _, trivial⟩ rfl (by simp [slotsIn, objsIn, sget, keepS, AObj.inB, AV.inB, AV.inL, AV.inE, inE_map]) (by simp [slotsIn, objsIn, sget, keepS, AObj.inB, AV.inB, AV.inL, AV.inE, inE_map]) (by simp [he0])⟩
   ·
    have g3' := g3
    try simp only [qq] at g3'
    have g3n : ¬ (0 < k) := by omega
    refine dr_no rfl rfl (less_b g3) rfl rfl ?_
    refine dr_no rfl rfl (less_b g3) rfl rfl ?_
    refine dr_no rfl rfl (less_b g3) rfl rfl ?_
    refine dr_no rfl rfl (less_b g3) rfl rfl ?_
    refine dr_no rfl rfl (less_b g3) rfl rfl ?_
    refine dr_no rfl rfl (less_b g3) rfl rfl ?_
    refine dr_no rfl rfl (less_b g3) rfl rfl ?_
    refine dr_no rfl rfl (less_b g3) rfl rfl ?_
    refine dr_no rfl rfl (less_b g3) rfl rfl ?_
    refine dr_no rfl rfl (less_b g3) rfl rfl ?_
    refine dr_yes rfl rfl (less_b g2) rfl (ev_pickF (v := .raw _) (less_b g3) (lr _)) ?_
    refine dr_ev rfl (ev_pickF (v := .raw _) (less_b g2) (lr _)) ?_
    refine dr_end (sq_nil ?_)
    refine aw_false (lr _) ?_
    refine aw_skip (aw_region ?_)
    refine mvr (lr _) rfl ?_
    refine sq_ev rfl (ev_add (lr _) (lr _) (wr (by omega) (by omega))) ?_
    refine asr (lr _) rfl ?_
    refine sq_nil ?_
    have hgood : risBad p l k (by omega) = false := by first | (simp [risBad, *]; done) | (simp_all [risBad]; done)
    exact ⟨⟨k + 1, by omega, fun i h hi => (by by_cases e : i = k; (subst e; exact hgood); exact hok i h (by omega))⟩, by simp only; omega, Sub.fin 1 ⟨lr _, lr _, lr _, trivial⟩ rfl (by simp [slotsIn, objsIn, sget, keepS, AObj.inB, AV.inB, AV.inL, AV.inE, inE_map]) (by simp [slotsIn, objsIn, sget, keepS, AObj.inB, AV.inB, AV.inL, AV.inE, inE_map]) (by simp [he0])⟩
 ·
  have c1' := c1
  try simp only [qq] at c1'
  refine aw_exit (aw_seq (aw_region ?_))
  refine asr (lr _) rfl ?_
  refine sq_nil (aw_ret ?_)
  exact retQ_pure (v := .raw _) rfl rfl (Less.eq (by rw [Ris, okAll_end hk c1' hok]))

set_option maxHeartbeats 2000000 in
/-- kelir/kelirref03.Choice -/
theorem choice_pure (p : Pl) (l : List Int) (hp : p.scenes.length ≤ 1000000) (hl : l.length ≤ 1000000) : APure Tryz.prog 78 [plan p, ints l] (B (isCh p l)) := by
 refine apure_of (rs := [.tmp 4]) Tryz.func78 rfl rfl (Nat.le_of_ble_eq_true rfl) (by simp [AV.pureL, AV.pureB, AV.pureE, pureE_map]) (rfl) fun e0 he0 => ?_
 refine aw_seq (aw_region ?_)
 refine sq_box rfl (lr _) rfl ?_
 refine asr (lr _) rfl ?_
 refine sq_nil (aw_seq (aw_seq (aw_region ?_)))
 refine asr (lr _) rfl ?_
 refine sq_nil (aw_block ?_)
 refine aw_loopk (ι := { k : Nat // k ≤ p.scenes.length ∧ ∀ i, (h : i < p.scenes.length) → i < k → chBad p l i h = false }) [1, 2] (fun i => [(5, I i.1)]) (fun H i => H) (fun i => p.scenes.length - i.1) (⟨0, Nat.zero_le _, by omega⟩) ⟨lr _, lr _, lr _, trivial⟩ rfl ?_
 rintro ⟨k, hk, hok⟩
 dsimp only [keepS, St.put, sget, slotsOf, List.map_cons, List.map_nil, List.cons_append, List.nil_append, List.length_cons, List.length_nil, Nat.reduceBEq, Nat.reduceAdd, cond_true, cond_false]
 refine aw_seq (aw_seq (aw_region ?_))
 refine mvr (lr _) rfl ?_
 refine sq_ev rfl (ev_fieldAddr fo27_3 (lr _)) ?_
 refine sq_ev rfl (ev_load (lr _) rfl ty25 rfl) ?_
 refine sq_ev rfl (ev_len_map sl25 (lr _)) ?_
 refine sq_ev rfl (ev_lss (lr _) (lr _)) ?_
 refine sq_nil ?_
 refine aw_cond (lr _) (fun c1 => ?_) (fun c1 => ?_)
 ·
  have c1' := c1
  try simp only [qq] at c1'
  refine aw_skip (aw_seq (aw_block (aw_seq (aw_region ?_))))
  refine sq_ev rfl (ev_fieldAddr fo27_3 (lr _)) ?_
  refine sq_ev rfl (ev_load (lr _) rfl ty25 rfl) ?_
  refine mvr (lr _) rfl ?_
  refine sq_ev rfl (ev_index_map sl25 (lr _) (lr _) rfl (by omega)) ?_
  refine sq_ev rfl (ev_load_agg_i (lr _) ty84 (Nat.le_of_ble_eq_true rfl)) ?_
  refine sq_alloc rfl z84 ?_
  refine sq_store rfl (lr _) (lr _) rfl rfl ty84 rfl rfl ?_
  refine sq_nil (aw_seq (aw_region ?_))
  refine sq_ev rfl (ev_mv (v := .sl _ _) (lr _)) ?_
  refine mvr (lr _) rfl ?_
  refine sq_ev rfl (ev_call en62 (lr _) (has_pure _ _ hl) ⟨lr _, lr _, trivial⟩) ?_
  refine sq_ev rfl (ev_not (lr _)) ?_
  refine mvr (lr _) rfl ?_
  refine sq_split 23 (lr _) (fun g2 => ?_) (fun g2 => ?_)
  ·
   have g2' := g2
   try simp only [qq] at g2'
   refine sq_yes rfl rfl (less_b g2) rfl (ev_fieldAddr fo84_3 (lr _)) ?_
   refine sq_yes rfl rfl (less_b g2) rfl (ev_load (lr _) rfl ty4 rfl) ?_
   refine sq_yes rfl rfl (less_b g2) rfl (ev_not (lr _)) ?_
   refine sq_ev rfl (ev_pickT (v := .raw _) (less_b g2) (lr _)) ?_
   refine mvr (lr _) rfl ?_
   refine sq_split 28 (lr _) (fun g3 => ?_) (fun g3 => ?_)
   ·
    have g3' := g3
    try simp only [qq] at g3'
    refine sq_no rfl rfl (less_b g3) rfl rfl ?_
    refine sq_no rfl rfl (less_b g3) rfl rfl ?_
    refine sq_no rfl rfl (less_b g3) rfl rfl ?_
    refine sq_no rfl rfl (less_b g3) rfl rfl ?_
    refine sq_no rfl rfl (lr _) rfl rfl ?_
    refine sq_no rfl rfl (lr _) rfl rfl ?_
    refine sq_no rfl rfl (lr _) rfl rfl ?_
    refine sq_no rfl rfl (less_b g3) rfl rfl ?_
    refine sq_no rfl rfl (less_b g3) rfl rfl ?_
    refine sq_no rfl rfl (lr _) rfl rfl ?_
    refine sq_no rfl rfl (lr _) rfl rfl ?_
    refine sq_no rfl rfl (lr _) rfl rfl ?_
    refine sq_no rfl rfl (lr _) rfl rfl ?_
    refine sq_no rfl rfl (lr _) rfl rfl ?_
    refine sq_no rfl rfl (less_b g3) rfl rfl ?_
    refine sq_ev rfl (ev_pickT (v := .raw _) (less_b g3) (lr _)) ?_
    refine sq_nil ?_
    refine aw_true (lr _) ?_
    refine aw_seq (aw_region ?_)
    refine asr (lr _) rfl ?_
    refine sq_nil (aw_ret ?_)
    exact retQ_pure (v := .raw _) rfl rfl (Less.eq (by rw [isCh, okAll_bad (i := k) (by omega) (by first | (simp [chBad, *]; done) | (simp_all [chBad]; done))]))
   ·
    have g3' := g3
    try simp only [qq] at g3'
    refine sq_yes rfl rfl (less_b g3) rfl (ev_mv (v := .sl _ _) (lr _)) ?_
    refine sq_yes rfl rfl (less_b g3) rfl (ev_mv (v := .raw _) (lr _)) ?_
    refine sq_yes rfl rfl (less_b g3) rfl (ev_call en62 (lr _) (has_pure _ _ hl) ⟨lr _, lr _, trivial⟩) ?_
    refine sq_yes rfl rfl (less_b g3) rfl (ev_mv (v := .raw _) (lr _)) ?_
    refine sq_split 32 (lr _) (fun g4 => ?_) (fun g4 => ?_)
    ·
     have g4' := g4
     try simp only [qq] at g4'
     refine sq_yes rfl rfl (less_b g4) rfl (ev_fieldAddr fo84_4 (lr _)) ?_
     refine sq_yes rfl rfl (less_b g4) rfl (ev_load (lr _) rfl ty3 rfl) ?_
     refine sq_yes rfl rfl (less_b g4) rfl (ev_geq (lr _) (lr _)) ?_
     refine sq_yes rfl rfl (less_b g3) rfl (ev_pickT (v := .raw _) (less_b g4) (lr _)) ?_
     refine sq_yes rfl rfl (less_b g3) rfl (ev_mv (v := .raw _) (lr _)) ?_
     refine sq_split 37 (lr _) (fun g5 => ?_) (fun g5 => ?_)
     ·
      have g5' := g5
      try simp only [qq] at g5'
      refine sq_yes rfl rfl (less_b g5) rfl (ev_mv (v := .sl _ _) (lr _)) ?_
      refine sq_yes rfl rfl (less_b g5) rfl (ev_fieldAddr fo84_4 (lr _)) ?_
      refine sq_yes rfl rfl (less_b g5) rfl (ev_load (lr _) rfl ty3 rfl) ?_
      refine sq_yes rfl rfl (less_b g5) rfl (ev_call en62 (lr _) (has_pure _ _ hl) ⟨lr _, lr _, trivial⟩) ?_
      refine sq_yes rfl rfl (less_b g5) rfl (ev_not (lr _)) ?_
      refine sq_yes rfl rfl (less_b g3) rfl (ev_pickT (v := .raw _) (less_b g5) (lr _)) ?_
      refine sq_ev rfl (ev_pickF (v := .raw _) (less_b g3) (lr _)) ?_
      refine sq_nil ?_
      refine aw_cond (lr _) (fun c6 => ?_) (fun c6 => ?_)
      ·
       have c6' := c6
       try simp only [qq] at c6'
       refine aw_seq (aw_region ?_)
       refine asr (lr _) rfl ?_
       refine sq_nil (aw_ret ?_)
       exact retQ_pure (v := .raw _) rfl rfl (Less.eq (by rw [isCh, okAll_bad (i := k) (by omega) (by first | (simp [chBad, *]; done) | (simp_all [chBad]; done))]))
      ·
       have c6' := c6
       try simp only [qq] at c6'
       refine aw_skip (aw_region ?_)
       refine mvr (lr _) rfl ?_
       refine sq_ev rfl (ev_add (lr _) (lr _) (wr (by omega) (by omega))) ?_
       refine asr (lr _) rfl ?_
       refine sq_nil ?_
       have hgood : chBad p l k (by omega) = false := by first | (simp [chBad, *]; done) | (simp_all [chBad]; done)
       exact ⟨⟨k + 1, by omega, fun i h hi => (by by_cases e : i = k; (subst e; exact hgood); exact hok i h (by omega))⟩, by simp only; omega, Sub.fin 1 ⟨lr _, lr _, lr _, trivial⟩ rfl (by simp [slotsIn, objsIn, sget, keepS, AObj.inB, AV.inB, AV.inL, AV.inE, inE_map]) (by simp [slotsIn, objsIn, sget, keepS, AObj.inB, AV.inB, AV.inL, AV.inE, inE_map]) (by simp [he0])⟩
     ·
      have g5' := g5
      try simp only [qq] at g5'
      refine sq_no rfl rfl (less_b g5) rfl rfl ?_
      refine sq_no rfl rfl (less_b g5) rfl rfl ?_
      refine sq_no rfl rfl (less_b g5) rfl rfl ?_
      refine sq_no rfl rfl (less_b g5) rfl rfl ?_
      refine sq_no rfl rfl (less_b g5) rfl rfl ?_
      refine sq_yes rfl rfl (less_b g3) rfl (ev_pickF (v := .raw _) (less_b g5) (lr _)) ?_
      refine sq_ev rfl (ev_pickF (v := .raw _) (less_b g3) (lr _)) ?_
      refine sq_nil ?_
      refine aw_false (lr _) ?_
      refine aw_skip (aw_region ?_)
      refine mvr (lr _) rfl ?_
      refine sq_ev rfl (ev_add (lr _) (lr _) (wr (by omega) (by omega))) ?_
      refine asr (lr _) rfl ?_
      refine sq_nil ?_
      have hgood : chBad p l k (by omega) = false := by first | (simp [chBad, *]; done) | (simp_all [chBad]; done)
      exact ⟨⟨k + 1, by omega, fun i h hi => (by by_cases e : i = k; (subst e; exact hgood); exact hok i h (by omega))⟩, by simp only; omega, Sub.fin 1 ⟨lr _, lr _, lr _, trivial⟩ rfl (by simp [slotsIn, objsIn, sget, keepS, AObj.inB, AV.inB, AV.inL, AV.inE, inE_map]) (by simp [slotsIn, objsIn, sget, keepS, AObj.inB, AV.inB, AV.inL, AV.inE, inE_map]) (by simp [he0])⟩
    ·
     have g4' := g4
     try simp only [qq] at g4'
     refine sq_no rfl rfl (less_b g4) rfl rfl ?_
     refine sq_no rfl rfl (less_b g4) rfl rfl ?_
     refine sq_no rfl rfl (less_b g4) rfl rfl ?_
     refine sq_yes rfl rfl (less_b g3) rfl (ev_pickF (v := .raw _) (less_b g4) (lr _)) ?_
     refine sq_yes rfl rfl (less_b g3) rfl (ev_mv (v := .raw _) (lr _)) ?_
     refine sq_no rfl rfl (lr _) rfl rfl ?_
     refine sq_no rfl rfl (lr _) rfl rfl ?_
     refine sq_no rfl rfl (lr _) rfl rfl ?_
     refine sq_no rfl rfl (lr _) rfl rfl ?_
     refine sq_no rfl rfl (lr _) rfl rfl ?_
     refine sq_yes rfl rfl (less_b g3) rfl (ev_pickF (v := .raw _) (lr _) (lr _)) ?_
     refine sq_ev rfl (ev_pickF (v := .raw _) (less_b g3) (lr _)) ?_
     refine sq_nil ?_
     refine aw_false (lr _) ?_
     refine aw_skip (aw_region ?_)
     refine mvr (lr _) rfl ?_
     refine sq_ev rfl (ev_add (lr _) (lr _) (wr (by omega) (by omega))) ?_
     refine asr (lr _) rfl ?_
     refine sq_nil ?_
     have hgood : chBad p l k (by omega) = false := by first | (simp [chBad, *]; done) | (simp_all [chBad]; done)
     exact ⟨⟨k + 1, by omega, fun i h hi => (by by_cases e : i = k; (subst e; exact hgood); exact hok i h (by omega))⟩, by simp only; omega, Sub.fin 1 ⟨lr _, lr _, lr _, trivial⟩ rfl (by simp [slotsIn, objsIn, sget, keepS, AObj.inB, AV.inB, AV.inL, AV.inE, inE_map]) (by simp [slotsIn, objsIn, sget, keepS, AObj.inB, AV.inB, AV.inL, AV.inE, inE_map]) (by simp [he0])⟩
  ·
   have g2' := g2
   try simp only [qq] at g2'
   refine sq_no rfl rfl (less_b g2) rfl rfl ?_
   refine sq_no rfl rfl (less_b g2) rfl rfl ?_
   refine sq_no rfl rfl (less_b g2) rfl rfl ?_
   refine sq_ev rfl (ev_pickF (v := .raw _) (less_b g2) (lr _)) ?_
   refine mvr (lr _) rfl ?_
   refine sq_yes rfl rfl (lr _) rfl (ev_mv (v := .sl _ _) (lr _)) ?_
   refine sq_yes rfl rfl (lr _) rfl (ev_mv (v := .raw _) (lr _)) ?_
   refine sq_yes rfl rfl (lr _) rfl (ev_call en62 (lr _) (has_pure _ _ hl) ⟨lr _, lr _, trivial⟩) ?_
   refine sq_yes rfl rfl (lr _) rfl (ev_mv (v := .raw _) (lr _)) ?_
   refine sq_split 32 (lr _) (fun g7 => ?_) (fun g7 => ?_)
   ·
    have g7' := g7
    try simp only [qq] at g7'
    refine sq_yes rfl rfl (less_b g7) rfl (ev_fieldAddr fo84_4 (lr _)) ?_
    refine sq_yes rfl rfl (less_b g7) rfl (ev_load (lr _) rfl ty3 rfl) ?_
    refine sq_yes rfl rfl (less_b g7) rfl (ev_geq (lr _) (lr _)) ?_
    refine sq_yes rfl rfl (lr _) rfl (ev_pickT (v := .raw _) (less_b g7) (lr _)) ?_
    refine sq_yes rfl rfl (lr _) rfl (ev_mv (v := .raw _) (lr _)) ?_
    refine sq_split 37 (lr _) (fun g8 => ?_) (fun g8 => ?_)
    ·
     have g8' := g8
     try simp only [qq] at g8'
     refine sq_yes rfl rfl (less_b g8) rfl (ev_mv (v := .sl _ _) (lr _)) ?_
     refine sq_yes rfl rfl (less_b g8) rfl (ev_fieldAddr fo84_4 (lr _)) ?_
     refine sq_yes rfl rfl (less_b g8) rfl (ev_load (lr _) rfl ty3 rfl) ?_
     refine sq_yes rfl rfl (less_b g8) rfl (ev_call en62 (lr _) (has_pure _ _ hl) ⟨lr _, lr _, trivial⟩) ?_
     refine sq_yes rfl rfl (less_b g8) rfl (ev_not (lr _)) ?_
     refine sq_yes rfl rfl (lr _) rfl (ev_pickT (v := .raw _) (less_b g8) (lr _)) ?_
     refine sq_ev rfl (ev_pickF (v := .raw _) (lr _) (lr _)) ?_
     refine sq_nil ?_
     refine aw_cond (lr _) (fun c9 => ?_) (fun c9 => ?_)
     ·
      have c9' := c9
      try simp only [qq] at c9'
      refine aw_seq (aw_region ?_)
      refine asr (lr _) rfl ?_
      refine sq_nil (aw_ret ?_)
      exact retQ_pure (v := .raw _) rfl rfl (Less.eq (by rw [isCh, okAll_bad (i := k) (by omega) (by first | (simp [chBad, *]; done) | (simp_all [chBad]; done))]))
     ·
      have c9' := c9
      try simp only [qq] at c9'
      refine aw_skip (aw_region ?_)
      refine mvr (lr _) rfl ?_
      refine sq_ev rfl (ev_add (lr _) (lr _) (wr (by omega) (by omega))) ?_
      refine asr (lr _) rfl ?_
      refine sq_nil ?_
      have hgood : chBad p l k (by omega) = false := by first | (simp [chBad, *]; done) | (simp_all [chBad]; done)
      exact ⟨⟨k + 1, by omega, fun i h hi => (by by_cases e : i = k; (subst e; exact hgood); exact hok i h (by omega))⟩, by simp only; omega, Sub.fin 1 ⟨lr _, lr _, lr _, trivial⟩ rfl (by simp [slotsIn, objsIn, sget, keepS, AObj.inB, AV.inB, AV.inL, AV.inE, inE_map]) (by simp [slotsIn, objsIn, sget, keepS, AObj.inB, AV.inB, AV.inL, AV.inE, inE_map]) (by simp [he0])⟩
    ·
     have g8' := g8
     try simp only [qq] at g8'
     refine sq_no rfl rfl (less_b g8) rfl rfl ?_
     refine sq_no rfl rfl (less_b g8) rfl rfl ?_
     refine sq_no rfl rfl (less_b g8) rfl rfl ?_
     refine sq_no rfl rfl (less_b g8) rfl rfl ?_
     refine sq_no rfl rfl (less_b g8) rfl rfl ?_
     refine sq_yes rfl rfl (lr _) rfl (ev_pickF (v := .raw _) (less_b g8) (lr _)) ?_
     refine sq_ev rfl (ev_pickF (v := .raw _) (lr _) (lr _)) ?_
     refine sq_nil ?_
     refine aw_false (lr _) ?_
     refine aw_skip (aw_region ?_)
     refine mvr (lr _) rfl ?_
     refine sq_ev rfl (ev_add (lr _) (lr _) (wr (by omega) (by omega))) ?_
     refine asr (lr _) rfl ?_
     refine sq_nil ?_
     have hgood : chBad p l k (by omega) = false := by first | (simp [chBad, *]; done) | (simp_all [chBad]; done)
     exact ⟨⟨k + 1, by omega, fun i h hi => (by by_cases e : i = k; (subst e; exact hgood); exact hok i h (by omega))⟩, by simp only; omega, Sub.fin 1 ⟨lr _, lr _, lr _, trivial⟩ rfl (by simp [slotsIn, objsIn, sget, keepS, AObj.inB, AV.inB, AV.inL, AV.inE, inE_map]) (by simp [slotsIn, objsIn, sget, keepS, AObj.inB, AV.inB, AV.inL, AV.inE, inE_map]) (by simp [he0])⟩
   ·
    have g7' := g7
    try simp only [qq] at g7'
    refine sq_no rfl rfl (less_b g7) rfl rfl ?_
    refine sq_no rfl rfl (less_b g7) rfl rfl ?_
    refine sq_no rfl rfl (less_b g7) rfl rfl ?_
    refine sq_yes rfl rfl (lr _) rfl (ev_pickF (v := .raw _) (less_b g7) (lr _)) ?_
    refine sq_yes rfl rfl (lr _) rfl (ev_mv (v := .raw _) (lr _)) ?_
    refine sq_no rfl rfl (lr _) rfl rfl ?_
    refine sq_no rfl rfl (lr _) rfl rfl ?_
    refine sq_no rfl rfl (lr _) rfl rfl ?_
    refine sq_no rfl rfl (lr _) rfl rfl ?_
    refine sq_no rfl rfl (lr _) rfl rfl ?_
    refine sq_yes rfl rfl (lr _) rfl (ev_pickF (v := .raw _) (lr _) (lr _)) ?_
    refine sq_ev rfl (ev_pickF (v := .raw _) (lr _) (lr _)) ?_
    refine sq_nil ?_
    refine aw_false (lr _) ?_
    refine aw_skip (aw_region ?_)
    refine mvr (lr _) rfl ?_
    refine sq_ev rfl (ev_add (lr _) (lr _) (wr (by omega) (by omega))) ?_
    refine asr (lr _) rfl ?_
    refine sq_nil ?_
    have hgood : chBad p l k (by omega) = false := by first | (simp [chBad, *]; done) | (simp_all [chBad]; done)
    exact ⟨⟨k + 1, by omega, fun i h hi => (by by_cases e : i = k; (subst e; exact hgood); exact hok i h (by omega))⟩, by simp only; omega, Sub.fin 1 ⟨lr _, lr _, lr _, trivial⟩ rfl (by simp [slotsIn, objsIn, sget, keepS, AObj.inB, AV.inB, AV.inL, AV.inE, inE_map]) (by simp [slotsIn, objsIn, sget, keepS, AObj.inB, AV.inB, AV.inL, AV.inE, inE_map]) (by simp [he0])⟩
 ·
  have c1' := c1
  try simp only [qq] at c1'
  refine aw_exit (aw_seq (aw_region ?_))
  refine asr (lr _) rfl ?_
  refine sq_nil (aw_ret ?_)
  exact retQ_pure (v := .raw _) rfl rfl (Less.eq (by rw [isCh, okAll_end hk c1' hok]))


end Go.Proofs.YtjghdbdiejaacaaGreatDoor

namespace Go.Proofs.YtjghdbdiejaacaaGreatDoor
open Go Go.Ab Ni
theorem en78 : Ent Tryz.prog 78 := Ent.of Tryz.func78 (by kernel_rfl) rfl
end Go.Proofs.YtjghdbdiejaacaaGreatDoor

namespace Go.Proofs.YtjghdbdiejaacaaGreatDoor
open Go Go.Ab Ni
section
variable {r : Option Nat} {H : List AObj} {ρ : Operand → AV} {d : Option Tmp} {t : TypeId} {p : String} {af : Array Edge} {g : Option (Nat × Bool)} {x y : Operand} {yt : TypeId} {a b c e : Int}
end
set_option maxHeartbeats 400000 in
/-- kelir/kelirlaw03.short -/
theorem rshort_pure (p : Pl) : APure Tryz.prog 20 [plan p] (B (decide (p.scenes.length ≤ 12))) := by
 refine apure_of (rs := [.tmp 2]) Tryz.func20 rfl rfl (Nat.le_of_ble_eq_true rfl) (by simp [AV.pureL, AV.pureB, AV.pureE, pureE_map]) (rfl) fun e0 he0 => ?_
 refine aw_seq (aw_region ?_)
 refine sq_box rfl (lr _) rfl ?_
 refine asr (lr _) rfl ?_
 refine sq_nil (aw_seq (aw_region ?_))
 refine sq_ev rfl (ev_fieldAddr fo27_3 (lr _)) ?_
 refine sq_ev rfl (ev_load (lr _) rfl ty25 rfl) ?_
 refine sq_ev rfl (ev_len_map sl25 (lr _)) ?_
 refine sq_ev rfl (ev_leq (lr _) (lr _)) ?_
 refine asr (lr _) rfl ?_
 refine sq_nil (aw_ret ?_)
 exact retQ_pure (v := .raw _) rfl rfl (Less.eq (by simp; omega))


end Go.Proofs.YtjghdbdiejaacaaGreatDoor

namespace Go.Proofs.YtjghdbdiejaacaaGreatDoor
open Go Go.Ab Ni
theorem en20 : Ent Tryz.prog 20 := Ent.of Tryz.func20 (by kernel_rfl) rfl
theorem en21 : Ent Tryz.prog 21 := Ent.of Tryz.func21 (by kernel_rfl) rfl
theorem en24 : Ent Tryz.prog 24 := Ent.of Tryz.func24 (by kernel_rfl) rfl
theorem short_no {p : Pl} (h : ¬ p.scenes.length ≤ 12) : APure Tryz.prog 20 [plan p] (B false) := by have := rshort_pure p; simpa [h] using this
theorem short_yes {p : Pl} (h : p.scenes.length ≤ 12) : APure Tryz.prog 20 [plan p] (B true) := by have := rshort_pure p; simpa [h] using this
theorem plan_no {p : Pl} (hs : p.scenes.length ≤ 12) (h : PlOK p = false) : APure Tryz.prog 24 [plan p] (B false) := by have := plan_pure p (by omega); rwa [h] at this
theorem plan_yes {p : Pl} (hs : p.scenes.length ≤ 12) (h : PlOK p = true) : APure Tryz.prog 24 [plan p] (B true) := by have := plan_pure p (by omega); rwa [h] at this
end Go.Proofs.YtjghdbdiejaacaaGreatDoor

namespace Go.Proofs.YtjghdbdiejaacaaGreatDoor
open Go Go.Ab Ni
theorem has_nats (l : List Nat) (v : Nat) (hl : l.length ≤ 1000000) : APure Tryz.prog 62 [nats l, I v] (B (decide (v ∈ l))) := by
  have h := has_pure (up l) v (by simpa [up] using hl)
  unfold has at h
  have e1 : decide ((v : Int) ∈ up l) = decide (v ∈ l) := by
    refine decide_eq_decide.2 ?_
    simp only [up, List.mem_map]
    exact ⟨fun ⟨a, h1, h2⟩ => by
      obtain rfl : a = v := by omega
      exact h1, fun h => ⟨v, h, rfl⟩⟩
  have e2 : ints (up l) = nats l := by simp [up]
  rw [e1, e2] at h; exact h
theorem pd_yes {p : Pl} (hs : p.scenes.length ≤ 12) (h : PlOK p = true) (k : ¬ (choicesC p).length = 0) : APure Tryz.prog 42 [plan p] (.tup [ints (wordsT p p.scenes.length), I 0]) := by have := nPlayed_pure p (by omega); unfold playedAV at this; rw [if_pos h, if_neg k] at this; exact this
end Go.Proofs.YtjghdbdiejaacaaGreatDoor

namespace Go.Proofs.YtjghdbdiejaacaaGreatDoor
open Go Go.Ab Ni
theorem en45 : Ent Tryz.prog 45 := Ent.of Tryz.func45 (by kernel_rfl) rfl
theorem en47 : Ent Tryz.prog 47 := Ent.of Tryz.func47 (by kernel_rfl) rfl
theorem en77 : Ent Tryz.prog 77 := Ent.of Tryz.func77 (by kernel_rfl) rfl

set_option maxHeartbeats 400000 in
/-- kelir/kelirlaw03.slim -/
theorem rslim_pure (l : List Int) : APure Tryz.prog 45 [ints l] (B (decide (l.length ≤ 12))) := by
 refine apure_of (rs := [.tmp 2]) Tryz.func45 rfl rfl (Nat.le_of_ble_eq_true rfl) (by simp [AV.pureL, AV.pureB, AV.pureE, pureE_map]) (rfl) fun e0 he0 => ?_
 refine aw_seq (aw_region ?_)
 refine asr (lr _) rfl ?_
 refine sq_nil (aw_seq (aw_region ?_))
 refine sq_ev rfl (ev_mv (v := .sl _ _) (lr _)) ?_
 refine sq_ev rfl (ev_len_map sl34 (lr _)) ?_
 refine sq_ev rfl (ev_leq (lr _) (lr _)) ?_
 refine asr (lr _) rfl ?_
 refine sq_nil (aw_ret ?_)
 exact retQ_pure (v := .raw _) rfl rfl (Less.eq (by simp; omega))

set_option maxHeartbeats 400000 in
/-- kelir/kelirlaw03.choice -/
theorem rchoice_pure (p : Pl) (l : List Int) (hp : p.scenes.length ≤ 1000000) (hl : l.length ≤ 1000000) : APure Tryz.prog 47 [plan p, ints l] (B (Ris p l && isCh p l)) := by
 refine apure_of (rs := [.tmp 4]) Tryz.func47 rfl rfl (Nat.le_of_ble_eq_true rfl) (by simp [AV.pureL, AV.pureB, AV.pureE, pureE_map]) (rfl) fun e0 he0 => ?_
 refine aw_seq (aw_region ?_)
 refine sq_box rfl (lr _) rfl ?_
 refine asr (lr _) rfl ?_
 refine sq_nil (aw_seq (aw_region ?_))
 refine sq_ev rfl (ev_load_agg (lr _) rfl ty27 rfl) ?_
 refine sq_ev rfl (ev_mv (v := .sl _ _) (lr _)) ?_
 refine sq_ev rfl (ev_call en77 (lr _) (rising_pure p l hp hl) ⟨lr _, lr _, trivial⟩) ?_
 refine mvr (lr _) rfl ?_
 refine sq_split 8 (lr _) (fun g1 => ?_) (fun g1 => ?_)
 ·
  have g1' := g1
  try simp only [qq] at g1'
  refine sq_yes rfl rfl (less_b g1) rfl (ev_load_agg (lr _) rfl ty27 rfl) ?_
  refine sq_yes rfl rfl (less_b g1) rfl (ev_mv (v := .sl _ _) (lr _)) ?_
  refine sq_yes rfl rfl (less_b g1) rfl (ev_call en78 (lr _) (choice_pure p l hp hl) ⟨lr _, lr _, trivial⟩) ?_
  refine sq_ev rfl (ev_pickT (v := .raw _) (less_b g1) (lr _)) ?_
  refine asr (lr _) rfl ?_
  refine sq_nil (aw_ret ?_)
  exact retQ_pure (v := .raw _) rfl rfl (Less.eq (by simp [*]))
 ·
  have g1' := g1
  try simp only [qq] at g1'
  refine sq_no rfl rfl (less_b g1) rfl rfl ?_
  refine sq_no rfl rfl (less_b g1) rfl rfl ?_
  refine sq_no rfl rfl (less_b g1) rfl rfl ?_
  refine sq_ev rfl (ev_pickF (v := .raw _) (less_b g1) (lr _)) ?_
  refine asr (lr _) rfl ?_
  refine sq_nil (aw_ret ?_)
  exact retQ_pure (v := .raw _) rfl rfl (Less.eq (by simp [*]))

end Go.Proofs.YtjghdbdiejaacaaGreatDoor

namespace Go.Proofs.YtjghdbdiejaacaaGreatDoor
open Go Go.Ab Ni
theorem en58 : Ent Tryz.prog 58 := Ent.of Tryz.func58 (by kernel_rfl) rfl
theorem en59 : Ent Tryz.prog 59 := Ent.of Tryz.func59 (by kernel_rfl) rfl
theorem en61 : Ent Tryz.prog 61 := Ent.of Tryz.func61 (by kernel_rfl) rfl
def nfitsAV (p : Pl) (l ls : List Int) : AV := if chosenB p l = true ∧ lastsP p (dn l) ls = true then .tup [B (canP (pFF p (dn l) ls) (dn l)), I 0] else .tup [B false, I 2]
theorem nfitsAV_pure (p : Pl) (l ls : List Int) : (nfitsAV p l ls).pureB = true := by unfold nfitsAV; split <;> rfl
theorem lasts_len {p : Pl} {l : List Nat} {ls : List Int} (h : l.length ≠ ls.length) : lastsP p l ls = false := by simp [lastsP, h]
theorem lasts_bad {p : Pl} {l : List Nat} {ls : List Int} {i : Nat} (h : i < l.length) (hb : lsBad p l ls i h = true) : lastsP p l ls = false := by
  unfold lastsP; rw [okAll_bad h hb, Bool.and_false]
theorem lasts_end {p : Pl} {l : List Nat} {ls : List Int} (hl : l.length = ls.length) {k : Nat} (hk : k ≤ l.length) (hn : ¬ (k : Int) < l.length) (h : ∀ i, (h : i < l.length) → i < k → lsBad p l ls i h = false) : lastsP p l ls = true := by
  unfold lastsP; rw [okAll_end hk hn h, Bool.and_true]; simpa using hl
theorem endI_bd {p : Pl} {l : List Nat} {ls : List Int} (gp : GP p) (hls : l.length = ls.length) (hb : ∀ x ∈ ls, 0 ≤ x ∧ x ≤ 10000) (k : Int) : ∀ i, i ≤ l.length → -10000 ≤ endI p l ls k i ∧ endI p l ls k i ≤ 10000 + 10000 * i
  | 0, _ => by have := gp.beg; simp only [endI]; omega
  | i + 1, hi => by
    have ih := endI_bd gp hls hb k i (by omega)
    have hv := hb _ (List.getElem_mem (show i < ls.length by omega))
    rw [endI, getD_at (show i < ls.length by omega)]
    split <;> omega
theorem lasts_bds {p : Pl} {l : List Nat} {ls : List Int} (gp : GP p) (cv : CV p l) (h : lastsP p l ls = true) : ∀ x ∈ ls, 0 ≤ x ∧ x ≤ 10000 := fun x hx => by
  obtain ⟨hl, hv⟩ := lasts_at h
  obtain ⟨i, hi, rfl⟩ := List.getElem_of_mem hx
  have := hv i (by omega)
  rw [getD_at hi] at this
  have a1 := gp.least (cv.rng _ (List.getElem_mem (show i < l.length by omega)))
  have a2 := gp.most (cv.rng _ (List.getElem_mem (show i < l.length by omega)))
  omega
theorem parts_ok {p : Pl} (h : PlOK p = true) {l : List Nat} (cv : CV p l) : ∀ x ∈ l, 0 ≤ (scn p x).part ∧ (scn p x).part ≤ 2 := fun x hx => by
  obtain ⟨k, hk, hk3⟩ := partOf_ok h (cv.rng x hx); omega
set_option maxHeartbeats 2000000 in
/-- kelir/night.Fits -/
theorem nFits_pure (p : Pl) (l ls : List Int) (hp : p.scenes.length ≤ 1000000) (hl : l.length ≤ 1000000) : APure Tryz.prog 59 [plan p, ints l, ints ls] (nfitsAV p l ls) := by
 refine apure_of (rs := [.tmp 6, .tmp 7]) Tryz.func59 rfl rfl (Nat.le_of_ble_eq_true rfl) (by simp [AV.pureL, AV.pureB, AV.pureE, pureE_map]) (nfitsAV_pure p l ls) fun e0 he0 => ?_
 refine aw_seq (aw_region ?_)
 refine sq_box rfl (lr _) rfl ?_
 refine asr (lr _) rfl ?_
 refine asr (lr _) rfl ?_
 refine sq_nil (aw_seq (aw_region ?_))
 refine sq_ev rfl (ev_load_agg (lr _) rfl ty27 rfl) ?_
 refine sq_ev rfl (ev_mv (v := .sl _ _) (lr _)) ?_
 refine sq_ev rfl (ev_call en107 (lr _) (nchosen_pure p l hp hl) ⟨lr _, lr _, trivial⟩) ?_
 refine sq_ev rfl (ev_mv (v := .tup _) (lr _)) ?_
 refine sq_ev rfl (ev_extract (lr _) rfl) ?_
 refine sq_ev rfl (ev_extract (lr _) rfl) ?_
 refine sq_alloc rfl z110 ?_
 refine sq_store rfl (lr _) (lr _) rfl rfl ty110 rfl rfl ?_
 refine asr (lr _) rfl ?_
 refine sq_nil (aw_seq (aw_seq (aw_region ?_)))
 refine mvr (lr _) rfl ?_
 refine sq_ev rfl (ev_not (lr _)) ?_
 refine mvr (lr _) rfl ?_
 refine sq_split 20 (lr _) (fun g1 => ?_) (fun g1 => ?_)
 ·
  have g1' := g1
  try simp only [qq] at g1'
  refine sq_no rfl rfl (less_b g1) rfl rfl ?_
  refine sq_no rfl rfl (less_b g1) rfl rfl ?_
  refine sq_no rfl rfl (less_b g1) rfl rfl ?_
  refine sq_no rfl rfl (less_b g1) rfl rfl ?_
  refine sq_no rfl rfl (less_b g1) rfl rfl ?_
  refine sq_ev rfl (ev_pickT (v := .raw _) (less_b g1) (lr _)) ?_
  refine sq_nil ?_
  refine aw_true (lr _) ?_
  refine aw_seq (aw_region ?_)
  refine asr (lr _) rfl ?_
  refine asr (lr _) rfl ?_
  refine sq_nil (aw_ret ?_)
  exact retQ_pure (v := .tup [.raw _, .raw _]) rfl rfl (Less.eq (by rw [nfitsAV, if_neg (fun h => by rw [h.1] at g1'; cases g1')]))
 ·
  have g1' := g1
  try simp only [qq] at g1'
  refine sq_yes rfl rfl (less_b g1) rfl (ev_mv (v := .sl _ _) (lr _)) ?_
  refine sq_yes rfl rfl (less_b g1) rfl (ev_len_map sl34 (lr _)) ?_
  refine sq_yes rfl rfl (less_b g1) rfl (ev_mv (v := .sl _ _) (lr _)) ?_
  refine sq_yes rfl rfl (less_b g1) rfl (ev_len_map sl34 (lr _)) ?_
  refine sq_yes rfl rfl (less_b g1) rfl (ev_neq (lr _) (lr _)) ?_
  refine sq_ev rfl (ev_pickF (v := .raw _) (less_b g1) (lr _)) ?_
  refine sq_nil ?_
  refine aw_cond (lr _) (fun c2 => ?_) (fun c2 => ?_)
  ·
   have c2' := c2
   try simp only [qq] at c2'
   refine aw_seq (aw_region ?_)
   refine asr (lr _) rfl ?_
   refine asr (lr _) rfl ?_
   refine sq_nil (aw_ret ?_)
   exact retQ_pure (v := .tup [.raw _, .raw _]) rfl rfl (Less.eq (by rw [nfitsAV, if_neg (fun h => by have h2 := (lasts_at h.2).1; simp only [dn, List.length_map] at h2; omega)]))
  ·
   have c2' := c2
   try simp only [qq] at c2'
   refine aw_skip (aw_seq (aw_seq ?_))
   obtain ⟨l', rfl, cv, gp, wp⟩ := chosen_up (p := p) (l := l) (by simp_all)
   have hlen : l'.length = ls.length := by simp [up] at c2'; omega
   simp only [playedI, ints, eup]
   refine aw_region ?_
   refine sq_ev rfl (ev_mv (v := .sl _ _) (lr _)) ?_
   refine sq_ev rfl (ev_len_map sl34 (lr _)) ?_
   refine mvr (lr _) rfl ?_
   refine sq_nil (aw_block ?_)
   refine aw_loopk (ι := { i : Nat // i ≤ l'.length ∧ ∀ j, (h : j < l'.length) → j < i → lsBad p l' ls j h = false }) [2, 3, 8, 27, 28] (fun i => [(29, I i.1)]) (fun H i => H.set 1 (.cells (playedC (pF p l' ls i.1) l'))) (fun i => l'.length - i.1) (⟨0, Nat.zero_le _, by omega⟩) ⟨lr _, lr _, lr _, lr _, lr _, lr _, trivial⟩ rfl ?_
   rintro ⟨i, hi, hok⟩
   dsimp only [keepS, St.put, sget, slotsOf, List.map_cons, List.map_nil, List.cons_append, List.nil_append, List.length_cons, List.length_nil, Nat.reduceBEq, Nat.reduceAdd, cond_true, cond_false]
   refine aw_seq (aw_region ?_)
   refine sq_ev rfl (ev_lss (lr _) (lr _)) ?_
   refine sq_nil (aw_seq ?_)
   refine aw_cond (lr _) (fun c3 => ?_) (fun c3 => ?_)
   ·
    have c3' := c3
    try simp only [qq] at c3'
    have hi' : i < l'.length := by omega
    have hlt := cv.rng _ (List.getElem_mem hi')
    have he := scn_eq hlt
    have hil : i < ls.length := by omega
    have hgd : ls.getD i 0 = ls[i] := getD_at hil 0
    have hgl : l'.getD i 0 = l'[i] := getD_at hi' 0
    have hpl := (pF_fields p l' ls i).2.2.2
    refine aw_skip (aw_seq (aw_block (aw_seq (aw_region ?_))))
    refine mvr (lr _) rfl ?_
    refine sq_ev rfl (ev_index_map sl34 (lr _) (lr _) rfl (by omega)) ?_
    refine sq_ev rfl (ev_load_i (lr _) ty3 rfl) ?_
    refine asr (lr _) rfl ?_
    refine asr (lr _) rfl ?_
    refine sq_nil (aw_seq (aw_seq ?_))
    refine aw_draw 18 mo (by kernel_rfl) ?_
    refine dr_ev rfl (ev_mv (v := .sl _ _) (lr _)) ?_
    refine dr_ev rfl (ev_mv (v := .raw _) (lr _)) ?_
    refine dr_ev rfl (ev_index_map sl34 (lr _) (lr _) rfl (by omega)) ?_
    refine dr_ev rfl (ev_load_i (lr _) ty3 rfl) ?_
    refine dr_ev rfl (ev_fieldAddr fo27_3 (lr _)) ?_
    refine dr_ev rfl (ev_load (lr _) rfl ty25 rfl) ?_
    refine dr_ev rfl (ev_mv (v := .raw _) (lr _)) ?_
    refine dr_ev rfl (ev_index_map sl25 (lr _) (lr _) rfl (by omega)) ?_
    refine dr_ev rfl (ev_fieldAddr_i fo84_1 (lr _)) ?_
    refine dr_ev rfl (ev_load_i (lr _) ty3 rfl) ?_
    refine dr_ev rfl (ev_fieldAddr fo27_3 (lr _)) ?_
    refine dr_ev rfl (ev_load (lr _) rfl ty25 rfl) ?_
    refine dr_ev rfl (ev_mv (v := .raw _) (lr _)) ?_
    refine dr_ev rfl (ev_index_map sl25 (lr _) (lr _) rfl (by omega)) ?_
    refine dr_ev rfl (ev_fieldAddr_i fo84_2 (lr _)) ?_
    refine dr_ev rfl (ev_load_i (lr _) ty3 rfl) ?_
    refine dr_ev rfl (ev_call en122 (lr _) (nin_pure _ _ _) ⟨lr _, lr _, lr _, trivial⟩) ?_
    refine dr_ev rfl (ev_not (lr _)) ?_
    refine dr_end (sq_nil ?_)
    refine aw_cond (lr _) (fun c4 => ?_) (fun c4 => ?_)
    ·
     have c4' := c4
     try simp only [qq] at c4'
     refine aw_seq (aw_region ?_)
     refine asr (lr _) rfl ?_
     refine asr (lr _) rfl ?_
     refine sq_nil (aw_ret ?_)
     exact retQ_pure (v := .tup [.raw _, .raw _]) rfl rfl (Less.eq (by rw [nfitsAV, if_neg (fun h => by have h2 := h.2; rw [dn_up, lasts_bad hi' (by simp only [lsBad, hgd, he, c4', Bool.not_false])] at h2; cases h2)]))
    ·
     have c4' := c4
     try simp only [qq] at c4'
     have hgood : lsBad p l' ls i hi' = false := by simp only [lsBad, hgd, he, inn] at c4' ⊢; simpa using c4'
     have e3 : pF p l' ls (i + 1) = fixP (pF p l' ls i) l'[i] ls[i] := by rw [pF, hgd, hgl]
     refine aw_skip ?_
     refine aw_draw 9 mo (by kernel_rfl) ?_
     refine dr_ev rfl (ev_fieldAddr fo110_0 (lr _)) ?_
     refine dr_ev rfl (ev_load_agg (lr _) rfl ty27 rfl) ?_
     refine dr_ev rfl (ev_mv (v := .raw _) (lr _)) ?_
     refine dr_ev rfl (ev_mv (v := .sl _ _) (lr _)) ?_
     refine dr_ev rfl (ev_mv (v := .raw _) (lr _)) ?_
     refine dr_ev rfl (ev_index_map sl34 (lr _) (lr _) rfl (by omega)) ?_
     refine dr_ev rfl (ev_load_i (lr _) ty3 rfl) ?_
     refine dr_ev rfl (ev_call en87 (lr _) (nfixed_pure (p := pF p l' ls i) (k := l'[i]) (n := ls[i]) (by rw [hpl]; exact hlt) (by rw [hpl]; exact hp)) ⟨lr _, lr _, lr _, trivial⟩) ?_
     refine dr_ev rfl (ev_fieldAddr fo110_0 (lr _)) ?_
     refine dr_end ?_
     refine sq_store rfl (lr _) (lr _) rfl rfl ty27 rfl rfl ?_
     refine sq_nil (aw_region ?_)
     refine sq_ev rfl (ev_add (lr _) (lr _) (wr (by omega) (by omega))) ?_
     refine mvr (lr _) rfl ?_
     refine sq_nil ?_
     exact ⟨⟨i + 1, by omega, fun j h hj => (by by_cases e : j = i; (subst e; exact hgood); exact hok j h (by omega))⟩, by simp only; omega, Sub.fin 2 ⟨lr _, lr _, lr _, lr _, lr _, lr _, trivial⟩ (congrArg (fun (q : Pl) => [AObj.cells (planC p), AObj.cells (playedC q l')]) e3.symm) (by simp [slotsIn, objsIn, sget, keepS, AObj.inB, AV.inB, AV.inL, AV.inE, inE_map, inE_ints, inE_sc, -List.map_append, -List.map_take, -List.map_map]) (by simp [slotsIn, objsIn, sget, keepS, AObj.inB, AV.inB, AV.inL, AV.inE, inE_map, inE_ints, inE_sc, -List.map_append, -List.map_take, -List.map_map]) (by simp [he0])⟩
   ·
    have c3' := c3
    try simp only [qq] at c3'
    obtain rfl : i = l'.length := by omega
    have hlast : lastsP p l' ls = true := lasts_end hlen (Nat.le_refl _) (by omega) hok
    obtain ⟨gpF, wpF, cvF⟩ := pF_ok gp wp cv hlast l'.length (Nat.le_refl _)
    refine aw_exit (aw_seq (aw_region ?_))
    refine sq_ev rfl (ev_load_agg (lr _) rfl ty110 rfl) ?_
    refine sq_ev rfl (ev_call en88 (lr _) (ncan_pure (pFF p l' ls) l' gpF cvF) ⟨lr _, trivial⟩) ?_
    refine asr (lr _) rfl ?_
    refine asr (lr _) rfl ?_
    refine sq_nil (aw_ret ?_)
    exact retQ_pure (v := .tup [.raw _, .raw _]) rfl rfl (Less.eq (by rw [nfitsAV, if_pos ⟨by simp_all, by rw [dn_up]; exact hlast⟩, dn_up]))

set_option maxHeartbeats 1000000 in
/-- kelir/kelirref03.Lasts -/
theorem rlasts_pure (p : Pl) (l : List Nat) (ls : List Int) (cv : CV p l) (hls : ls.length ≤ 1000000) : APure Tryz.prog 58 [plan p, nats l, ints ls] (B (lastsP p l ls)) := by
 refine apure_of (rs := [.tmp 6]) Tryz.func58 rfl rfl (Nat.le_of_ble_eq_true rfl) (by simp [AV.pureL, AV.pureB, AV.pureE, pureE_map]) (rfl) fun e0 he0 => ?_
 refine aw_seq (aw_region ?_)
 refine sq_box rfl (lr _) rfl ?_
 refine asr (lr _) rfl ?_
 refine sq_nil (aw_seq (aw_seq (aw_region ?_)))
 refine sq_ev rfl (ev_mv (v := .sl _ _) (lr _)) ?_
 refine sq_ev rfl (ev_len_map sl34 (lr _)) ?_
 refine sq_ev rfl (ev_mv (v := .sl _ _) (lr _)) ?_
 refine sq_ev rfl (ev_len_map sl34 (lr _)) ?_
 refine sq_ev rfl (ev_neq (lr _) (lr _)) ?_
 refine sq_nil ?_
 refine aw_cond (lr _) (fun c1 => ?_) (fun c1 => ?_)
 ·
  have c1' := c1
  try simp only [qq] at c1'
  refine aw_seq (aw_region ?_)
  refine asr (lr _) rfl ?_
  refine sq_nil (aw_ret ?_)
  exact retQ_pure (v := .raw _) rfl rfl (Less.eq (by rw [lasts_len (by omega)]))
 ·
  have c1' := c1
  try simp only [qq] at c1'
  have hlen : l.length = ls.length := by omega
  refine aw_skip (aw_seq (aw_seq (aw_region ?_)))
  refine asr (lr _) rfl ?_
  refine sq_nil (aw_block ?_)
  refine aw_loopk (ι := { k : Nat // k ≤ l.length ∧ ∀ i, (h : i < l.length) → i < k → lsBad p l ls i h = false }) [1, 2, 3] (fun i => [(7, I i.1)]) (fun H i => H) (fun i => l.length - i.1) (⟨0, Nat.zero_le _, by omega⟩) ⟨lr _, lr _, lr _, lr _, trivial⟩ rfl ?_
  rintro ⟨k, hk, hok⟩
  dsimp only [keepS, St.put, sget, slotsOf, List.map_cons, List.map_nil, List.cons_append, List.nil_append, List.length_cons, List.length_nil, Nat.reduceBEq, Nat.reduceAdd, cond_true, cond_false]
  refine aw_seq (aw_seq (aw_region ?_))
  refine mvr (lr _) rfl ?_
  refine sq_ev rfl (ev_mv (v := .sl _ _) (lr _)) ?_
  refine sq_ev rfl (ev_len_map sl34 (lr _)) ?_
  refine sq_ev rfl (ev_lss (lr _) (lr _)) ?_
  refine sq_nil ?_
  refine aw_cond (lr _) (fun c2 => ?_) (fun c2 => ?_)
  ·
   have c2' := c2
   try simp only [qq] at c2'
   have hi' : k < l.length := by omega
   have hlt := cv.rng _ (List.getElem_mem hi')
   have he := scn_eq hlt
   have hil : k < ls.length := by omega
   have hgd : ls.getD k 0 = ls[k] := getD_at hil 0
   refine aw_skip (aw_seq (aw_block (aw_seq ?_)))
   refine aw_draw 24 mo (by kernel_rfl) ?_
   refine dr_ev rfl (ev_mv (v := .sl _ _) (lr _)) ?_
   refine dr_ev rfl (ev_mv (v := .raw _) (lr _)) ?_
   refine dr_ev rfl (ev_index_map sl34 (lr _) (lr _) rfl (by omega)) ?_
   refine dr_ev rfl (ev_load_i (lr _) ty3 rfl) ?_
   refine dr_ev rfl (ev_fieldAddr fo27_3 (lr _)) ?_
   refine dr_ev rfl (ev_load (lr _) rfl ty25 rfl) ?_
   refine dr_ev rfl (ev_mv (v := .sl _ _) (lr _)) ?_
   refine dr_ev rfl (ev_mv (v := .raw _) (lr _)) ?_
   refine dr_ev rfl (ev_index_map sl34 (lr _) (lr _) rfl (by omega)) ?_
   refine dr_ev rfl (ev_load_i (lr _) ty3 rfl) ?_
   refine dr_ev rfl (ev_index_map sl25 (lr _) (lr _) rfl (by omega)) ?_
   refine dr_ev rfl (ev_fieldAddr_i fo84_1 (lr _)) ?_
   refine dr_ev rfl (ev_load_i (lr _) ty3 rfl) ?_
   refine dr_ev rfl (ev_fieldAddr fo27_3 (lr _)) ?_
   refine dr_ev rfl (ev_load (lr _) rfl ty25 rfl) ?_
   refine dr_ev rfl (ev_mv (v := .sl _ _) (lr _)) ?_
   refine dr_ev rfl (ev_mv (v := .raw _) (lr _)) ?_
   refine dr_ev rfl (ev_index_map sl34 (lr _) (lr _) rfl (by omega)) ?_
   refine dr_ev rfl (ev_load_i (lr _) ty3 rfl) ?_
   refine dr_ev rfl (ev_index_map sl25 (lr _) (lr _) rfl (by omega)) ?_
   refine dr_ev rfl (ev_fieldAddr_i fo84_2 (lr _)) ?_
   refine dr_ev rfl (ev_load_i (lr _) ty3 rfl) ?_
   refine dr_ev rfl (ev_call en89 (lr _) (in_pure _ _ _) ⟨lr _, lr _, lr _, trivial⟩) ?_
   refine dr_ev rfl (ev_not (lr _)) ?_
   refine dr_end (sq_nil ?_)
   refine aw_cond (lr _) (fun c3 => ?_) (fun c3 => ?_)
   ·
    have c3' := c3
    try simp only [qq] at c3'
    refine aw_seq (aw_region ?_)
    refine asr (lr _) rfl ?_
    refine sq_nil (aw_ret ?_)
    exact retQ_pure (v := .raw _) rfl rfl (Less.eq (by rw [lasts_bad hi' (by simp only [lsBad, hgd, he] at c3' ⊢; simpa using c3')]))
   ·
    have c3' := c3
    try simp only [qq] at c3'
    refine aw_skip (aw_region ?_)
    refine mvr (lr _) rfl ?_
    refine sq_ev rfl (ev_add (lr _) (lr _) (wr (by omega) (by omega))) ?_
    refine asr (lr _) rfl ?_
    refine sq_nil ?_
    have hgood : lsBad p l ls k (by omega) = false := by simp only [lsBad, hgd, he] at c3' ⊢; simpa using c3'
    exact ⟨⟨k + 1, by omega, fun i h hi => (by by_cases e : i = k; (subst e; exact hgood); exact hok i h (by omega))⟩, by simp only; omega, Sub.slots ⟨lr _, lr _, lr _, lr _, trivial⟩⟩
  ·
   have c2' := c2
   try simp only [qq] at c2'
   refine aw_exit (aw_seq (aw_region ?_))
   refine asr (lr _) rfl ?_
   refine sq_nil (aw_ret ?_)
   exact retQ_pure (v := .raw _) rfl rfl (Less.eq (by rw [lasts_end hlen hk c2' hok]))

set_option maxHeartbeats 1000000 in
/-- kelir/kelirref03.End -/
theorem rend_pure (p : Pl) (l : List Nat) (ls : List Int) (k : Int) (gp : GP p) (cv : CV p l) (hls : l.length = ls.length) (hb : ∀ x ∈ ls, 0 ≤ x ∧ x ≤ 10000) : APure Tryz.prog 61 [plan p, nats l, ints ls, I k] (I (endR p l ls k)) := by
 refine apure_of (rs := [.tmp 8]) Tryz.func61 rfl rfl (Nat.le_of_ble_eq_true rfl) (by simp [AV.pureL, AV.pureB, AV.pureE, pureE_map]) (rfl) fun e0 he0 => ?_
 refine aw_seq (aw_region ?_)
 refine sq_box rfl (lr _) rfl ?_
 refine asr (lr _) rfl ?_
 refine sq_nil (aw_seq (aw_region ?_))
 refine sq_ev rfl (ev_fieldAddr fo27_0 (lr _)) ?_
 refine sq_ev rfl (ev_load (lr _) rfl ty3 rfl) ?_
 refine asr (lr _) rfl ?_
 refine sq_nil (aw_seq (aw_seq (aw_region ?_)))
 refine asr (lr _) rfl ?_
 refine sq_nil (aw_block ?_)
 refine aw_loopk (ι := { i : Nat // i ≤ l.length }) [1, 2, 3, 4] (fun i => [(10, I i.1), (9, I (endI p l ls k i.1))]) (fun H i => H) (fun i => l.length - i.1) (⟨0, Nat.zero_le _⟩) ⟨lr _, lr _, lr _, lr _, lr _, lr _, trivial⟩ rfl ?_
 rintro ⟨i, hi⟩
 dsimp only [keepS, St.put, sget, slotsOf, List.map_cons, List.map_nil, List.cons_append, List.nil_append, List.length_cons, List.length_nil, Nat.reduceBEq, Nat.reduceAdd, cond_true, cond_false]
 have hbd := endI_bd gp hls hb k i hi
 have hcl := cv.len
 refine aw_seq (aw_seq (aw_region ?_))
 refine mvr (lr _) rfl ?_
 refine sq_ev rfl (ev_mv (v := .sl _ _) (lr _)) ?_
 refine sq_ev rfl (ev_len_map sl34 (lr _)) ?_
 refine sq_ev rfl (ev_lss (lr _) (lr _)) ?_
 refine sq_nil ?_
 refine aw_cond (lr _) (fun c1 => ?_) (fun c1 => ?_)
 ·
  have c1' := c1
  try simp only [qq] at c1'
  have hi' : i < l.length := by omega
  have hlt := cv.rng _ (List.getElem_mem hi')
  have he := scn_eq hlt
  have hil : i < ls.length := by omega
  have hgd : ls.getD i 0 = ls[i] := getD_at hil 0
  have hgl : l.getD i 0 = l[i] := getD_at hi' 0
  have hbv := hb _ (List.getElem_mem hil)
  refine aw_skip (aw_seq (aw_block (aw_seq ?_)))
  refine aw_draw 11 mo (by kernel_rfl) ?_
  refine dr_ev rfl (ev_fieldAddr fo27_3 (lr _)) ?_
  refine dr_ev rfl (ev_load (lr _) rfl ty25 rfl) ?_
  refine dr_ev rfl (ev_mv (v := .sl _ _) (lr _)) ?_
  refine dr_ev rfl (ev_mv (v := .raw _) (lr _)) ?_
  refine dr_ev rfl (ev_index_map sl34 (lr _) (lr _) rfl (by omega)) ?_
  refine dr_ev rfl (ev_load_i (lr _) ty3 rfl) ?_
  refine dr_ev rfl (ev_index_map sl25 (lr _) (lr _) rfl (by omega)) ?_
  refine dr_ev rfl (ev_fieldAddr_i fo84_0 (lr _)) ?_
  refine dr_ev rfl (ev_load_i (lr _) ty3 rfl) ?_
  refine dr_ev rfl (ev_mv (v := .raw _) (lr _)) ?_
  refine dr_ev rfl (ev_leq (lr _) (lr _)) ?_
  refine dr_end (sq_nil ?_)
  refine aw_cond (lr _) (fun c2 => ?_) (fun c2 => ?_)
  ·
   have c2' := c2
   try simp only [qq] at c2'
   have eE : endI p l ls k i + ls[i] = endI p l ls k (i + 1) := by rw [endI, hgd, hgl, he, if_pos c2']
   refine aw_region ?_
   refine mvr (lr _) rfl ?_
   refine sq_ev rfl (ev_mv (v := .sl _ _) (lr _)) ?_
   refine mvr (lr _) rfl ?_
   refine sq_ev rfl (ev_index_map sl34 (lr _) (lr _) rfl (by omega)) ?_
   refine sq_ev rfl (ev_load_i (lr _) ty3 rfl) ?_
   refine sq_ev rfl (ev_add (lr _) (lr _) (wr (by omega) (by omega))) ?_
   refine asr (lr _) rfl ?_
   refine sq_nil (aw_region ?_)
   refine mvr (lr _) rfl ?_
   refine sq_ev rfl (ev_add (lr _) (lr _) (wr (by omega) (by omega))) ?_
   refine asr (lr _) rfl ?_
   refine sq_nil ?_
   exact ⟨⟨i + 1, by omega⟩, by simp only; omega, Sub.slots ⟨lr _, (by exact less_int eE), lr _, lr _, lr _, lr _, trivial⟩⟩
  ·
   have c2' := c2
   try simp only [qq] at c2'
   have eE : endI p l ls k i = endI p l ls k (i + 1) := by rw [endI, hgd, hgl, he, if_neg c2']; omega
   refine aw_skip (aw_region ?_)
   refine mvr (lr _) rfl ?_
   refine sq_ev rfl (ev_add (lr _) (lr _) (wr (by omega) (by omega))) ?_
   refine asr (lr _) rfl ?_
   refine sq_nil ?_
   exact ⟨⟨i + 1, by omega⟩, by simp only; omega, Sub.slots ⟨lr _, (by exact less_int eE), lr _, lr _, lr _, lr _, trivial⟩⟩
 ·
  have c1' := c1
  try simp only [qq] at c1'
  obtain rfl : i = l.length := by omega
  refine aw_exit (aw_seq (aw_region ?_))
  refine mvr (lr _) rfl ?_
  refine asr (lr _) rfl ?_
  refine sq_nil (aw_ret ?_)
  exact retQ_pure (v := .raw _) rfl rfl (Less.eq (by rfl))

end Go.Proofs.YtjghdbdiejaacaaGreatDoor

namespace Go.Proofs.YtjghdbdiejaacaaGreatDoor
open Go Go.Ab Ni


theorem slim_no {l : List Int} (h : ¬ l.length ≤ 12) : APure Tryz.prog 45 [ints l] (B false) := by have := rslim_pure l; simpa [h] using this
theorem slim_yes {l : List Int} (h : l.length ≤ 12) : APure Tryz.prog 45 [ints l] (B true) := by have := rslim_pure l; simpa [h] using this
theorem ints_up (l : List Nat) : ints (up l) = nats l := by simp only [ints, eup]
theorem slim_yesN {l : List Nat} (h : l.length ≤ 12) : APure Tryz.prog 45 [nats l] (B true) := by have := slim_yes (l := up l) (by simpa [up] using h); rwa [ints_up] at this
theorem cho_no {p : Pl} {l : List Int} (hs : p.scenes.length ≤ 12) (hl : l.length ≤ 12) (h : (Ris p l && isCh p l) = false) : APure Tryz.prog 47 [plan p, ints l] (B false) := by have := rchoice_pure p l (by omega) (by omega); rwa [h] at this
theorem cho_yesN {p : Pl} {l : List Nat} (hs : p.scenes.length ≤ 12) (hl : l.length ≤ 12) (h : (Ris p (up l) && isCh p (up l)) = true) : APure Tryz.prog 47 [plan p, nats l] (B true) := by have := rchoice_pure p (up l) (by omega) (by simp [up]; omega); rwa [h, ints_up] at this
end Go.Proofs.YtjghdbdiejaacaaGreatDoor

namespace Go.Proofs.YtjghdbdiejaacaaGreatDoor
open Go Go.Ab Ni
/-- when a scene begins, by hours, as the reference has it -/
def tmV (p : Pl) (n k : Nat) (l : List Nat) (h : Hr) : Int × Int :=
  (max ((prH p h k).1 + lo p l k 0 ((n : Int) - 1)) ((prH p h k).2 - hi p l k n 10), min ((prH p h k).1 + hi p l k 0 ((n : Int) - 1)) ((prH p h k).2 - lo p l k n 10))
/-- how long it lasts -/
def lnV (p : Pl) (n k : Nat) (l : List Nat) (h : Hr) : Int × Int :=
  (max (scn p n).least ((prH p h k).2 - (prH p h k).1 - hi p l k 0 ((n : Int) - 1) - hi p l k ((n : Int) + 1) 10), min (scn p n).most ((prH p h k).2 - (prH p h k).1 - lo p l k 0 ((n : Int) - 1) - lo p l k ((n : Int) + 1) 10))
end Go.Proofs.YtjghdbdiejaacaaGreatDoor

namespace Go.Proofs.YtjghdbdiejaacaaGreatDoor
open Go Go.Ab Ni
theorem ft_yes {p : Pl} {l : List Nat} {ls : List Int} (hs : p.scenes.length ≤ 12) (hl : l.length ≤ 12) (hc : chosenB p (up l) = true) (h : lastsP p l ls = true) : APure Tryz.prog 59 [plan p, nats l, ints ls] (.tup [B (canP (pFF p l ls) l), I 0]) := by
  have := nFits_pure p (up l) ls (by omega) (by simp [up]; omega); unfold nfitsAV at this; rwa [if_pos ⟨hc, by rw [dn_up]; exact h⟩, ints_up, dn_up] at this
end Go.Proofs.YtjghdbdiejaacaaGreatDoor

namespace Go.Proofs.YtjghdbdiejaacaaGreatDoor
open Go Go.Ab Ni


theorem bef_sum {p : Pl} {l : List Nat} {n : Nat} : lsum p (befP p l n) = lo p l (scn p n).part 0 ((n : Int) - 1) ∧ hsum p (befP p l n) = hi p l (scn p n).part 0 ((n : Int) - 1) := by
  have e : befP p l n = l.filter (inP p (scn p n).part 0 ((n : Int) - 1)) := by
    unfold befP ofP; rw [List.filter_filter]
    refine List.filter_congr fun x _ => ?_
    rw [Bool.eq_iff_iff]
    simp only [inPart, inP, Bool.and_eq_true, decide_eq_true_eq]
    constructor
    · rintro ⟨h1, h2⟩; exact ⟨⟨h2, by omega⟩, by omega⟩
    · rintro ⟨⟨h1, h2⟩, h3⟩; exact ⟨by omega, h1⟩
  exact ⟨by unfold lsum leasts lo ssum; rw [e], by unfold hsum mosts hi ssum; rw [e]⟩
theorem beh_sum {p : Pl} {l : List Nat} {n : Nat} (wp : WP p) (cv : CV p l) : lsum p (behP p l n) = lo p l (scn p n).part ((n : Int) + 1) 10 ∧ hsum p (behP p l n) = hi p l (scn p n).part ((n : Int) + 1) 10 := by
  have e : behP p l n = l.filter (inP p (scn p n).part ((n : Int) + 1) 10) := by
    unfold behP ofP; rw [List.filter_filter]
    refine List.filter_congr fun x hx => ?_
    have h1 := cv.rng x hx
    have h2 := wp.len
    rw [Bool.eq_iff_iff]
    simp only [inPart, inP, Bool.and_eq_true, decide_eq_true_eq]
    constructor
    · rintro ⟨h1, h2⟩; exact ⟨⟨h2, by omega⟩, by omega⟩
    · rintro ⟨⟨h1, h2⟩, h3⟩; exact ⟨by omega, h1⟩
  exact ⟨by unfold lsum leasts lo ssum; rw [e], by unfold hsum mosts hi ssum; rw [e]⟩
theorem lsum_cons (p : Pl) (x : Nat) (xs : List Nat) : lsum p (x :: xs) = (scn p x).least + lsum p xs ∧ hsum p (x :: xs) = (scn p x).most + hsum p xs := by simp [lsum, hsum, leasts, mosts]
theorem lsum_app (p : Pl) (xs ys : List Nat) : lsum p (xs ++ ys) = lsum p xs + lsum p ys ∧ hsum p (xs ++ ys) = hsum p xs + hsum p ys := by simp [lsum, hsum, leasts, mosts]
section
variable {p : Pl} {l : List Nat} {n k : Nat} (wp : WP p) (cv : CV p l) (inc : l.Pairwise (· < ·)) (hc : can p l = true) (hm : n ∈ l) (hk : (scn p n).part = (k : Int)) (hk3 : k < 3)
include wp cv inc hc hm hk hk3
theorem tm_met : Ni.Met (hrs p l) (tmV p n k l) (begC p n l) := by
  have h := beg_met wp cv hc hk3 (lo_le wp cv k 0 ((n : Int) - 1)) (lo_le wp cv k n 10) ((pl_lo wp cv k).trans (lo_split wp cv k n)) ((ph_hi wp cv k).trans (hi_split wp cv k n))
  have e : begC p n l = (max ((fw p l k).1 + lo p l k 0 ((n : Int) - 1)) ((bw p l (2 - k)).1 - hi p l k n 10), min ((fw p l k).2 + hi p l k 0 ((n : Int) - 1)) ((bw p l (2 - k)).2 - lo p l k n 10)) := by
    have b1 := bef_sum (p := p) (l := l) (n := n)
    have b2 := beh_sum (n := n) wp cv
    have b3 := lsum_cons p n (behP p l n)
    have b4 := lo_at wp cv inc hm
    have b5 := hi_at wp cv inc hm
    have hkt : (scn p n).part.toNat = k := by omega
    rw [hk] at b1 b2 b4 b5
    unfold begC
    rw [hkt, b1.1, b1.2, b3.1, b3.2, b2.1, b2.2, b4, b5]
  rw [e]; exact h
theorem ln_met : Ni.Met (hrs p l) (lnV p n k l) (longC p n l) := by
  have b4 := lo_at wp cv inc hm
  have b5 := hi_at wp cv inc hm
  rw [hk] at b4 b5
  have h := long_met wp cv hc hk3 (L := (scn p n).least) (H := (scn p n).most) (sL := lo p l k 0 ((n : Int) - 1) + lo p l k ((n : Int) + 1) 10) (sH := hi p l k 0 ((n : Int) - 1) + hi p l k ((n : Int) + 1) 10) (wp.lm _ (scn_mem (cv.rng n hm)))
    (by have := lo_le wp cv k 0 ((n : Int) - 1); have := lo_le wp cv k ((n : Int) + 1) 10; omega) (by rw [pl_lo wp cv k, lo_split wp cv k n, b4]; omega) (by rw [ph_hi wp cv k, hi_split wp cv k n, b5]; omega)
  have e : longC p n l = (max (scn p n).least ((bw p l (2 - k)).1 - (fw p l k).2 - (hi p l k 0 ((n : Int) - 1) + hi p l k ((n : Int) + 1) 10)), min (scn p n).most ((bw p l (2 - k)).2 - (fw p l k).1 - (lo p l k 0 ((n : Int) - 1) + lo p l k ((n : Int) + 1) 10))) := by
    have b1 := bef_sum (p := p) (l := l) (n := n)
    have b2 := beh_sum (n := n) wp cv
    have b3 := lsum_app p (befP p l n) (behP p l n)
    have hkt : (scn p n).part.toNat = k := by omega
    rw [hk] at b1 b2
    unfold longC
    rw [hkt, b3.1, b3.2, b1.1, b1.2, b2.1, b2.2]
  have e2 : lnV p n k l = fun h => (max (scn p n).least ((prH p h k).2 - (prH p h k).1 - (hi p l k 0 ((n : Int) - 1) + hi p l k ((n : Int) + 1) 10)), min (scn p n).most ((prH p h k).2 - (prH p h k).1 - (lo p l k 0 ((n : Int) - 1) + lo p l k ((n : Int) + 1) 10))) := by
    funext h; unfold lnV
    exact Prod.ext (by simp only; omega) (by simp only; omega)
  rw [e, e2]; exact h
end
theorem en_ok {p : Pl} (hs : p.scenes.length ≤ 12) (hk : PlOK p = true) (hc : ¬ (choicesC p).length = 0) : APure Tryz.prog 31 [plan p] (.tup [spans (endsT p 3), I 0]) := by
  have := nEnds_pure p (by omega); unfold endsAV at this; rwa [if_pos hk, if_neg hc] at this
theorem t_pure {p : Pl} {n : Int} (hs : p.scenes.length ≤ 12) {a b e : Int} (h : overR p n (begC p) = ((a, b), e)) : APure Tryz.prog 29 [plan p, I n] (.tup [.agg [I a, I b], I e]) := by
  have := nTimes_pure p n (by omega); unfold overAV at this; rwa [h] at this
theorem l_pure {p : Pl} {n : Int} (hs : p.scenes.length ≤ 12) {a b e : Int} (h : overR p n (longC p) = ((a, b), e)) : APure Tryz.prog 30 [plan p, I n] (.tup [.agg [I a, I b], I e]) := by
  have := nLengths_pure p n (by omega); unfold overAV at this; rwa [h] at this
end Go.Proofs.YtjghdbdiejaacaaGreatDoor

namespace Go.Proofs.YtjghdbdiejaacaaGreatDoor
open Go Go.Ab Ni
theorem en60 : Ent Tryz.prog 60 := Ent.of Tryz.func60 (by kernel_rfl) rfl

set_option maxHeartbeats 400000 in
/-- kelir/kelirlaw03.within -/
theorem rwithin_pure (n a b : Int) : APure Tryz.prog 60 [I n, .agg [I a, I b]] (B (inn n a b)) := by
  refine apure_of (rs := [.tmp 4]) Tryz.func60 rfl rfl (Nat.le_of_ble_eq_true rfl) (by simp [AV.pureL, AV.pureB, AV.pureE, pureE_map]) (rfl) fun e0 he0 => ?_
  refine aw_seq (aw_region ?_)
  refine sq_box rfl (lr _) rfl ?_
  refine asr (lr _) rfl ?_
  refine sq_nil (aw_seq (aw_region ?_))
  refine mvr (lr _) rfl ?_
  refine sq_ev rfl (ev_fieldAddr fo23_0 (lr _)) ?_
  refine sq_ev rfl (ev_load (lr _) rfl ty3 rfl) ?_
  refine sq_ev rfl (ev_geq (lr _) (lr _)) ?_
  refine mvr (lr _) rfl ?_
  refine sq_split 9 (lr _) (fun g1 => ?_) (fun g1 => ?_)
  · skip
    have g1' := g1
    try simp only [qq] at g1'
    refine sq_yes rfl rfl (less_b g1) rfl (ev_mv (v := .raw _) (lr _)) ?_
    refine sq_yes rfl rfl (less_b g1) rfl (ev_fieldAddr fo23_1 (lr _)) ?_
    refine sq_yes rfl rfl (less_b g1) rfl (ev_load (lr _) rfl ty3 rfl) ?_
    refine sq_yes rfl rfl (less_b g1) rfl (ev_leq (lr _) (lr _)) ?_
    refine sq_ev rfl (ev_pickT (v := .raw _) (less_b g1) (lr _)) ?_
    refine asr (lr _) rfl ?_
    refine sq_nil (aw_ret ?_)
    exact retQ_pure (v := .raw _) rfl rfl (Less.eq (by simp [inn, *]))
  · skip
    have g1' := g1
    try simp only [qq] at g1'
    refine sq_no rfl rfl (less_b g1) rfl rfl ?_
    refine sq_no rfl rfl (less_b g1) rfl rfl ?_
    refine sq_no rfl rfl (less_b g1) rfl rfl ?_
    refine sq_no rfl rfl (less_b g1) rfl rfl ?_
    refine sq_ev rfl (ev_pickF (v := .raw _) (less_b g1) (lr _)) ?_
    refine asr (lr _) rfl ?_
    refine sq_nil (aw_ret ?_)
    exact retQ_pure (v := .raw _) rfl rfl (Less.eq (by simp [inn, *]))

end Go.Proofs.YtjghdbdiejaacaaGreatDoor

namespace Go.Proofs.YtjghdbdiejaacaaGreatDoor
open Go Go.Ab Ni


section
variable {p : Pl} {l : List Nat} {ls : List Int}
theorem end_in (gp : GP p) (wp : WP p) (hl : l ∈ choicesC p) {h : Hr} (f : FitH p l h) {k : Nat} (hk : k < 3) : (endT p k (choicesC p).length).1 ≤ (prH p h k).2 ∧ (prH p h k).2 ≤ (endT p k (choicesC p).length).2 := by
  have cv := choicesC_mem gp l hl
  have hm := end_met wp cv (List.mem_filter.1 hl).2 hk
  have hh := (mem_hrsH wp cv).2 f
  have h1 := hm.lows h hh; have h2 := hm.highs h hh
  have hv : endV p k l ∈ (choicesC p).map (endV p k) := List.mem_map.2 ⟨l, hl, rfl⟩
  obtain ⟨_, g1, _, g2⟩ := wd_char (vs := (choicesC p).map (endV p k)) (List.ne_nil_of_mem hv)
  have q1 := g1 _ hv; have q2 := g2 _ hv
  unfold endT; rw [List.take_length]
  simp only at h1 h2
  omega
theorem ov_in {n : Nat} {F : List Nat → Int × Int} (hl : l ∈ choicesC p) (hn : n ∈ l) : (ovT p n F (choicesC p).length).1 ≤ (F l).1 ∧ (F l).2 ≤ (ovT p n F (choicesC p).length).2 := by
  have hs : l ∈ selT p n (choicesC p).length := by unfold selT; rw [List.take_length]; exact List.mem_filter.2 ⟨hl, by simpa using hn⟩
  have hv : F l ∈ (selT p n (choicesC p).length).map F := List.mem_map.2 ⟨l, hs, rfl⟩
  obtain ⟨_, g1, _, g2⟩ := wd_char (vs := (selT p n (choicesC p).length).map F) (List.ne_nil_of_mem hv)
  exact ⟨g1 _ hv, g2 _ hv⟩
theorem sel_pos {n : Nat} (hl : l ∈ choicesC p) (hn : n ∈ l) : ¬ (selT p n (choicesC p).length).length = 0 := fun h => by
  have hs : l ∈ selT p n (choicesC p).length := by unfold selT; rw [List.take_length]; exact List.mem_filter.2 ⟨hl, by simpa using hn⟩
  rw [List.length_eq_zero_iff.1 h] at hs; cases hs
theorem word_has {n : Nat} (hl : l ∈ choicesC p) (hn : n ∈ l) : word p n ≠ 1 := fun h => by
  unfold word cnt cntT at h
  rw [List.take_length] at h
  have hs : l ∈ (choicesC p).filter (fun l => decide (n ∈ l)) := List.mem_filter.2 ⟨hl, by simpa using hn⟩
  have := List.length_pos_of_mem hs
  rw [if_neg (by omega)] at h
  split at h <;> cases h
theorem word_nohas {n : Nat} (hl : l ∈ choicesC p) (hn : ¬ n ∈ l) : word p n ≠ 3 := fun h => by
  unfold word cnt cntT at h
  rw [List.take_length] at h
  have : ((choicesC p).filter (fun l => decide (n ∈ l))).length < (choicesC p).length := by
    rw [List.length_filter_lt_length_iff_exists]; exact ⟨l, hl, by simpa using hn⟩
  split at h
  · cases h
  · rw [if_neg (by omega)] at h; cases h
theorem inn_yes {a b c : Int} (h : b ≤ a ∧ a ≤ c) : inn a b c = true := by simp [inn, h]
theorem time_in (ok : PlOK p = true) (gp : GP p) (wp : WP p) (hl : l ∈ choicesC p) (h : lastsP p l ls = true) (hf : rfits p l ls = true) {i : Nat} (hi : i < l.length) :
    inn (nowI p ls i) (ovT p l[i] (begC p l[i]) (choicesC p).length).1 (ovT p l[i] (begC p l[i]) (choicesC p).length).2 = true ∧ inn (ls.getD i 0) (ovT p l[i] (longC p l[i]) (choicesC p).length).1 (ovT p l[i] (longC p l[i]) (choicesC p).length).2 = true := by
  have cv := choicesC_mem gp l hl
  have inc := choicesC_inc hl
  have hc := (List.mem_filter.1 hl).2
  have hm : l[i] ∈ l := List.getElem_mem hi
  obtain ⟨k, hk, hk3⟩ := partOf_ok ok (cv.rng _ hm)
  obtain ⟨B, A, ⟨b1, b2⟩, ⟨a1, a2⟩, e1, e2, l1, l2⟩ := now_at ok wp cv inc h hi hk hk3
  have f : FitH p l (endR p l ls 0, endR p l ls 1, endR p l ls 2) := fit_of cv inc h (parts_ok ok cv) hf
  have hh := (mem_hrsH wp cv).2 f
  have m1 := tm_met wp cv inc hc hm hk hk3
  have m2 := ln_met wp cv inc hc hm hk hk3
  have o1 := ov_in (F := begC p l[i]) hl hm
  have o2 := ov_in (F := longC p l[i]) hl hm
  have p1 := m1.lows _ hh; have p2 := m1.highs _ hh; have p3 := m2.lows _ hh; have p4 := m2.highs _ hh
  have s1 := lo_at wp cv inc hm; have s2 := hi_at wp cv inc hm
  rw [hk] at s1 s2
  simp only [tmV, lnV] at p1 p2 p3 p4
  exact ⟨inn_yes (by omega), inn_yes (by omega)⟩
theorem nowI_bd (gp : GP p) {ls : List Int} (hb : ∀ x ∈ ls, 0 ≤ x ∧ x ≤ 10000) : ∀ i, i ≤ ls.length → -10000 ≤ nowI p ls i ∧ nowI p ls i ≤ 10000 + 10000 * i
  | 0, _ => by have := gp.beg; simp only [nowI]; omega
  | i + 1, hi => by
    have ih := nowI_bd gp hb i (by omega)
    have hv := hb _ (List.getElem_mem (show i < ls.length by omega))
    rw [nowI, getD_at (show i < ls.length by omega)]; omega
theorem tt_pure {n : Nat} (hs : p.scenes.length ≤ 12) (ok : PlOK p = true) (hl : l ∈ choicesC p) (hn : n ∈ l) (hr : n < p.scenes.length) : APure Tryz.prog 29 [plan p, I n] (.tup [.agg [I (ovT p n (begC p n) (choicesC p).length).1, I (ovT p n (begC p n) (choicesC p).length).2], I 0]) := by
  refine t_pure hs ?_
  unfold overR
  have h1 : isSc p (n : Int) = true := by simp only [isSc, inn, Bool.and_eq_true, decide_eq_true_eq]; omega
  have h2 : ¬ (choicesC p).length = 0 := fun e => by rw [List.length_eq_zero_iff.1 e] at hl; cases hl
  rw [if_pos ⟨ok, h1⟩, if_neg h2, Int.toNat_natCast, if_neg (sel_pos hl hn)]
theorem ll_pure {n : Nat} (hs : p.scenes.length ≤ 12) (ok : PlOK p = true) (hl : l ∈ choicesC p) (hn : n ∈ l) (hr : n < p.scenes.length) : APure Tryz.prog 30 [plan p, I n] (.tup [.agg [I (ovT p n (longC p n) (choicesC p).length).1, I (ovT p n (longC p n) (choicesC p).length).2], I 0]) := by
  refine l_pure hs ?_
  unfold overR
  have h1 : isSc p (n : Int) = true := by simp only [isSc, inn, Bool.and_eq_true, decide_eq_true_eq]; omega
  have h2 : ¬ (choicesC p).length = 0 := fun e => by rw [List.length_eq_zero_iff.1 e] at hl; cases hl
  rw [if_pos ⟨ok, h1⟩, if_neg h2, Int.toNat_natCast, if_neg (sel_pos hl hn)]
end
set_option maxHeartbeats 4000000 in
/-- kelir/kelirlaw03.NightWithin -/
theorem law12_long (p : Pl) (l ls : List Int) (hs : ¬ p.scenes.length ≤ 12) : APure Tryz.prog 12 [plan p, ints l, ints ls] (B true) := by
  refine apure_of (rs := [.tmp 6]) Tryz.func12 rfl rfl (Nat.le_of_ble_eq_true rfl) (by simp [AV.pureL, AV.pureB, AV.pureE, pureE_map]) (rfl) fun e0 he0 => ?_
  refine aw_seq (aw_region ?_)
  refine sq_box rfl (lr _) rfl ?_
  refine asr (lr _) rfl ?_
  refine sq_nil (aw_seq (aw_seq (aw_region ?_)))
  refine sq_ev rfl (ev_load_agg (lr _) rfl ty27 rfl) ?_
  refine sq_ev rfl (ev_call en20 (lr _) (short_no hs) ⟨lr _, trivial⟩) ?_
  refine sq_ev rfl (ev_not (lr _)) ?_
  refine mvr (lr _) rfl ?_
  refine sq_split 24 (lr _) (fun g1 => ?_) (fun g1 => ?_)
  · skip
    have g1' := g1
    try simp only [qq] at g1'
    refine sq_no rfl rfl (less_b g1) rfl rfl ?_
    refine sq_no rfl rfl (less_b g1) rfl rfl ?_
    refine sq_no rfl rfl (less_b g1) rfl rfl ?_
    refine sq_ev rfl (ev_pickT (v := .raw _) (less_b g1) (lr _)) ?_
    refine mvr (lr _) rfl ?_
    refine sq_no rfl rfl (lr _) rfl rfl ?_
    refine sq_no rfl rfl (lr _) rfl rfl ?_
    refine sq_no rfl rfl (lr _) rfl rfl ?_
    refine sq_ev rfl (ev_pickT (v := .raw _) (lr _) (lr _)) ?_
    refine mvr (lr _) rfl ?_
    refine sq_no rfl rfl (lr _) rfl rfl ?_
    refine sq_no rfl rfl (lr _) rfl rfl ?_
    refine sq_no rfl rfl (lr _) rfl rfl ?_
    refine sq_ev rfl (ev_pickT (v := .raw _) (lr _) (lr _)) ?_
    refine mvr (lr _) rfl ?_
    refine sq_no rfl rfl (lr _) rfl rfl ?_
    refine sq_no rfl rfl (lr _) rfl rfl ?_
    refine sq_no rfl rfl (lr _) rfl rfl ?_
    refine sq_no rfl rfl (lr _) rfl rfl ?_
    refine sq_ev rfl (ev_pickT (v := .raw _) (lr _) (lr _)) ?_
    refine mvr (lr _) rfl ?_
    refine sq_no rfl rfl (lr _) rfl rfl ?_
    refine sq_no rfl rfl (lr _) rfl rfl ?_
    refine sq_no rfl rfl (lr _) rfl rfl ?_
    refine sq_no rfl rfl (lr _) rfl rfl ?_
    refine sq_no rfl rfl (lr _) rfl rfl ?_
    refine sq_ev rfl (ev_pickT (v := .raw _) (lr _) (lr _)) ?_
    refine sq_nil ?_
    refine aw_true (lr _) ?_
    refine aw_seq (aw_region ?_)
    refine sq_ev rfl (ev_call en21 (lr _) (known_pure) trivial) ?_
    refine asr (lr _) rfl ?_
    refine sq_nil (aw_ret ?_)
    exact retQ_pure (v := .raw _) rfl rfl (lr _)
  · skip
    have g1' := g1
    try simp only [qq] at g1'
    first | exact absurd g1 (by decide) | (exfalso; simp at g1; done) | (exfalso; simp at g1; omega)

set_option maxHeartbeats 4000000 in
/-- kelir/kelirlaw03.NightWithin -/
theorem law12_slim (p : Pl) (l ls : List Int) (hs : p.scenes.length ≤ 12) (hl : ¬ l.length ≤ 12) : APure Tryz.prog 12 [plan p, ints l, ints ls] (B true) := by
 refine apure_of (rs := [.tmp 6]) Tryz.func12 rfl rfl (Nat.le_of_ble_eq_true rfl) (by simp [AV.pureL, AV.pureB, AV.pureE, pureE_map]) (rfl) fun e0 he0 => ?_
 refine aw_seq (aw_region ?_)
 refine sq_box rfl (lr _) rfl ?_
 refine asr (lr _) rfl ?_
 refine sq_nil (aw_seq (aw_seq (aw_region ?_)))
 refine sq_ev rfl (ev_load_agg (lr _) rfl ty27 rfl) ?_
 refine sq_ev rfl (ev_call en20 (lr _) (short_yes hs) ⟨lr _, trivial⟩) ?_
 refine sq_ev rfl (ev_not (lr _)) ?_
 refine mvr (lr _) rfl ?_
 refine sq_split 24 (lr _) (fun g1 => ?_) (fun g1 => ?_)
 ·
  have g1' := g1
  try simp only [qq] at g1'
  first | exact absurd g1 (by decide) | (exfalso; simp at g1; done) | (exfalso; simp at g1; omega)
 ·
  have g1' := g1
  try simp only [qq] at g1'
  refine sq_yes rfl rfl (less_b g1) rfl (ev_mv (v := .sl _ _) (lr _)) ?_
  refine sq_yes rfl rfl (less_b g1) rfl (ev_call en45 (lr _) (slim_no hl) ⟨lr _, trivial⟩) ?_
  refine sq_yes rfl rfl (less_b g1) rfl (ev_not (lr _)) ?_
  refine sq_ev rfl (ev_pickF (v := .raw _) (less_b g1) (lr _)) ?_
  refine mvr (lr _) rfl ?_
  refine sq_split 29 (lr _) (fun g2 => ?_) (fun g2 => ?_)
  ·
   have g2' := g2
   try simp only [qq] at g2'
   refine sq_no rfl rfl (less_b g2) rfl rfl ?_
   refine sq_no rfl rfl (less_b g2) rfl rfl ?_
   refine sq_no rfl rfl (less_b g2) rfl rfl ?_
   refine sq_ev rfl (ev_pickT (v := .raw _) (less_b g2) (lr _)) ?_
   refine mvr (lr _) rfl ?_
   refine sq_no rfl rfl (lr _) rfl rfl ?_
   refine sq_no rfl rfl (lr _) rfl rfl ?_
   refine sq_no rfl rfl (lr _) rfl rfl ?_
   refine sq_ev rfl (ev_pickT (v := .raw _) (lr _) (lr _)) ?_
   refine mvr (lr _) rfl ?_
   refine sq_no rfl rfl (lr _) rfl rfl ?_
   refine sq_no rfl rfl (lr _) rfl rfl ?_
   refine sq_no rfl rfl (lr _) rfl rfl ?_
   refine sq_no rfl rfl (lr _) rfl rfl ?_
   refine sq_ev rfl (ev_pickT (v := .raw _) (lr _) (lr _)) ?_
   refine mvr (lr _) rfl ?_
   refine sq_no rfl rfl (lr _) rfl rfl ?_
   refine sq_no rfl rfl (lr _) rfl rfl ?_
   refine sq_no rfl rfl (lr _) rfl rfl ?_
   refine sq_no rfl rfl (lr _) rfl rfl ?_
   refine sq_no rfl rfl (lr _) rfl rfl ?_
   refine sq_ev rfl (ev_pickT (v := .raw _) (lr _) (lr _)) ?_
   refine sq_nil ?_
   refine aw_true (lr _) ?_
   refine aw_seq (aw_region ?_)
   refine sq_ev rfl (ev_call en21 (lr _) (known_pure) trivial) ?_
   refine asr (lr _) rfl ?_
   refine sq_nil (aw_ret ?_)
   exact retQ_pure (v := .raw _) rfl rfl (lr _)
  ·
   have g2' := g2
   try simp only [qq] at g2'
   first | exact absurd g2 (by decide) | (exfalso; simp at g2; done) | (exfalso; simp at g2; omega)

set_option maxHeartbeats 4000000 in
/-- kelir/kelirlaw03.NightWithin -/
theorem law12_slims (p : Pl) (l ls : List Int) (hs : p.scenes.length ≤ 12) (hl : l.length ≤ 12) (hls : ¬ ls.length ≤ 12) : APure Tryz.prog 12 [plan p, ints l, ints ls] (B true) := by
 refine apure_of (rs := [.tmp 6]) Tryz.func12 rfl rfl (Nat.le_of_ble_eq_true rfl) (by simp [AV.pureL, AV.pureB, AV.pureE, pureE_map]) (rfl) fun e0 he0 => ?_
 refine aw_seq (aw_region ?_)
 refine sq_box rfl (lr _) rfl ?_
 refine asr (lr _) rfl ?_
 refine sq_nil (aw_seq (aw_seq (aw_region ?_)))
 refine sq_ev rfl (ev_load_agg (lr _) rfl ty27 rfl) ?_
 refine sq_ev rfl (ev_call en20 (lr _) (short_yes hs) ⟨lr _, trivial⟩) ?_
 refine sq_ev rfl (ev_not (lr _)) ?_
 refine mvr (lr _) rfl ?_
 refine sq_split 24 (lr _) (fun g1 => ?_) (fun g1 => ?_)
 ·
  have g1' := g1
  try simp only [qq] at g1'
  first | exact absurd g1 (by decide) | (exfalso; simp at g1; done) | (exfalso; simp at g1; omega)
 ·
  have g1' := g1
  try simp only [qq] at g1'
  refine sq_yes rfl rfl (less_b g1) rfl (ev_mv (v := .sl _ _) (lr _)) ?_
  refine sq_yes rfl rfl (less_b g1) rfl (ev_call en45 (lr _) (slim_yes hl) ⟨lr _, trivial⟩) ?_
  refine sq_yes rfl rfl (less_b g1) rfl (ev_not (lr _)) ?_
  refine sq_ev rfl (ev_pickF (v := .raw _) (less_b g1) (lr _)) ?_
  refine mvr (lr _) rfl ?_
  refine sq_split 29 (lr _) (fun g2 => ?_) (fun g2 => ?_)
  ·
   have g2' := g2
   try simp only [qq] at g2'
   first | exact absurd g2 (by decide) | (exfalso; simp at g2; done) | (exfalso; simp at g2; omega)
  ·
   have g2' := g2
   try simp only [qq] at g2'
   refine sq_yes rfl rfl (less_b g2) rfl (ev_mv (v := .sl _ _) (lr _)) ?_
   refine sq_yes rfl rfl (less_b g2) rfl (ev_call en45 (lr _) (slim_no hls) ⟨lr _, trivial⟩) ?_
   refine sq_yes rfl rfl (less_b g2) rfl (ev_not (lr _)) ?_
   refine sq_ev rfl (ev_pickF (v := .raw _) (less_b g2) (lr _)) ?_
   refine mvr (lr _) rfl ?_
   refine sq_split 34 (lr _) (fun g3 => ?_) (fun g3 => ?_)
   ·
    have g3' := g3
    try simp only [qq] at g3'
    refine sq_no rfl rfl (less_b g3) rfl rfl ?_
    refine sq_no rfl rfl (less_b g3) rfl rfl ?_
    refine sq_no rfl rfl (less_b g3) rfl rfl ?_
    refine sq_ev rfl (ev_pickT (v := .raw _) (less_b g3) (lr _)) ?_
    refine mvr (lr _) rfl ?_
    refine sq_no rfl rfl (lr _) rfl rfl ?_
    refine sq_no rfl rfl (lr _) rfl rfl ?_
    refine sq_no rfl rfl (lr _) rfl rfl ?_
    refine sq_no rfl rfl (lr _) rfl rfl ?_
    refine sq_ev rfl (ev_pickT (v := .raw _) (lr _) (lr _)) ?_
    refine mvr (lr _) rfl ?_
    refine sq_no rfl rfl (lr _) rfl rfl ?_
    refine sq_no rfl rfl (lr _) rfl rfl ?_
    refine sq_no rfl rfl (lr _) rfl rfl ?_
    refine sq_no rfl rfl (lr _) rfl rfl ?_
    refine sq_no rfl rfl (lr _) rfl rfl ?_
    refine sq_ev rfl (ev_pickT (v := .raw _) (lr _) (lr _)) ?_
    refine sq_nil ?_
    refine aw_true (lr _) ?_
    refine aw_seq (aw_region ?_)
    refine sq_ev rfl (ev_call en21 (lr _) (known_pure) trivial) ?_
    refine asr (lr _) rfl ?_
    refine sq_nil (aw_ret ?_)
    exact retQ_pure (v := .raw _) rfl rfl (lr _)
   ·
    have g3' := g3
    try simp only [qq] at g3'
    first | exact absurd g3 (by decide) | (exfalso; simp at g3; done) | (exfalso; simp at g3; omega)

set_option maxHeartbeats 4000000 in
/-- kelir/kelirlaw03.NightWithin -/
theorem law12_bad (p : Pl) (l ls : List Int) (hs : p.scenes.length ≤ 12) (hl : l.length ≤ 12) (hls : ls.length ≤ 12) (hk : PlOK p = false) : APure Tryz.prog 12 [plan p, ints l, ints ls] (B true) := by
 refine apure_of (rs := [.tmp 6]) Tryz.func12 rfl rfl (Nat.le_of_ble_eq_true rfl) (by simp [AV.pureL, AV.pureB, AV.pureE, pureE_map]) (rfl) fun e0 he0 => ?_
 refine aw_seq (aw_region ?_)
 refine sq_box rfl (lr _) rfl ?_
 refine asr (lr _) rfl ?_
 refine sq_nil (aw_seq (aw_seq (aw_region ?_)))
 refine sq_ev rfl (ev_load_agg (lr _) rfl ty27 rfl) ?_
 refine sq_ev rfl (ev_call en20 (lr _) (short_yes hs) ⟨lr _, trivial⟩) ?_
 refine sq_ev rfl (ev_not (lr _)) ?_
 refine mvr (lr _) rfl ?_
 refine sq_split 24 (lr _) (fun g1 => ?_) (fun g1 => ?_)
 ·
  have g1' := g1
  try simp only [qq] at g1'
  first | exact absurd g1 (by decide) | (exfalso; simp at g1; done) | (exfalso; simp at g1; omega)
 ·
  have g1' := g1
  try simp only [qq] at g1'
  refine sq_yes rfl rfl (less_b g1) rfl (ev_mv (v := .sl _ _) (lr _)) ?_
  refine sq_yes rfl rfl (less_b g1) rfl (ev_call en45 (lr _) (slim_yes hl) ⟨lr _, trivial⟩) ?_
  refine sq_yes rfl rfl (less_b g1) rfl (ev_not (lr _)) ?_
  refine sq_ev rfl (ev_pickF (v := .raw _) (less_b g1) (lr _)) ?_
  refine mvr (lr _) rfl ?_
  refine sq_split 29 (lr _) (fun g2 => ?_) (fun g2 => ?_)
  ·
   have g2' := g2
   try simp only [qq] at g2'
   first | exact absurd g2 (by decide) | (exfalso; simp at g2; done) | (exfalso; simp at g2; omega)
  ·
   have g2' := g2
   try simp only [qq] at g2'
   refine sq_yes rfl rfl (less_b g2) rfl (ev_mv (v := .sl _ _) (lr _)) ?_
   refine sq_yes rfl rfl (less_b g2) rfl (ev_call en45 (lr _) (slim_yes hls) ⟨lr _, trivial⟩) ?_
   refine sq_yes rfl rfl (less_b g2) rfl (ev_not (lr _)) ?_
   refine sq_ev rfl (ev_pickF (v := .raw _) (less_b g2) (lr _)) ?_
   refine mvr (lr _) rfl ?_
   refine sq_split 34 (lr _) (fun g3 => ?_) (fun g3 => ?_)
   ·
    have g3' := g3
    try simp only [qq] at g3'
    first | exact absurd g3 (by decide) | (exfalso; simp at g3; done) | (exfalso; simp at g3; omega)
   ·
    have g3' := g3
    try simp only [qq] at g3'
    refine sq_yes rfl rfl (less_b g3) rfl (ev_load_agg (lr _) rfl ty27 rfl) ?_
    refine sq_yes rfl rfl (less_b g3) rfl (ev_call en24 (lr _) (plan_no hs hk) ⟨lr _, trivial⟩) ?_
    refine sq_yes rfl rfl (less_b g3) rfl (ev_not (lr _)) ?_
    refine sq_ev rfl (ev_pickF (v := .raw _) (less_b g3) (lr _)) ?_
    refine mvr (lr _) rfl ?_
    refine sq_split 39 (lr _) (fun g4 => ?_) (fun g4 => ?_)
    ·
     have g4' := g4
     try simp only [qq] at g4'
     refine sq_no rfl rfl (less_b g4) rfl rfl ?_
     refine sq_no rfl rfl (less_b g4) rfl rfl ?_
     refine sq_no rfl rfl (less_b g4) rfl rfl ?_
     refine sq_no rfl rfl (less_b g4) rfl rfl ?_
     refine sq_ev rfl (ev_pickT (v := .raw _) (less_b g4) (lr _)) ?_
     refine mvr (lr _) rfl ?_
     refine sq_no rfl rfl (lr _) rfl rfl ?_
     refine sq_no rfl rfl (lr _) rfl rfl ?_
     refine sq_no rfl rfl (lr _) rfl rfl ?_
     refine sq_no rfl rfl (lr _) rfl rfl ?_
     refine sq_no rfl rfl (lr _) rfl rfl ?_
     refine sq_ev rfl (ev_pickT (v := .raw _) (lr _) (lr _)) ?_
     refine sq_nil ?_
     refine aw_true (lr _) ?_
     refine aw_seq (aw_region ?_)
     refine sq_ev rfl (ev_call en21 (lr _) (known_pure) trivial) ?_
     refine asr (lr _) rfl ?_
     refine sq_nil (aw_ret ?_)
     exact retQ_pure (v := .raw _) rfl rfl (lr _)
    ·
     have g4' := g4
     try simp only [qq] at g4'
     first | exact absurd g4 (by decide) | (exfalso; simp at g4; done) | (exfalso; simp at g4; omega)

set_option maxHeartbeats 4000000 in
/-- kelir/kelirlaw03.NightWithin -/
theorem law12_cho (p : Pl) (l ls : List Int) (hs : p.scenes.length ≤ 12) (hl : l.length ≤ 12) (hls : ls.length ≤ 12) (hk : PlOK p = true) (hc : (Ris p l && isCh p l) = false) : APure Tryz.prog 12 [plan p, ints l, ints ls] (B true) := by
 refine apure_of (rs := [.tmp 6]) Tryz.func12 rfl rfl (Nat.le_of_ble_eq_true rfl) (by simp [AV.pureL, AV.pureB, AV.pureE, pureE_map]) (rfl) fun e0 he0 => ?_
 refine aw_seq (aw_region ?_)
 refine sq_box rfl (lr _) rfl ?_
 refine asr (lr _) rfl ?_
 refine sq_nil (aw_seq (aw_seq (aw_region ?_)))
 refine sq_ev rfl (ev_load_agg (lr _) rfl ty27 rfl) ?_
 refine sq_ev rfl (ev_call en20 (lr _) (short_yes hs) ⟨lr _, trivial⟩) ?_
 refine sq_ev rfl (ev_not (lr _)) ?_
 refine mvr (lr _) rfl ?_
 refine sq_split 24 (lr _) (fun g1 => ?_) (fun g1 => ?_)
 ·
  have g1' := g1
  try simp only [qq] at g1'
  first | exact absurd g1 (by decide) | (exfalso; simp at g1; done) | (exfalso; simp at g1; omega)
 ·
  have g1' := g1
  try simp only [qq] at g1'
  refine sq_yes rfl rfl (less_b g1) rfl (ev_mv (v := .sl _ _) (lr _)) ?_
  refine sq_yes rfl rfl (less_b g1) rfl (ev_call en45 (lr _) (slim_yes hl) ⟨lr _, trivial⟩) ?_
  refine sq_yes rfl rfl (less_b g1) rfl (ev_not (lr _)) ?_
  refine sq_ev rfl (ev_pickF (v := .raw _) (less_b g1) (lr _)) ?_
  refine mvr (lr _) rfl ?_
  refine sq_split 29 (lr _) (fun g2 => ?_) (fun g2 => ?_)
  ·
   have g2' := g2
   try simp only [qq] at g2'
   first | exact absurd g2 (by decide) | (exfalso; simp at g2; done) | (exfalso; simp at g2; omega)
  ·
   have g2' := g2
   try simp only [qq] at g2'
   refine sq_yes rfl rfl (less_b g2) rfl (ev_mv (v := .sl _ _) (lr _)) ?_
   refine sq_yes rfl rfl (less_b g2) rfl (ev_call en45 (lr _) (slim_yes hls) ⟨lr _, trivial⟩) ?_
   refine sq_yes rfl rfl (less_b g2) rfl (ev_not (lr _)) ?_
   refine sq_ev rfl (ev_pickF (v := .raw _) (less_b g2) (lr _)) ?_
   refine mvr (lr _) rfl ?_
   refine sq_split 34 (lr _) (fun g3 => ?_) (fun g3 => ?_)
   ·
    have g3' := g3
    try simp only [qq] at g3'
    first | exact absurd g3 (by decide) | (exfalso; simp at g3; done) | (exfalso; simp at g3; omega)
   ·
    have g3' := g3
    try simp only [qq] at g3'
    refine sq_yes rfl rfl (less_b g3) rfl (ev_load_agg (lr _) rfl ty27 rfl) ?_
    refine sq_yes rfl rfl (less_b g3) rfl (ev_call en24 (lr _) (plan_yes hs hk) ⟨lr _, trivial⟩) ?_
    refine sq_yes rfl rfl (less_b g3) rfl (ev_not (lr _)) ?_
    refine sq_ev rfl (ev_pickF (v := .raw _) (less_b g3) (lr _)) ?_
    refine mvr (lr _) rfl ?_
    refine sq_split 39 (lr _) (fun g4 => ?_) (fun g4 => ?_)
    ·
     have g4' := g4
     try simp only [qq] at g4'
     first | exact absurd g4 (by decide) | (exfalso; simp at g4; done) | (exfalso; simp at g4; omega)
    ·
     have g4' := g4
     try simp only [qq] at g4'
     refine sq_yes rfl rfl (less_b g4) rfl (ev_load_agg (lr _) rfl ty27 rfl) ?_
     refine sq_yes rfl rfl (less_b g4) rfl (ev_mv (v := .sl _ _) (lr _)) ?_
     refine sq_yes rfl rfl (less_b g4) rfl (ev_call en47 (lr _) (cho_no hs hl hc) ⟨lr _, lr _, trivial⟩) ?_
     refine sq_yes rfl rfl (less_b g4) rfl (ev_not (lr _)) ?_
     refine sq_ev rfl (ev_pickF (v := .raw _) (less_b g4) (lr _)) ?_
     refine mvr (lr _) rfl ?_
     refine sq_split 45 (lr _) (fun g5 => ?_) (fun g5 => ?_)
     ·
      have g5' := g5
      try simp only [qq] at g5'
      refine sq_no rfl rfl (less_b g5) rfl rfl ?_
      refine sq_no rfl rfl (less_b g5) rfl rfl ?_
      refine sq_no rfl rfl (less_b g5) rfl rfl ?_
      refine sq_no rfl rfl (less_b g5) rfl rfl ?_
      refine sq_no rfl rfl (less_b g5) rfl rfl ?_
      refine sq_ev rfl (ev_pickT (v := .raw _) (less_b g5) (lr _)) ?_
      refine sq_nil ?_
      refine aw_true (lr _) ?_
      refine aw_seq (aw_region ?_)
      refine sq_ev rfl (ev_call en21 (lr _) (known_pure) trivial) ?_
      refine asr (lr _) rfl ?_
      refine sq_nil (aw_ret ?_)
      exact retQ_pure (v := .raw _) rfl rfl (lr _)
     ·
      have g5' := g5
      try simp only [qq] at g5'
      first | exact absurd g5 (by decide) | (exfalso; simp at g5; done) | (exfalso; simp at g5; omega)

set_option maxHeartbeats 4000000 in
/-- kelir/kelirlaw03.NightWithin -/
theorem law12_last (p : Pl) (l : List Nat) (ls : List Int) (hs : p.scenes.length ≤ 12) (hl : l.length ≤ 12) (hls : ls.length ≤ 12) (hk : PlOK p = true) (hc : (Ris p (up l) && isCh p (up l)) = true) (gp : GP p) (wp : WP p) (cv : CV p l) (hL : lastsP p l ls = false) : APure Tryz.prog 12 [plan p, nats l, ints ls] (B true) := by
 refine apure_of (rs := [.tmp 6]) Tryz.func12 rfl rfl (Nat.le_of_ble_eq_true rfl) (by simp [AV.pureL, AV.pureB, AV.pureE, pureE_map]) (rfl) fun e0 he0 => ?_
 have hla := rlasts_pure p l ls cv (by omega)
 rw [hL] at hla
 refine aw_seq (aw_region ?_)
 refine sq_box rfl (lr _) rfl ?_
 refine asr (lr _) rfl ?_
 refine sq_nil (aw_seq (aw_seq (aw_region ?_)))
 refine sq_ev rfl (ev_load_agg (lr _) rfl ty27 rfl) ?_
 refine sq_ev rfl (ev_call en20 (lr _) (short_yes hs) ⟨lr _, trivial⟩) ?_
 refine sq_ev rfl (ev_not (lr _)) ?_
 refine mvr (lr _) rfl ?_
 refine sq_split 24 (lr _) (fun g1 => ?_) (fun g1 => ?_)
 ·
  have g1' := g1
  try simp only [qq] at g1'
  first | exact absurd g1 (by decide) | (exfalso; simp at g1; done) | (exfalso; simp at g1; omega)
 ·
  have g1' := g1
  try simp only [qq] at g1'
  refine sq_yes rfl rfl (less_b g1) rfl (ev_mv (v := .sl _ _) (lr _)) ?_
  refine sq_yes rfl rfl (less_b g1) rfl (ev_call en45 (lr _) (slim_yesN hl) ⟨lr _, trivial⟩) ?_
  refine sq_yes rfl rfl (less_b g1) rfl (ev_not (lr _)) ?_
  refine sq_ev rfl (ev_pickF (v := .raw _) (less_b g1) (lr _)) ?_
  refine mvr (lr _) rfl ?_
  refine sq_split 29 (lr _) (fun g2 => ?_) (fun g2 => ?_)
  ·
   have g2' := g2
   try simp only [qq] at g2'
   first | exact absurd g2 (by decide) | (exfalso; simp at g2; done) | (exfalso; simp at g2; omega)
  ·
   have g2' := g2
   try simp only [qq] at g2'
   refine sq_yes rfl rfl (less_b g2) rfl (ev_mv (v := .sl _ _) (lr _)) ?_
   refine sq_yes rfl rfl (less_b g2) rfl (ev_call en45 (lr _) (slim_yes hls) ⟨lr _, trivial⟩) ?_
   refine sq_yes rfl rfl (less_b g2) rfl (ev_not (lr _)) ?_
   refine sq_ev rfl (ev_pickF (v := .raw _) (less_b g2) (lr _)) ?_
   refine mvr (lr _) rfl ?_
   refine sq_split 34 (lr _) (fun g3 => ?_) (fun g3 => ?_)
   ·
    have g3' := g3
    try simp only [qq] at g3'
    first | exact absurd g3 (by decide) | (exfalso; simp at g3; done) | (exfalso; simp at g3; omega)
   ·
    have g3' := g3
    try simp only [qq] at g3'
    refine sq_yes rfl rfl (less_b g3) rfl (ev_load_agg (lr _) rfl ty27 rfl) ?_
    refine sq_yes rfl rfl (less_b g3) rfl (ev_call en24 (lr _) (plan_yes hs hk) ⟨lr _, trivial⟩) ?_
    refine sq_yes rfl rfl (less_b g3) rfl (ev_not (lr _)) ?_
    refine sq_ev rfl (ev_pickF (v := .raw _) (less_b g3) (lr _)) ?_
    refine mvr (lr _) rfl ?_
    refine sq_split 39 (lr _) (fun g4 => ?_) (fun g4 => ?_)
    ·
     have g4' := g4
     try simp only [qq] at g4'
     first | exact absurd g4 (by decide) | (exfalso; simp at g4; done) | (exfalso; simp at g4; omega)
    ·
     have g4' := g4
     try simp only [qq] at g4'
     refine sq_yes rfl rfl (less_b g4) rfl (ev_load_agg (lr _) rfl ty27 rfl) ?_
     refine sq_yes rfl rfl (less_b g4) rfl (ev_mv (v := .sl _ _) (lr _)) ?_
     refine sq_yes rfl rfl (less_b g4) rfl (ev_call en47 (lr _) (cho_yesN hs hl hc) ⟨lr _, lr _, trivial⟩) ?_
     refine sq_yes rfl rfl (less_b g4) rfl (ev_not (lr _)) ?_
     refine sq_ev rfl (ev_pickF (v := .raw _) (less_b g4) (lr _)) ?_
     refine mvr (lr _) rfl ?_
     refine sq_split 45 (lr _) (fun g5 => ?_) (fun g5 => ?_)
     ·
      have g5' := g5
      try simp only [qq] at g5'
      first | exact absurd g5 (by decide) | (exfalso; simp at g5; done) | (exfalso; simp at g5; omega)
     ·
      have g5' := g5
      try simp only [qq] at g5'
      refine sq_yes rfl rfl (less_b g5) rfl (ev_load_agg (lr _) rfl ty27 rfl) ?_
      refine sq_yes rfl rfl (less_b g5) rfl (ev_mv (v := .sl _ _) (lr _)) ?_
      refine sq_yes rfl rfl (less_b g5) rfl (ev_mv (v := .sl _ _) (lr _)) ?_
      refine sq_yes rfl rfl (less_b g5) rfl (ev_call en58 (lr _) (hla) ⟨lr _, lr _, lr _, trivial⟩) ?_
      refine sq_yes rfl rfl (less_b g5) rfl (ev_not (lr _)) ?_
      refine sq_ev rfl (ev_pickF (v := .raw _) (less_b g5) (lr _)) ?_
      refine sq_nil ?_
      refine aw_cond (lr _) (fun c6 => ?_) (fun c6 => ?_)
      ·
       have c6' := c6
       try simp only [qq] at c6'
       refine aw_seq (aw_region ?_)
       refine sq_ev rfl (ev_call en21 (lr _) (known_pure) trivial) ?_
       refine asr (lr _) rfl ?_
       refine sq_nil (aw_ret ?_)
       exact retQ_pure (v := .raw _) rfl rfl (lr _)
      ·
       have c6' := c6
       try simp only [qq] at c6'
       first | exact absurd c6 (by decide) | (exfalso; simp at c6; done) | (exfalso; simp at c6; omega)

set_option maxHeartbeats 4000000 in
/-- kelir/kelirlaw03.NightWithin -/
theorem law12_not (p : Pl) (l : List Nat) (ls : List Int) (hs : p.scenes.length ≤ 12) (hl : l.length ≤ 12) (hls : ls.length ≤ 12) (hk : PlOK p = true) (hc : (Ris p (up l) && isCh p (up l)) = true) (gp : GP p) (wp : WP p) (cv : CV p l) (hL : lastsP p l ls = true) (hfi : canP (pFF p l ls) l = false) : APure Tryz.prog 12 [plan p, nats l, ints ls] (B true) := by
 refine apure_of (rs := [.tmp 6]) Tryz.func12 rfl rfl (Nat.le_of_ble_eq_true rfl) (by simp [AV.pureL, AV.pureB, AV.pureE, pureE_map]) (rfl) fun e0 he0 => ?_
 have hla := rlasts_pure p l ls cv (by omega)
 rw [hL] at hla
 have hch : chosenB p (up l) = true := by rw [chosenB, Bool.and_assoc, hc, hk]; rfl
 have inc := ris_inc (Bool.and_eq_true_iff.1 hc).1
 have hpp := parts_ok hk cv
 have hlen := (lasts_at hL).1
 have hlb := lasts_bds gp cv hL
 have h59 := ft_yes hs hl hch hL
 rw [hfi] at h59
 refine aw_seq (aw_region ?_)
 refine sq_box rfl (lr _) rfl ?_
 refine asr (lr _) rfl ?_
 refine sq_nil (aw_seq (aw_seq (aw_region ?_)))
 refine sq_ev rfl (ev_load_agg (lr _) rfl ty27 rfl) ?_
 refine sq_ev rfl (ev_call en20 (lr _) (short_yes hs) ⟨lr _, trivial⟩) ?_
 refine sq_ev rfl (ev_not (lr _)) ?_
 refine mvr (lr _) rfl ?_
 refine sq_split 24 (lr _) (fun g1 => ?_) (fun g1 => ?_)
 ·
  have g1' := g1
  try simp only [qq] at g1'
  first | exact absurd g1 (by decide) | (exfalso; simp at g1; done) | (exfalso; simp at g1; omega)
 ·
  have g1' := g1
  try simp only [qq] at g1'
  refine sq_yes rfl rfl (less_b g1) rfl (ev_mv (v := .sl _ _) (lr _)) ?_
  refine sq_yes rfl rfl (less_b g1) rfl (ev_call en45 (lr _) (slim_yesN hl) ⟨lr _, trivial⟩) ?_
  refine sq_yes rfl rfl (less_b g1) rfl (ev_not (lr _)) ?_
  refine sq_ev rfl (ev_pickF (v := .raw _) (less_b g1) (lr _)) ?_
  refine mvr (lr _) rfl ?_
  refine sq_split 29 (lr _) (fun g2 => ?_) (fun g2 => ?_)
  ·
   have g2' := g2
   try simp only [qq] at g2'
   first | exact absurd g2 (by decide) | (exfalso; simp at g2; done) | (exfalso; simp at g2; omega)
  ·
   have g2' := g2
   try simp only [qq] at g2'
   refine sq_yes rfl rfl (less_b g2) rfl (ev_mv (v := .sl _ _) (lr _)) ?_
   refine sq_yes rfl rfl (less_b g2) rfl (ev_call en45 (lr _) (slim_yes hls) ⟨lr _, trivial⟩) ?_
   refine sq_yes rfl rfl (less_b g2) rfl (ev_not (lr _)) ?_
   refine sq_ev rfl (ev_pickF (v := .raw _) (less_b g2) (lr _)) ?_
   refine mvr (lr _) rfl ?_
   refine sq_split 34 (lr _) (fun g3 => ?_) (fun g3 => ?_)
   ·
    have g3' := g3
    try simp only [qq] at g3'
    first | exact absurd g3 (by decide) | (exfalso; simp at g3; done) | (exfalso; simp at g3; omega)
   ·
    have g3' := g3
    try simp only [qq] at g3'
    refine sq_yes rfl rfl (less_b g3) rfl (ev_load_agg (lr _) rfl ty27 rfl) ?_
    refine sq_yes rfl rfl (less_b g3) rfl (ev_call en24 (lr _) (plan_yes hs hk) ⟨lr _, trivial⟩) ?_
    refine sq_yes rfl rfl (less_b g3) rfl (ev_not (lr _)) ?_
    refine sq_ev rfl (ev_pickF (v := .raw _) (less_b g3) (lr _)) ?_
    refine mvr (lr _) rfl ?_
    refine sq_split 39 (lr _) (fun g4 => ?_) (fun g4 => ?_)
    ·
     have g4' := g4
     try simp only [qq] at g4'
     first | exact absurd g4 (by decide) | (exfalso; simp at g4; done) | (exfalso; simp at g4; omega)
    ·
     have g4' := g4
     try simp only [qq] at g4'
     refine sq_yes rfl rfl (less_b g4) rfl (ev_load_agg (lr _) rfl ty27 rfl) ?_
     refine sq_yes rfl rfl (less_b g4) rfl (ev_mv (v := .sl _ _) (lr _)) ?_
     refine sq_yes rfl rfl (less_b g4) rfl (ev_call en47 (lr _) (cho_yesN hs hl hc) ⟨lr _, lr _, trivial⟩) ?_
     refine sq_yes rfl rfl (less_b g4) rfl (ev_not (lr _)) ?_
     refine sq_ev rfl (ev_pickF (v := .raw _) (less_b g4) (lr _)) ?_
     refine mvr (lr _) rfl ?_
     refine sq_split 45 (lr _) (fun g5 => ?_) (fun g5 => ?_)
     ·
      have g5' := g5
      try simp only [qq] at g5'
      first | exact absurd g5 (by decide) | (exfalso; simp at g5; done) | (exfalso; simp at g5; omega)
     ·
      have g5' := g5
      try simp only [qq] at g5'
      refine sq_yes rfl rfl (less_b g5) rfl (ev_load_agg (lr _) rfl ty27 rfl) ?_
      refine sq_yes rfl rfl (less_b g5) rfl (ev_mv (v := .sl _ _) (lr _)) ?_
      refine sq_yes rfl rfl (less_b g5) rfl (ev_mv (v := .sl _ _) (lr _)) ?_
      refine sq_yes rfl rfl (less_b g5) rfl (ev_call en58 (lr _) (hla) ⟨lr _, lr _, lr _, trivial⟩) ?_
      refine sq_yes rfl rfl (less_b g5) rfl (ev_not (lr _)) ?_
      refine sq_ev rfl (ev_pickF (v := .raw _) (less_b g5) (lr _)) ?_
      refine sq_nil ?_
      refine aw_cond (lr _) (fun c6 => ?_) (fun c6 => ?_)
      ·
       have c6' := c6
       try simp only [qq] at c6'
       first | exact absurd c6 (by decide) | (exfalso; simp at c6; done) | (exfalso; simp at c6; omega)
      ·
       have c6' := c6
       try simp only [qq] at c6'
       refine aw_skip (aw_seq (aw_region ?_))
       refine sq_ev rfl (ev_load_agg (lr _) rfl ty27 rfl) ?_
       refine sq_ev rfl (ev_mv (v := .sl _ _) (lr _)) ?_
       refine sq_ev rfl (ev_mv (v := .sl _ _) (lr _)) ?_
       refine sq_ev rfl (ev_call en59 (lr _) (h59) ⟨lr _, lr _, lr _, trivial⟩) ?_
       refine sq_ev rfl (ev_mv (v := .tup _) (lr _)) ?_
       refine sq_ev rfl (ev_extract (lr _) rfl) ?_
       refine sq_ev rfl (ev_extract (lr _) rfl) ?_
       refine asr (lr _) rfl ?_
       refine asr (lr _) rfl ?_
       refine sq_nil (aw_seq (aw_seq (aw_region ?_)))
       refine mvr (lr _) rfl ?_
       refine sq_ev rfl (ev_neq (lr _) (lr _)) ?_
       refine sq_nil ?_
       refine aw_cond (lr _) (fun c7 => ?_) (fun c7 => ?_)
       ·
        have c7' := c7
        try simp only [qq] at c7'
        first | exact absurd c7 (by decide) | (exfalso; simp at c7; done) | (exfalso; simp at c7; omega)
       ·
        have c7' := c7
        try simp only [qq] at c7'
        refine aw_skip (aw_seq (aw_seq (aw_region ?_)))
        refine mvr (lr _) rfl ?_
        refine sq_ev rfl (ev_not (lr _)) ?_
        refine sq_nil ?_
        refine aw_cond (lr _) (fun c8 => ?_) (fun c8 => ?_)
        ·
         have c8' := c8
         try simp only [qq] at c8'
         refine aw_seq (aw_region ?_)
         refine sq_ev rfl (ev_call en21 (lr _) (known_pure) trivial) ?_
         refine asr (lr _) rfl ?_
         refine sq_nil (aw_ret ?_)
         exact retQ_pure (v := .raw _) rfl rfl (lr _)
        ·
         have c8' := c8
         try simp only [qq] at c8'
         first | exact absurd c8 (by decide) | (exfalso; simp at c8; done) | (exfalso; simp at c8; omega)

set_option maxHeartbeats 4000000 in
/-- kelir/kelirlaw03.NightWithin -/
theorem law12_fit (p : Pl) (l : List Nat) (ls : List Int) (hs : p.scenes.length ≤ 12) (hl : l.length ≤ 12) (hls : ls.length ≤ 12) (hk : PlOK p = true) (hc : (Ris p (up l) && isCh p (up l)) = true) (gp : GP p) (wp : WP p) (cv : CV p l) (hL : lastsP p l ls = true) (hfi : canP (pFF p l ls) l = true) (hf : rfits p l ls = true) (hlm : l ∈ choicesC p) : APure Tryz.prog 12 [plan p, nats l, ints ls] (B true) := by
 refine apure_of (rs := [.tmp 6]) Tryz.func12 rfl rfl (Nat.le_of_ble_eq_true rfl) (by simp [AV.pureL, AV.pureB, AV.pureE, pureE_map]) (rfl) fun e0 he0 => ?_
 have hla := rlasts_pure p l ls cv (by omega)
 rw [hL] at hla
 have hch : chosenB p (up l) = true := by rw [chosenB, Bool.and_assoc, hc, hk]; rfl
 have inc := ris_inc (Bool.and_eq_true_iff.1 hc).1
 have hpp := parts_ok hk cv
 have hlen := (lasts_at hL).1
 have hlb := lasts_bds gp cv hL
 have h59 := ft_yes hs hl hch hL
 rw [hfi] at h59
 have hcn : ¬ (choicesC p).length = 0 := fun e => by rw [List.length_eq_zero_iff.1 e] at hlm; cases hlm
 have hl3 := endsT_len p 3
 have hwl := wordsT_len p p.scenes.length
 have hfit : FitH p l (endR p l ls 0, endR p l ls 1, endR p l ls 2) := fit_of cv inc hL hpp hf
 refine aw_seq (aw_region ?_)
 refine sq_box rfl (lr _) rfl ?_
 refine asr (lr _) rfl ?_
 refine sq_nil (aw_seq (aw_seq (aw_region ?_)))
 refine sq_ev rfl (ev_load_agg (lr _) rfl ty27 rfl) ?_
 refine sq_ev rfl (ev_call en20 (lr _) (short_yes hs) ⟨lr _, trivial⟩) ?_
 refine sq_ev rfl (ev_not (lr _)) ?_
 refine mvr (lr _) rfl ?_
 refine sq_split 24 (lr _) (fun g1 => ?_) (fun g1 => ?_)
 ·
  have g1' := g1
  try simp only [qq] at g1'
  first | exact absurd g1 (by decide) | (exfalso; simp at g1; done) | (exfalso; simp at g1; omega)
 ·
  have g1' := g1
  try simp only [qq] at g1'
  refine sq_yes rfl rfl (less_b g1) rfl (ev_mv (v := .sl _ _) (lr _)) ?_
  refine sq_yes rfl rfl (less_b g1) rfl (ev_call en45 (lr _) (slim_yesN hl) ⟨lr _, trivial⟩) ?_
  refine sq_yes rfl rfl (less_b g1) rfl (ev_not (lr _)) ?_
  refine sq_ev rfl (ev_pickF (v := .raw _) (less_b g1) (lr _)) ?_
  refine mvr (lr _) rfl ?_
  refine sq_split 29 (lr _) (fun g2 => ?_) (fun g2 => ?_)
  ·
   have g2' := g2
   try simp only [qq] at g2'
   first | exact absurd g2 (by decide) | (exfalso; simp at g2; done) | (exfalso; simp at g2; omega)
  ·
   have g2' := g2
   try simp only [qq] at g2'
   refine sq_yes rfl rfl (less_b g2) rfl (ev_mv (v := .sl _ _) (lr _)) ?_
   refine sq_yes rfl rfl (less_b g2) rfl (ev_call en45 (lr _) (slim_yes hls) ⟨lr _, trivial⟩) ?_
   refine sq_yes rfl rfl (less_b g2) rfl (ev_not (lr _)) ?_
   refine sq_ev rfl (ev_pickF (v := .raw _) (less_b g2) (lr _)) ?_
   refine mvr (lr _) rfl ?_
   refine sq_split 34 (lr _) (fun g3 => ?_) (fun g3 => ?_)
   ·
    have g3' := g3
    try simp only [qq] at g3'
    first | exact absurd g3 (by decide) | (exfalso; simp at g3; done) | (exfalso; simp at g3; omega)
   ·
    have g3' := g3
    try simp only [qq] at g3'
    refine sq_yes rfl rfl (less_b g3) rfl (ev_load_agg (lr _) rfl ty27 rfl) ?_
    refine sq_yes rfl rfl (less_b g3) rfl (ev_call en24 (lr _) (plan_yes hs hk) ⟨lr _, trivial⟩) ?_
    refine sq_yes rfl rfl (less_b g3) rfl (ev_not (lr _)) ?_
    refine sq_ev rfl (ev_pickF (v := .raw _) (less_b g3) (lr _)) ?_
    refine mvr (lr _) rfl ?_
    refine sq_split 39 (lr _) (fun g4 => ?_) (fun g4 => ?_)
    ·
     have g4' := g4
     try simp only [qq] at g4'
     first | exact absurd g4 (by decide) | (exfalso; simp at g4; done) | (exfalso; simp at g4; omega)
    ·
     have g4' := g4
     try simp only [qq] at g4'
     refine sq_yes rfl rfl (less_b g4) rfl (ev_load_agg (lr _) rfl ty27 rfl) ?_
     refine sq_yes rfl rfl (less_b g4) rfl (ev_mv (v := .sl _ _) (lr _)) ?_
     refine sq_yes rfl rfl (less_b g4) rfl (ev_call en47 (lr _) (cho_yesN hs hl hc) ⟨lr _, lr _, trivial⟩) ?_
     refine sq_yes rfl rfl (less_b g4) rfl (ev_not (lr _)) ?_
     refine sq_ev rfl (ev_pickF (v := .raw _) (less_b g4) (lr _)) ?_
     refine mvr (lr _) rfl ?_
     refine sq_split 45 (lr _) (fun g5 => ?_) (fun g5 => ?_)
     ·
      have g5' := g5
      try simp only [qq] at g5'
      first | exact absurd g5 (by decide) | (exfalso; simp at g5; done) | (exfalso; simp at g5; omega)
     ·
      have g5' := g5
      try simp only [qq] at g5'
      refine sq_yes rfl rfl (less_b g5) rfl (ev_load_agg (lr _) rfl ty27 rfl) ?_
      refine sq_yes rfl rfl (less_b g5) rfl (ev_mv (v := .sl _ _) (lr _)) ?_
      refine sq_yes rfl rfl (less_b g5) rfl (ev_mv (v := .sl _ _) (lr _)) ?_
      refine sq_yes rfl rfl (less_b g5) rfl (ev_call en58 (lr _) (hla) ⟨lr _, lr _, lr _, trivial⟩) ?_
      refine sq_yes rfl rfl (less_b g5) rfl (ev_not (lr _)) ?_
      refine sq_ev rfl (ev_pickF (v := .raw _) (less_b g5) (lr _)) ?_
      refine sq_nil ?_
      refine aw_cond (lr _) (fun c6 => ?_) (fun c6 => ?_)
      ·
       have c6' := c6
       try simp only [qq] at c6'
       first | exact absurd c6 (by decide) | (exfalso; simp at c6; done) | (exfalso; simp at c6; omega)
      ·
       have c6' := c6
       try simp only [qq] at c6'
       refine aw_skip (aw_seq (aw_region ?_))
       refine sq_ev rfl (ev_load_agg (lr _) rfl ty27 rfl) ?_
       refine sq_ev rfl (ev_mv (v := .sl _ _) (lr _)) ?_
       refine sq_ev rfl (ev_mv (v := .sl _ _) (lr _)) ?_
       refine sq_ev rfl (ev_call en59 (lr _) (h59) ⟨lr _, lr _, lr _, trivial⟩) ?_
       refine sq_ev rfl (ev_mv (v := .tup _) (lr _)) ?_
       refine sq_ev rfl (ev_extract (lr _) rfl) ?_
       refine sq_ev rfl (ev_extract (lr _) rfl) ?_
       refine asr (lr _) rfl ?_
       refine asr (lr _) rfl ?_
       refine sq_nil (aw_seq (aw_seq (aw_region ?_)))
       refine mvr (lr _) rfl ?_
       refine sq_ev rfl (ev_neq (lr _) (lr _)) ?_
       refine sq_nil ?_
       refine aw_cond (lr _) (fun c7 => ?_) (fun c7 => ?_)
       ·
        have c7' := c7
        try simp only [qq] at c7'
        first | exact absurd c7 (by decide) | (exfalso; simp at c7; done) | (exfalso; simp at c7; omega)
       ·
        have c7' := c7
        try simp only [qq] at c7'
        refine aw_skip (aw_seq (aw_seq (aw_region ?_)))
        refine mvr (lr _) rfl ?_
        refine sq_ev rfl (ev_not (lr _)) ?_
        refine sq_nil ?_
        refine aw_cond (lr _) (fun c8 => ?_) (fun c8 => ?_)
        ·
         have c8' := c8
         try simp only [qq] at c8'
         first | exact absurd c8 (by decide) | (exfalso; simp at c8; done) | (exfalso; simp at c8; omega)
        ·
         have c8' := c8
         try simp only [qq] at c8'
         refine aw_skip (aw_seq (aw_region ?_))
         refine sq_ev rfl (ev_load_agg (lr _) rfl ty27 rfl) ?_
         refine sq_ev rfl (ev_call en31 (lr _) (en_ok hs hk hcn) ⟨lr _, trivial⟩) ?_
         refine sq_ev rfl (ev_mv (v := .tup _) (lr _)) ?_
         refine sq_ev rfl (ev_extract (lr _) rfl) ?_
         refine sq_ev rfl (ev_extract (lr _) rfl) ?_
         refine sq_ev rfl (ev_as (v := .sl _ _) (lr _)) ?_
         refine asr (lr _) rfl ?_
         refine sq_nil (aw_seq (aw_region ?_))
         refine sq_ev rfl (ev_load_agg (lr _) rfl ty27 rfl) ?_
         refine sq_ev rfl (ev_call en42 (lr _) (pd_yes hs hk hcn) ⟨lr _, trivial⟩) ?_
         refine sq_ev rfl (ev_mv (v := .tup _) (lr _)) ?_
         refine sq_ev rfl (ev_extract (lr _) rfl) ?_
         refine sq_ev rfl (ev_extract (lr _) rfl) ?_
         refine sq_ev rfl (ev_as (v := .sl _ _) (lr _)) ?_
         refine asr (lr _) rfl ?_
         refine sq_nil (aw_seq (aw_seq (aw_region ?_)))
         refine mvr (lr _) rfl ?_
         refine sq_ev rfl (ev_neq (lr _) (lr _)) ?_
         refine mvr (lr _) rfl ?_
         refine sq_split 77 (lr _) (fun g9 => ?_) (fun g9 => ?_)
         ·
          have g9' := g9
          try simp only [qq] at g9'
          first | exact absurd g9 (by decide) | (exfalso; simp at g9; done) | (exfalso; simp at g9; omega)
         ·
          have g9' := g9
          try simp only [qq] at g9'
          refine sq_yes rfl rfl (less_b g9) rfl (ev_mv (v := .raw _) (lr _)) ?_
          refine sq_yes rfl rfl (less_b g9) rfl (ev_neq (lr _) (lr _)) ?_
          refine sq_ev rfl (ev_pickF (v := .raw _) (less_b g9) (lr _)) ?_
          refine mvr (lr _) rfl ?_
          refine sq_split 81 (lr _) (fun g10 => ?_) (fun g10 => ?_)
          ·
           have g10' := g10
           try simp only [qq] at g10'
           first | exact absurd g10 (by decide) | (exfalso; simp at g10; done) | (exfalso; simp at g10; omega)
          ·
           have g10' := g10
           try simp only [qq] at g10'
           refine sq_yes rfl rfl (less_b g10) rfl (ev_mv (v := .sl _ _) (lr _)) ?_
           refine sq_yes rfl rfl (less_b g10) rfl (ev_len_map sl43 (lr _)) ?_
           refine sq_yes rfl rfl (less_b g10) rfl (ev_neq (lr _) (lr _)) ?_
           refine sq_ev rfl (ev_pickF (v := .raw _) (less_b g10) (lr _)) ?_
           refine mvr (lr _) rfl ?_
           refine sq_split 86 (lr _) (fun g11 => ?_) (fun g11 => ?_)
           ·
            have g11' := g11
            try simp only [qq] at g11'
            first | exact absurd g11 (by decide) | (exfalso; simp at g11; done) | (exfalso; simp at g11; omega)
           ·
            have g11' := g11
            try simp only [qq] at g11'
            refine sq_yes rfl rfl (less_b g11) rfl (ev_mv (v := .sl _ _) (lr _)) ?_
            refine sq_yes rfl rfl (less_b g11) rfl (ev_len_map sl57 (lr _)) ?_
            refine sq_yes rfl rfl (less_b g11) rfl (ev_fieldAddr fo27_3 (lr _)) ?_
            refine sq_yes rfl rfl (less_b g11) rfl (ev_load (lr _) rfl ty25 rfl) ?_
            refine sq_yes rfl rfl (less_b g11) rfl (ev_len_map sl25 (lr _)) ?_
            refine sq_yes rfl rfl (less_b g11) rfl (ev_neq (lr _) (lr _)) ?_
            refine sq_ev rfl (ev_pickF (v := .raw _) (less_b g11) (lr _)) ?_
            refine sq_nil ?_
            refine aw_cond (lr _) (fun c12 => ?_) (fun c12 => ?_)
            ·
             have c12' := c12
             try simp only [qq] at c12'
             first | exact absurd c12 (by decide) | (exfalso; simp at c12; done) | (exfalso; simp at c12; omega)
            ·
             have c12' := c12
             try simp only [qq] at c12'
             refine aw_skip (aw_seq (aw_seq (aw_region ?_)))
             refine asr (lr _) rfl ?_
             refine sq_nil (aw_block ?_)
             refine aw_loopk (ι := { k : Nat // k ≤ 3 }) [1, 2, 3, 9, 11] (fun k => [(13, I k.1)]) (fun H k => H) (fun k => 3 - k.1) (⟨0, by omega⟩) ⟨lr _, lr _, lr _, lr _, lr _, lr _, trivial⟩ rfl ?_
             rintro ⟨k, hk3⟩
             dsimp only [keepS, St.put, sget, slotsOf, List.map_cons, List.map_nil, List.cons_append, List.nil_append, List.length_cons, List.length_nil, Nat.reduceBEq, Nat.reduceAdd, cond_true, cond_false]
             refine aw_seq (aw_seq (aw_region ?_))
             refine mvr (lr _) rfl ?_
             refine sq_ev rfl (ev_lss (lr _) (lr _)) ?_
             refine sq_nil ?_
             refine aw_cond (lr _) (fun c13 => ?_) (fun c13 => ?_)
             ·
              have c13' := c13
              try simp only [qq] at c13'
              have hk4 : k < 3 := by omega
              have hek : (endsT p 3)[k] = endT p k (choicesC p).length := by simp [endsT]
              have hei := end_in gp wp hlm hfit hk4
              have hpk : (prH p (endR p l ls 0, endR p l ls 1, endR p l ls 2) k).2 = endR p l ls (k : Int) := by rcases k with _ | _ | _ | k <;> first | rfl | omega
              rw [hpk] at hei
              refine aw_skip (aw_seq (aw_block (aw_seq ?_)))
              refine aw_draw 11 mo (by kernel_rfl) ?_
              refine dr_ev rfl (ev_load_agg (lr _) rfl ty27 rfl) ?_
              refine dr_ev rfl (ev_mv (v := .sl _ _) (lr _)) ?_
              refine dr_ev rfl (ev_mv (v := .sl _ _) (lr _)) ?_
              refine dr_ev rfl (ev_mv (v := .raw _) (lr _)) ?_
              refine dr_ev rfl (ev_call en61 (lr _) (rend_pure p l ls (k : Int) gp cv hlen hlb) ⟨lr _, lr _, lr _, lr _, trivial⟩) ?_
              refine dr_ev rfl (ev_mv (v := .sl _ _) (lr _)) ?_
              refine dr_ev rfl (ev_mv (v := .raw _) (lr _)) ?_
              refine dr_ev rfl (ev_index_map sl43 (lr _) (lr _) rfl (by omega)) ?_
              refine dr_ev rfl (ev_load_agg_i (lr _) ty23 (Nat.le_of_ble_eq_true rfl)) ?_
              refine dr_ev rfl (ev_call en60 (lr _) (rwithin_pure _ _ _) ⟨lr _, lr _, trivial⟩) ?_
              refine dr_ev rfl (ev_not (lr _)) ?_
              refine dr_end (sq_nil ?_)
              refine aw_cond (lr _) (fun c14 => ?_) (fun c14 => ?_)
              ·
               have c14' := c14
               try simp only [qq] at c14'
               exfalso
               have hx : inn (endR p l ls (k : Int)) ((endsT p 3)[k]).1 ((endsT p 3)[k]).2 = true := by rw [hek]; exact inn_yes hei
               exact Bool.noConfusion (hx.symm.trans c14')
              ·
               have c14' := c14
               try simp only [qq] at c14'
               refine aw_skip (aw_region ?_)
               refine mvr (lr _) rfl ?_
               refine sq_ev rfl (ev_add (lr _) (lr _) (wr (by omega) (by omega))) ?_
               refine asr (lr _) rfl ?_
               refine sq_nil ?_
               exact ⟨⟨k + 1, by omega⟩, by simp only; omega, Sub.slots ⟨lr _, lr _, lr _, lr _, lr _, lr _, trivial⟩⟩
             ·
              have c13' := c13
              try simp only [qq] at c13'
              obtain rfl : k = 3 := by omega
              refine aw_exit (aw_seq (aw_seq (aw_region ?_)))
              refine asr (lr _) rfl ?_
              refine sq_nil (aw_block ?_)
              refine aw_loopk (ι := { i : Nat // i ≤ p.scenes.length }) [1, 2, 3, 11] (fun i => [(14, I i.1)]) (fun H i => H) (fun i => p.scenes.length - i.1) (⟨0, by omega⟩) ⟨lr _, lr _, lr _, lr _, lr _, trivial⟩ rfl ?_
              rintro ⟨i, hi⟩
              dsimp only [keepS, St.put, sget, slotsOf, List.map_cons, List.map_nil, List.cons_append, List.nil_append, List.length_cons, List.length_nil, Nat.reduceBEq, Nat.reduceAdd, cond_true, cond_false]
              refine aw_seq (aw_seq (aw_region ?_))
              refine mvr (lr _) rfl ?_
              refine sq_ev rfl (ev_mv (v := .sl _ _) (lr _)) ?_
              refine sq_ev rfl (ev_len_map sl57 (lr _)) ?_
              refine sq_ev rfl (ev_lss (lr _) (lr _)) ?_
              refine sq_nil ?_
              refine aw_cond (lr _) (fun c15 => ?_) (fun c15 => ?_)
              ·
               have c15' := c15
               try simp only [qq] at c15'
               have hi' : i < p.scenes.length := by omega
               have hwi : (wordsT p p.scenes.length)[i] = word p i := by simp [wordsT]
               refine aw_skip (aw_seq (aw_block (aw_seq (aw_region ?_))))
               refine sq_ev rfl (ev_mv (v := .sl _ _) (lr _)) ?_
               refine mvr (lr _) rfl ?_
               refine sq_ev rfl (ev_call en62 (lr _) (has_nats l i (by omega)) ⟨lr _, lr _, trivial⟩) ?_
               refine mvr (lr _) rfl ?_
               refine sq_split 118 (lr _) (fun g16 => ?_) (fun g16 => ?_)
               ·
                have g16' := g16
                try simp only [qq] at g16'
                have hmi : i ∈ l := by simpa using g16
                have hwd := word_has hlm hmi
                refine sq_yes rfl rfl (less_b g16) rfl (ev_mv (v := .sl _ _) (lr _)) ?_
                refine sq_yes rfl rfl (less_b g16) rfl (ev_mv (v := .raw _) (lr _)) ?_
                refine sq_yes rfl rfl (less_b g16) rfl (ev_index_map sl57 (lr _) (lr _) rfl (by omega)) ?_
                refine sq_yes rfl rfl (less_b g16) rfl (ev_load_i (lr _) ty92 rfl) ?_
                refine sq_yes rfl rfl (less_b g16) rfl (ev_eql (lr _) (lr _)) ?_
                refine sq_ev rfl (ev_pickT (v := .raw _) (less_b g16) (lr _)) ?_
                refine mvr (lr _) rfl ?_
                refine sq_split 125 (lr _) (fun g17 => ?_) (fun g17 => ?_)
                ·
                 have g17' := g17
                 try simp only [qq] at g17'
                 exfalso
                 rw [hwi] at g17
                 exact hwd (by simpa using g17)
                ·
                 have g17' := g17
                 try simp only [qq] at g17'
                 refine sq_yes rfl rfl (less_b g17) rfl (ev_mv (v := .sl _ _) (lr _)) ?_
                 refine sq_yes rfl rfl (less_b g17) rfl (ev_mv (v := .raw _) (lr _)) ?_
                 refine sq_yes rfl rfl (less_b g17) rfl (ev_call en62 (lr _) (has_nats l i (by omega)) ⟨lr _, lr _, trivial⟩) ?_
                 refine sq_yes rfl rfl (less_b g17) rfl (ev_not (lr _)) ?_
                 refine sq_yes rfl rfl (less_b g17) rfl (ev_mv (v := .raw _) (lr _)) ?_
                 refine sq_split 130 (lr _) (fun g18 => ?_) (fun g18 => ?_)
                 ·
                  have g18' := g18
                  try simp only [qq] at g18'
                  exfalso
                  simp [hmi] at g18
                 ·
                  have g18' := g18
                  try simp only [qq] at g18'
                  refine sq_no rfl rfl (less_b g18) rfl rfl ?_
                  refine sq_no rfl rfl (less_b g18) rfl rfl ?_
                  refine sq_no rfl rfl (less_b g18) rfl rfl ?_
                  refine sq_no rfl rfl (less_b g18) rfl rfl ?_
                  refine sq_no rfl rfl (less_b g18) rfl rfl ?_
                  refine sq_yes rfl rfl (less_b g17) rfl (ev_pickF (v := .raw _) (less_b g18) (lr _)) ?_
                  refine sq_ev rfl (ev_pickF (v := .raw _) (less_b g17) (lr _)) ?_
                  refine sq_nil ?_
                  refine aw_false (lr _) ?_
                  refine aw_skip (aw_region ?_)
                  refine mvr (lr _) rfl ?_
                  refine sq_ev rfl (ev_add (lr _) (lr _) (wr (by omega) (by omega))) ?_
                  refine asr (lr _) rfl ?_
                  refine sq_nil ?_
                  exact ⟨⟨i + 1, by omega⟩, by simp only; omega, Sub.slots ⟨lr _, lr _, lr _, lr _, lr _, trivial⟩⟩
               ·
                have g16' := g16
                try simp only [qq] at g16'
                have hmi : ¬ i ∈ l := by simpa using g16
                have hwd := word_nohas hlm hmi
                refine sq_no rfl rfl (less_b g16) rfl rfl ?_
                refine sq_no rfl rfl (less_b g16) rfl rfl ?_
                refine sq_no rfl rfl (less_b g16) rfl rfl ?_
                refine sq_no rfl rfl (less_b g16) rfl rfl ?_
                refine sq_no rfl rfl (less_b g16) rfl rfl ?_
                refine sq_ev rfl (ev_pickF (v := .raw _) (less_b g16) (lr _)) ?_
                refine mvr (lr _) rfl ?_
                refine sq_yes rfl rfl (lr _) rfl (ev_mv (v := .sl _ _) (lr _)) ?_
                refine sq_yes rfl rfl (lr _) rfl (ev_mv (v := .raw _) (lr _)) ?_
                refine sq_yes rfl rfl (lr _) rfl (ev_call en62 (lr _) (has_nats l i (by omega)) ⟨lr _, lr _, trivial⟩) ?_
                refine sq_yes rfl rfl (lr _) rfl (ev_not (lr _)) ?_
                refine sq_yes rfl rfl (lr _) rfl (ev_mv (v := .raw _) (lr _)) ?_
                refine sq_split 130 (lr _) (fun g19 => ?_) (fun g19 => ?_)
                ·
                 have g19' := g19
                 try simp only [qq] at g19'
                 refine sq_yes rfl rfl (less_b g19) rfl (ev_mv (v := .sl _ _) (lr _)) ?_
                 refine sq_yes rfl rfl (less_b g19) rfl (ev_mv (v := .raw _) (lr _)) ?_
                 refine sq_yes rfl rfl (less_b g19) rfl (ev_index_map sl57 (lr _) (lr _) rfl (by omega)) ?_
                 refine sq_yes rfl rfl (less_b g19) rfl (ev_load_i (lr _) ty92 rfl) ?_
                 refine sq_yes rfl rfl (less_b g19) rfl (ev_eql (lr _) (lr _)) ?_
                 refine sq_yes rfl rfl (lr _) rfl (ev_pickT (v := .raw _) (less_b g19) (lr _)) ?_
                 refine sq_ev rfl (ev_pickF (v := .raw _) (lr _) (lr _)) ?_
                 refine sq_nil ?_
                 refine aw_cond (lr _) (fun c20 => ?_) (fun c20 => ?_)
                 ·
                  have c20' := c20
                  try simp only [qq] at c20'
                  exfalso
                  rw [hwi] at c20
                  exact hwd (by simpa using c20)
                 ·
                  have c20' := c20
                  try simp only [qq] at c20'
                  refine aw_skip (aw_region ?_)
                  refine mvr (lr _) rfl ?_
                  refine sq_ev rfl (ev_add (lr _) (lr _) (wr (by omega) (by omega))) ?_
                  refine asr (lr _) rfl ?_
                  refine sq_nil ?_
                  exact ⟨⟨i + 1, by omega⟩, by simp only; omega, Sub.slots ⟨lr _, lr _, lr _, lr _, lr _, trivial⟩⟩
                ·
                 have g19' := g19
                 try simp only [qq] at g19'
                 exfalso
                 simp [hmi] at g19
              ·
               have c15' := c15
               try simp only [qq] at c15'
               refine aw_exit (aw_seq (aw_region ?_))
               refine sq_ev rfl (ev_fieldAddr fo27_0 (lr _)) ?_
               refine sq_ev rfl (ev_load (lr _) rfl ty3 rfl) ?_
               refine asr (lr _) rfl ?_
               refine sq_nil (aw_seq (aw_seq (aw_region ?_)))
               refine asr (lr _) rfl ?_
               refine sq_nil (aw_block ?_)
               refine aw_loopk (ι := { i : Nat // i ≤ l.length }) [1, 2, 3] (fun i => [(16, I i.1), (15, I (nowI p ls i.1))]) (fun H i => H) (fun i => l.length - i.1) (⟨0, by omega⟩) ⟨lr _, lr _, lr _, lr _, lr _, trivial⟩ rfl ?_
               rintro ⟨i, hi⟩
               dsimp only [keepS, St.put, sget, slotsOf, List.map_cons, List.map_nil, List.cons_append, List.nil_append, List.length_cons, List.length_nil, Nat.reduceBEq, Nat.reduceAdd, cond_true, cond_false]
               refine aw_seq (aw_seq (aw_region ?_))
               refine mvr (lr _) rfl ?_
               refine sq_ev rfl (ev_mv (v := .sl _ _) (lr _)) ?_
               refine sq_ev rfl (ev_len_map sl34 (lr _)) ?_
               refine sq_ev rfl (ev_lss (lr _) (lr _)) ?_
               refine sq_nil ?_
               refine aw_cond (lr _) (fun c21 => ?_) (fun c21 => ?_)
               ·
                have c21' := c21
                try simp only [qq] at c21'
                have hi' : i < l.length := by omega
                have hil : i < ls.length := by omega
                have hgd : ls.getD i 0 = ls[i] := getD_at hil 0
                have hti := time_in hk gp wp hlm hL hf hi'
                rw [hgd] at hti
                have hnb := nowI_bd gp hlb i (by omega)
                have hlv := hlb _ (List.getElem_mem hil)
                refine aw_skip (aw_seq (aw_block (aw_seq ?_)))
                refine aw_drawc [9] [10] _ mo (by kernel_rfl) (HSub.refl _) ?_
                refine dc_ev rfl (ev_load_agg (lr _) rfl ty27 rfl) ?_
                refine dc_ev rfl (ev_mv (v := .sl _ _) (lr _)) ?_
                refine dc_ev rfl (ev_mv (v := .raw _) (lr _)) ?_
                refine dc_ev rfl (ev_index_map sl34 (lr _) (lr _) rfl (by omega)) ?_
                refine dc_ev rfl (ev_load_i (lr _) ty3 rfl) ?_
                refine dc_ev rfl (ev_call en29 (lr _) (tt_pure hs hk hlm (List.getElem_mem hi') (cv.rng _ (List.getElem_mem hi'))) ⟨lr _, lr _, trivial⟩) ?_
                refine dc_ev rfl (ev_mv (v := .tup _) (lr _)) ?_
                refine dc_ev rfl (ev_extract (lr _) rfl) ?_
                refine dc_ev rfl (ev_extract (lr _) rfl) ?_
                refine dc_alloc rfl rfl z23 ?_
                refine dc_eff rfl rfl (eff_store rfl (lr _) (lr _) rfl rfl ty23 rfl rfl) (by apply HL.sub; repeat' (first | exact HL.nil _ | apply HL.same | apply HL.tok)) ?_
                refine dc_ev rfl (ev_as (v := .raw _) (lr _)) ?_
                refine dc_nil (aw_seq ?_)
                refine aw_drawc [9] [10] _ mo (by kernel_rfl) (HSub.refl _) ?_
                refine dc_ev rfl (ev_load_agg (lr _) rfl ty27 rfl) ?_
                refine dc_ev rfl (ev_mv (v := .sl _ _) (lr _)) ?_
                refine dc_ev rfl (ev_mv (v := .raw _) (lr _)) ?_
                refine dc_ev rfl (ev_index_map sl34 (lr _) (lr _) rfl (by omega)) ?_
                refine dc_ev rfl (ev_load_i (lr _) ty3 rfl) ?_
                refine dc_ev rfl (ev_call en30 (lr _) (ll_pure hs hk hlm (List.getElem_mem hi') (cv.rng _ (List.getElem_mem hi'))) ⟨lr _, lr _, trivial⟩) ?_
                refine dc_ev rfl (ev_mv (v := .tup _) (lr _)) ?_
                refine dc_ev rfl (ev_extract (lr _) rfl) ?_
                refine dc_ev rfl (ev_extract (lr _) rfl) ?_
                refine dc_alloc rfl rfl z23 ?_
                refine dc_eff rfl rfl (eff_store rfl (lr _) (lr _) rfl rfl ty23 rfl rfl) (by apply HL.sub; repeat' (first | exact HL.nil _ | apply HL.same | apply HL.tok)) ?_
                refine dc_ev rfl (ev_as (v := .raw _) (lr _)) ?_
                refine dc_nil (aw_seq (aw_seq ?_))
                refine aw_draw 21 mo (by kernel_rfl) ?_
                refine dr_ev rfl (ev_mv (v := .raw _) (lr _)) ?_
                refine dr_ev rfl (ev_neq (lr _) (lr _)) ?_
                refine dr_ev rfl (ev_mv (v := .raw _) (lr _)) ?_
                refine dr_split 166 (lr _) (fun g22 => ?_) (fun g22 => ?_)
                ·
                 have g22' := g22
                 try simp only [qq] at g22'
                 first | exact absurd g22 (by decide) | (exfalso; simp at g22; done) | (exfalso; simp at g22; omega)
                ·
                 have g22' := g22
                 try simp only [qq] at g22'
                 refine dr_yes rfl rfl (less_b g22) rfl (ev_mv (v := .raw _) (lr _)) ?_
                 refine dr_yes rfl rfl (less_b g22) rfl (ev_neq (lr _) (lr _)) ?_
                 refine dr_ev rfl (ev_pickF (v := .raw _) (less_b g22) (lr _)) ?_
                 refine dr_ev rfl (ev_mv (v := .raw _) (lr _)) ?_
                 refine dr_split 170 (lr _) (fun g23 => ?_) (fun g23 => ?_)
                 ·
                  have g23' := g23
                  try simp only [qq] at g23'
                  first | exact absurd g23 (by decide) | (exfalso; simp at g23; done) | (exfalso; simp at g23; omega)
                 ·
                  have g23' := g23
                  try simp only [qq] at g23'
                  refine dr_yes rfl rfl (less_b g23) rfl (ev_mv (v := .raw _) (lr _)) ?_
                  refine dr_yes rfl rfl (less_b g23) rfl (ev_load_agg (lr _) rfl ty23 rfl) ?_
                  refine dr_yes rfl rfl (less_b g23) rfl (ev_call en60 (lr _) (rwithin_pure _ _ _) ⟨lr _, lr _, trivial⟩) ?_
                  refine dr_yes rfl rfl (less_b g23) rfl (ev_not (lr _)) ?_
                  refine dr_ev rfl (ev_pickF (v := .raw _) (less_b g23) (lr _)) ?_
                  refine dr_ev rfl (ev_mv (v := .raw _) (lr _)) ?_
                  refine dr_split 176 (lr _) (fun g24 => ?_) (fun g24 => ?_)
                  ·
                   have g24' := g24
                   try simp only [qq] at g24'
                   exfalso
                   exact Bool.noConfusion (hti.1.symm.trans g24')
                  ·
                   have g24' := g24
                   try simp only [qq] at g24'
                   refine dr_yes rfl rfl (less_b g24) rfl (ev_mv (v := .sl _ _) (lr _)) ?_
                   refine dr_yes rfl rfl (less_b g24) rfl (ev_mv (v := .raw _) (lr _)) ?_
                   refine dr_yes rfl rfl (less_b g24) rfl (ev_index_map sl34 (lr _) (lr _) rfl (by omega)) ?_
                   refine dr_yes rfl rfl (less_b g24) rfl (ev_load_i (lr _) ty3 rfl) ?_
                   refine dr_yes rfl rfl (less_b g24) rfl (ev_load_agg (lr _) rfl ty23 rfl) ?_
                   refine dr_yes rfl rfl (less_b g24) rfl (ev_call en60 (lr _) (rwithin_pure _ _ _) ⟨lr _, lr _, trivial⟩) ?_
                   refine dr_yes rfl rfl (less_b g24) rfl (ev_not (lr _)) ?_
                   refine dr_ev rfl (ev_pickF (v := .raw _) (less_b g24) (lr _)) ?_
                   refine dr_end (sq_nil ?_)
                   refine aw_cond (lr _) (fun c25 => ?_) (fun c25 => ?_)
                   ·
                    have c25' := c25
                    try simp only [qq] at c25'
                    exfalso
                    exact Bool.noConfusion (hti.2.symm.trans c25')
                   ·
                    have c25' := c25
                    try simp only [qq] at c25'
                    refine aw_skip (aw_region ?_)
                    refine mvr (lr _) rfl ?_
                    refine sq_ev rfl (ev_mv (v := .sl _ _) (lr _)) ?_
                    refine mvr (lr _) rfl ?_
                    refine sq_ev rfl (ev_index_map sl34 (lr _) (lr _) rfl (by omega)) ?_
                    refine sq_ev rfl (ev_load_i (lr _) ty3 rfl) ?_
                    refine sq_ev rfl (ev_add (lr _) (lr _) (wr (by omega) (by omega))) ?_
                    refine asr (lr _) rfl ?_
                    refine sq_nil (aw_region ?_)
                    refine mvr (lr _) rfl ?_
                    refine sq_ev rfl (ev_add (lr _) (lr _) (wr (by omega) (by omega))) ?_
                    refine asr (lr _) rfl ?_
                    refine sq_nil ?_
                    exact ⟨⟨i + 1, by omega⟩, by simp only; omega, Sub.fin 1 ⟨lr _, (by exact less_int (by rw [nowI, hgd])), lr _, lr _, lr _, trivial⟩ rfl (by simp [slotsIn, objsIn, sget, keepS, AObj.inB, AV.inB, AV.inL, AV.inE, inE_map]) (by simp [slotsIn, objsIn, sget, keepS, AObj.inB, AV.inB, AV.inL, AV.inE, inE_map]) (by simp [he0])⟩
               ·
                have c21' := c21
                try simp only [qq] at c21'
                refine aw_exit (aw_seq (aw_region ?_))
                refine sq_ev rfl (ev_call en21 (lr _) (known_pure) trivial) ?_
                refine asr (lr _) rfl ?_
                refine sq_nil (aw_ret ?_)
                exact retQ_pure (v := .raw _) rfl rfl (lr _)

/-- **NightWithin returns true.** -/
theorem law12 (p : Pl) (l ls : List Int) : APure Tryz.prog 12 [plan p, ints l, ints ls] (B true) := by
  by_cases hs : p.scenes.length ≤ 12
  · by_cases hl : l.length ≤ 12
    · by_cases hls : ls.length ≤ 12
      · cases hk : PlOK p with
        | false => exact law12_bad p l ls hs hl hls hk
        | true =>
          cases hc : (Ris p l && isCh p l) with
          | false => exact law12_cho p l ls hs hl hls hk hc
          | true =>
            obtain ⟨l', rfl, cv, gp, wp⟩ := chosen_up (p := p) (l := l) (by rw [chosenB, Bool.and_assoc, hc, hk]; rfl)
            rw [ints_up]
            have hl' : l'.length ≤ 12 := by simpa [up] using hl
            cases hL : lastsP p l' ls with
            | false => exact law12_last p l' ls hs hl' hls hk hc gp wp cv hL
            | true =>
              have inc := ris_inc (Bool.and_eq_true_iff.1 hc).1
              have hpp := parts_ok hk cv
              obtain ⟨g1, g2, g3⟩ := pF_ok gp wp cv hL l'.length (Nat.le_refl _)
              have e : canP (pFF p l' ls) l' = rfits p l' ls := (canP_can g2 g3).trans (fits_iff gp wp cv inc hL hpp)
              cases hfi : canP (pFF p l' ls) l' with
              | false => exact law12_not p l' ls hs hl' hls hk hc gp wp cv hL hfi
              | true =>
                have hf : rfits p l' ls = true := by rw [← e]; exact hfi
                exact law12_fit p l' ls hs hl' hls hk hc gp wp cv hL hfi hf (List.mem_filter.2 ⟨mem_allC inc cv.rng (Bool.and_eq_true_iff.1 hc).2, can_of wp cv inc hL hpp hf⟩)
      · exact law12_slims p l ls hs hl hls
    · exact law12_slim p l ls hs hl
  · exact law12_long p l ls hs

end Go.Proofs.YtjghdbdiejaacaaGreatDoor
