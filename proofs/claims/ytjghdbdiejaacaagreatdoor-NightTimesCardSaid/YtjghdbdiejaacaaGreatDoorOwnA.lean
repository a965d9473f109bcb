/-
  A part of the proof: conditions: none beyond each theorem's own.
-/
import Derived.Test.YtjghdbdiejaacaaGreatDoorSpecA
import Derived.Test.YtjghdbdiejaacaaGreatDoorLogicC
import Derived.KernelRfl
import Derived.Lib.LaidTab
import Derived.Lib.ItoaNum
import Derived.Test.YtjghdbdiejaacaaGreatDoorProg
import Derived.Test.YtjghdbdiejaacaaGreatDoorWalkF
import Derived.Test.YtjghdbdiejaacaaGreatDoorWalkG
import Derived.Test.YtjghdbdiejaacaaGreatDoorLogicD
import Derived.Test.YtjghdbdiejaacaaGreatDoorLogicA
import Derived.Test.YtjghdbdiejaacaaGreatDoorLogicB
import Derived.Test.YtjghdbdiejaacaaGreatDoorShelf
import Derived.Test.YtjghdbdiejaacaaGreatDoorWalkA
import Derived.Test.YtjghdbdiejaacaaGreatDoorWalkB
import Derived.Test.YtjghdbdiejaacaaGreatDoorWalkC
import Derived.Test.YtjghdbdiejaacaaGreatDoorWalkD
import Derived.Test.YtjghdbdiejaacaaGreatDoorWalkE
import Derived.Test.YtjghdbdiejaacaaGreatDoorRow
set_option linter.all false
namespace Ni
theorem has_yes {l : List Int} {n : Int} {k : Nat} (h : k < l.length) (e : l[k] = n) : has l n = true := by
  simp only [has, decide_eq_true_eq]; exact e ▸ List.getElem_mem h
theorem has_no {l : List Int} {n : Int} {k : Nat} (hn : ¬ (k : Int) < l.length) (h : ∀ i, (h : i < l.length) → i < k → l[i] ≠ n) : has l n = false := by
  simp only [has, decide_eq_false_iff_not]
  intro hm
  obtain ⟨j, hj, e⟩ := List.getElem_of_mem hm
  exact h j hj (by omega) e
theorem ssum_take {f : Nat → Int} {c : Nat → Bool} {l : List Nat} {k : Nat} (h : k < l.length) : ssum f c (l.take (k + 1)) = ssum f c (l.take k) + (if c l[k] = true then f l[k] else 0) := by
  unfold ssum
  rw [List.take_succ_eq_append_getElem h, List.filter_append, List.map_append, List.sum_append]
  by_cases hc : c l[k] = true <;> simp [hc]
theorem ssum_bd {f : Nat → Int} {c : Nat → Bool} : ∀ {l : List Nat}, (∀ x ∈ l, 0 ≤ f x ∧ f x ≤ 10000) → 0 ≤ ssum f c l ∧ ssum f c l ≤ 10000 * l.length
  | [], _ => by simp [ssum]
  | x :: l, h => by
    have ih := ssum_bd (c := c) (l := l) (fun y hy => h y (List.mem_cons_of_mem _ hy))
    have hx := h x (by simp)
    have e : ssum f c (x :: l) = (if c x = true then f x else 0) + ssum f c l := by
      unfold ssum
      by_cases hc : c x = true <;> simp [hc]
    rw [e, List.length_cons]
    split <;> omega
theorem ssum_bd_take {f : Nat → Int} {c : Nat → Bool} {l : List Nat} (h : ∀ x ∈ l, 0 ≤ f x ∧ f x ≤ 10000) (hl : l.length ≤ 1000) (k : Nat) : 0 ≤ ssum f c (l.take k) ∧ ssum f c (l.take k) ≤ 10000000 := by
  have := ssum_bd (c := c) (l := l.take k) (fun x hx => h x (List.mem_of_mem_take hx))
  have := List.length_take_le' k l
  omega
theorem lo_bd {p : Pl} {l : List Nat} (gp : GP p) (cv : CV p l) (part a b : Int) (k : Nat) : 0 ≤ lo p (l.take k) part a b ∧ lo p (l.take k) part a b ≤ 10000000 := ssum_bd_take (fun x hx => gp.least (cv.rng x hx)) cv.len k
theorem hi_bd {p : Pl} {l : List Nat} (gp : GP p) (cv : CV p l) (part a b : Int) (k : Nat) : 0 ≤ hi p (l.take k) part a b ∧ hi p (l.take k) part a b ≤ 10000000 := ssum_bd_take (fun x hx => gp.most (cv.rng x hx)) cv.len k
theorem lo_take {p : Pl} {l : List Nat} {k : Nat} (h : k < l.length) (part a b : Int) : lo p (l.take (k + 1)) part a b = lo p (l.take k) part a b + (if inP p part a b l[k] = true then (scn p l[k]).least else 0) := ssum_take h
theorem hi_take {p : Pl} {l : List Nat} {k : Nat} (h : k < l.length) (part a b : Int) : hi p (l.take (k + 1)) part a b = hi p (l.take k) part a b + (if inP p part a b l[k] = true then (scn p l[k]).most else 0) := ssum_take h
theorem lo_bd' {p : Pl} {l : List Nat} (gp : GP p) (cv : CV p l) (part a b : Int) : 0 ≤ lo p l part a b ∧ lo p l part a b ≤ 10000000 := by have := lo_bd gp cv part a b l.length; rwa [List.take_length] at this
theorem hi_bd' {p : Pl} {l : List Nat} (gp : GP p) (cv : CV p l) (part a b : Int) : 0 ≤ hi p l part a b ∧ hi p l part a b ≤ 10000000 := by have := hi_bd gp cv part a b l.length; rwa [List.take_length] at this
theorem fm_zero {α : Type} (f : Nat → List α) : fm 0 f = [] := rfl
theorem hC_len (p : Pl) (l : List Nat) (a b : Int) (k : Nat) : (hC p l a b k).length ≤ 1 := by unfold hC; split <;> simp
theorem wid_le {a b : Int} (h : 0 ≤ a) (k : b ≤ 10000) : wid a b ≤ 10001 := by unfold wid; omega
theorem hB_len {p : Pl} (gp : GP p) (l : List Nat) (a : Int) (j : Nat) : (hB p l a j).length ≤ 10001 := by
  unfold hB; split
  · have := fm_len (hC_len p l a (p.s1l + j)) (wid p.dl p.dh)
    have := wid_le gp.dl.1 gp.dh.2
    omega
  · simp
theorem hA_len {p : Pl} (gp : GP p) (l : List Nat) (i : Nat) : (hA p l i).length ≤ 100020001 := by
  unfold hA; split
  · have := fm_len (hB_len gp l (p.s0l + i)) (wid p.s1l p.s1h)
    have := wid_le gp.s1l.1 gp.s1h.2
    omega
  · simp
theorem hAs_len {p : Pl} (gp : GP p) (l : List Nat) {i : Nat} (h : i ≤ wid p.s0l p.s0h) : (fm i (hA p l)).length ≤ 1000300030001 := by
  have := fm_len (hA_len gp l) i
  have := wid_le gp.s0l.1 gp.s0h.2
  omega
theorem hBs_len {p : Pl} (gp : GP p) (l : List Nat) (a : Int) {j : Nat} (h : j ≤ wid p.s1l p.s1h) : (fm j (hB p l a)).length ≤ 100020001 := by
  have := fm_len (hB_len gp l a) j
  have := wid_le gp.s1l.1 gp.s1h.2
  omega
theorem hCs_len {p : Pl} (gp : GP p) (l : List Nat) (a b : Int) {k : Nat} (h : k ≤ wid p.dl p.dh) : (fm k (hC p l a b)).length ≤ 10001 := by
  have := fm_len (hC_len p l a b) k
  have := wid_le gp.dl.1 gp.dh.2
  omega
theorem hB_eq {p : Pl} {l : List Nat} {a : Int} {j k : Nat} (hk0 : 0 < k → inn (p.s1l + j - a) (lo p l 1 0 10) (hi p l 1 0 10) = true) (h : k = wid p.dl p.dh ∨ inn (p.s1l + j - a) (lo p l 1 0 10) (hi p l 1 0 10) = false) :
    hB p l a j = fm k (hC p l a (p.s1l + j)) := by
  unfold hB
  cases hc : inn (p.s1l + j - a) (lo p l 1 0 10) (hi p l 1 0 10) with
  | true =>
    rw [hc] at h
    rcases h with h | h
    · rw [if_pos rfl, h]
    · cases h
  | false =>
    rw [hc] at hk0
    have : k = 0 := by
      rcases Nat.eq_zero_or_pos k with h0 | h0
      · exact h0
      · have := hk0 h0; cases this
    subst this; rfl
theorem hA_eq {p : Pl} {l : List Nat} {i k : Nat} (hk0 : 0 < k → inn (p.s0l + i - p.beg) (lo p l 0 0 10) (hi p l 0 0 10) = true) (h : k = wid p.s1l p.s1h ∨ inn (p.s0l + i - p.beg) (lo p l 0 0 10) (hi p l 0 0 10) = false) :
    hA p l i = fm k (hB p l (p.s0l + i)) := by
  unfold hA
  cases hc : inn (p.s0l + i - p.beg) (lo p l 0 0 10) (hi p l 0 0 10) with
  | true =>
    rw [hc] at h
    rcases h with h | h
    · rw [if_pos rfl, h]
    · cases h
  | false =>
    rw [hc] at hk0
    have : k = 0 := by
      rcases Nat.eq_zero_or_pos k with h0 | h0
      · exact h0
      · have := hk0 h0; cases this
    subst this; rfl
theorem nxt_nil {now : List Nat} (h : now.length = 0) : nxt now = 0 := by have := List.length_eq_zero_iff.1 h; subst this; rfl
theorem nxt_last {now : List Nat} (h : now.length - 1 < now.length) : nxt now = now[now.length - 1] + 1 := by
  unfold nxt
  rw [List.getLast?_eq_getElem?, List.getElem?_eq_getElem h]
theorem lsts_part {n m : Nat} (now : List Nat) {k : Nat} (hn : n ≤ 16) (h : k ≤ n - nxt now) : (fm k fun i => lsts n m (now ++ [nxt now + i])).length ≤ 65536 := by
  have := fm_pow (d := n - nxt now) (f := fun i => lsts n m (now ++ [nxt now + i])) (fun i hi => by
    have := lsts_len n m (now ++ [nxt now + i])
    rw [nxt_app] at this
    rwa [show n - (nxt now + i + 1) = n - nxt now - (i + 1) by omega] at this) k h
  have h3 : 2 ^ (n - nxt now) ≤ 2 ^ 16 := Nat.pow_le_pow_right (by decide) (by omega)
  exact Nat.le_trans (Nat.le_trans (Nat.le_add_right _ _) this) h3
end Ni
namespace Ni
theorem lsts_inc {n : Nat} : ∀ {m : Nat} {now : List Nat}, now.Pairwise (· < ·) → (∀ x ∈ now, x < nxt now) → ∀ l ∈ lsts n m now, l.Pairwise (· < ·)
  | 0, now, h, _, l, hl => by
    simp only [lsts, List.mem_singleton] at hl
    subst hl; exact h
  | m + 1, now, h, hx, l, hl => by
    simp only [lsts] at hl
    obtain ⟨i, _, hl⟩ := mem_fm.1 hl
    refine lsts_inc (m := m) (now := now ++ [nxt now + i]) ?_ ?_ l hl
    · rw [List.pairwise_append]
      refine ⟨h, by simp, fun a ha b hb => ?_⟩
      simp only [List.mem_singleton] at hb
      have := hx a ha; omega
    · intro x hm
      rw [nxt_app]
      rcases List.mem_append.1 hm with hm | hm
      · have := hx x hm; omega
      · simp only [List.mem_singleton] at hm; omega
theorem allC_inc {p : Pl} {l : List Nat} (h : l ∈ allC p) : l.Pairwise (· < ·) := by
  obtain ⟨i, _, h⟩ := mem_fm.1 h
  unfold aA aL at h
  exact lsts_inc List.Pairwise.nil (by simp) l (List.mem_filter.1 h).1
theorem choicesC_inc {p : Pl} {l : List Nat} (h : l ∈ choicesC p) : l.Pairwise (· < ·) := allC_inc (List.mem_filter.1 h).1
theorem ssum_cons (f : Nat → Int) (c : Nat → Bool) (x : Nat) (l : List Nat) : ssum f c (x :: l) = (if c x = true then f x else 0) + ssum f c l := by
  unfold ssum; rw [List.filter_cons]; split
  · simp
  · simp
theorem ssum_split {f : Nat → Int} {c c1 c2 : Nat → Bool} : ∀ {l : List Nat}, (∀ x ∈ l, c x = (c1 x || c2 x) ∧ (c1 x && c2 x) = false) → ssum f c l = ssum f c1 l + ssum f c2 l
  | [], _ => rfl
  | x :: l, h => by
    have ih := ssum_split (f := f) (l := l) fun y hy => h y (List.mem_cons_of_mem _ hy)
    obtain ⟨h1, h2⟩ := h x (by simp)
    rw [ssum_cons, ssum_cons, ssum_cons, ih, h1]
    generalize c1 x = u at h2 ⊢
    generalize c2 x = v at h2 ⊢
    cases u <;> cases v <;> simp at h2 ⊢ <;> omega
theorem ssum_one {f : Nat → Int} {n : Nat} : ∀ {l : List Nat}, l.Pairwise (· < ·) → n ∈ l → ssum f (fun x => decide (x = n)) l = f n
  | [], _, h => by cases h
  | x :: l, h, hm => by
    rw [ssum_cons]
    rw [List.pairwise_cons] at h
    rcases List.mem_cons.1 hm with rfl | hm
    · have : ssum f (fun x => decide (x = n)) l = 0 := by
        unfold ssum
        rw [List.filter_eq_nil_iff.2 (fun y hy => by have := h.1 y hy; simp; omega)]; rfl
      rw [this]; simp
    · have := h.1 n hm
      rw [if_neg (by simp; omega), ssum_one h.2 hm]; omega
theorem ssum_le {f g : Nat → Int} {c : Nat → Bool} {l : List Nat} (h : ∀ x ∈ l, f x ≤ g x) : ssum f c l ≤ ssum g c l :=
  sum_le fun x hx => h x (List.mem_filter.1 hx).1
theorem lo_le {p : Pl} {l : List Nat} (wp : WP p) (cv : CV p l) (k a b : Int) : lo p l k a b ≤ hi p l k a b :=
  ssum_le fun x hx => wp.lm _ (scn_mem (cv.rng x hx))
theorem inP_split {p : Pl} {l : List Nat} (wp : WP p) (cv : CV p l) (k : Int) (n : Nat) : ∀ x ∈ l, inP p k 0 10 x = (inP p k 0 ((n : Int) - 1) x || inP p k n 10 x) ∧ (inP p k 0 ((n : Int) - 1) x && inP p k n 10 x) = false := fun x hx => by
  have h1 := cv.rng x hx
  have h2 := wp.len
  constructor
  · rw [Bool.eq_iff_iff]
    simp only [inP, Bool.or_eq_true, Bool.and_eq_true, decide_eq_true_eq]
    constructor
    · rintro ⟨⟨h3, h4⟩, h5⟩
      rcases Nat.lt_or_ge x n with h | h
      · exact Or.inl ⟨⟨h3, h4⟩, by omega⟩
      · exact Or.inr ⟨⟨h3, by omega⟩, h5⟩
    · rintro (⟨⟨h3, h4⟩, h5⟩ | ⟨⟨h3, h4⟩, h5⟩)
      · exact ⟨⟨h3, h4⟩, by omega⟩
      · exact ⟨⟨h3, by omega⟩, h5⟩
  · rw [Bool.and_eq_false_iff]
    rcases Nat.lt_or_ge x n with h | h
    · right; simp only [inP, Bool.and_eq_false_iff, decide_eq_false_iff_not]; left; right; omega
    · left; simp only [inP, Bool.and_eq_false_iff, decide_eq_false_iff_not]; right; omega
theorem lo_split {p : Pl} {l : List Nat} (wp : WP p) (cv : CV p l) (k : Int) (n : Nat) : lo p l k 0 10 = lo p l k 0 ((n : Int) - 1) + lo p l k n 10 := ssum_split (inP_split wp cv k n)
theorem hi_split {p : Pl} {l : List Nat} (wp : WP p) (cv : CV p l) (k : Int) (n : Nat) : hi p l k 0 10 = hi p l k 0 ((n : Int) - 1) + hi p l k n 10 := ssum_split (inP_split wp cv k n)
theorem inP_at {p : Pl} {l : List Nat} (wp : WP p) (cv : CV p l) {n : Nat} (hn : n < p.scenes.length) : ∀ x ∈ l, inP p (scn p n).part n 10 x = (decide (x = n) || inP p (scn p n).part ((n : Int) + 1) 10 x) ∧ (decide (x = n) && inP p (scn p n).part ((n : Int) + 1) 10 x) = false := fun x hx => by
  have h1 := cv.rng x hx
  have h2 := wp.len
  by_cases hxn : x = n
  · subst hxn
    constructor
    · simp [inP]; omega
    · simp [inP]; omega
  · constructor
    · rw [Bool.eq_iff_iff]
      simp only [inP, hxn, decide_false, Bool.false_or, Bool.and_eq_true, decide_eq_true_eq]
      constructor
      · rintro ⟨⟨h3, h4⟩, h5⟩; exact ⟨⟨h3, by omega⟩, h5⟩
      · rintro ⟨⟨h3, h4⟩, h5⟩; exact ⟨⟨h3, by omega⟩, h5⟩
    · simp [hxn]
theorem lo_at {p : Pl} {l : List Nat} (wp : WP p) (cv : CV p l) (inc : l.Pairwise (· < ·)) {n : Nat} (hm : n ∈ l) : lo p l (scn p n).part n 10 = (scn p n).least + lo p l (scn p n).part ((n : Int) + 1) 10 := by
  have h := ssum_split (f := fun x => (scn p x).least) (inP_at wp cv (cv.rng n hm))
  rw [ssum_one inc hm] at h; exact h
theorem hi_at {p : Pl} {l : List Nat} (wp : WP p) (cv : CV p l) (inc : l.Pairwise (· < ·)) {n : Nat} (hm : n ∈ l) : hi p l (scn p n).part n 10 = (scn p n).most + hi p l (scn p n).part ((n : Int) + 1) 10 := by
  have h := ssum_split (f := fun x => (scn p x).most) (inP_at wp cv (cv.rng n hm))
  rw [ssum_one inc hm] at h; exact h
def FitH (p : Pl) (l : List Nat) (h : Hr) : Prop := Fit p l h.1 h.2.1 h.2.2
theorem mem_hrsH {p : Pl} {l : List Nat} (wp : WP p) (cv : CV p l) {h : Hr} : h ∈ hrs p l ↔ FitH p l h := by
  obtain ⟨a, b, c⟩ := h; exact mem_hrs wp cv
theorem rect {A B C D L H : Int} (h1 : A ≤ B) (h2 : C ≤ D) (h3 : L ≤ H) (h4 : L ≤ D - A) (h5 : C - B ≤ H) : ∃ x y, A ≤ x ∧ x ≤ B ∧ C ≤ y ∧ y ≤ D ∧ L ≤ y - x ∧ y - x ≤ H :=
  ⟨max A (C - H), max C (max A (C - H) + L), by omega, by omega, by omega, by omega, by omega, by omega⟩
theorem pickF {lo hi L H t : Int} (h1 : lo ≤ hi) (h2 : L ≤ H) (h3 : lo - H ≤ t) (h4 : t ≤ hi - L) : ∃ s, lo ≤ s ∧ s ≤ hi ∧ L ≤ s - t ∧ s - t ≤ H :=
  ⟨max lo (t + L), by omega, by omega, by omega, by omega⟩
section
variable {p : Pl} {l : List Nat}
theorem fw1 : fw p l 1 = (max (p.beg + pl p l 0) p.s0l, min (p.beg + ph p l 0) p.s0h) := rfl
theorem fw2 : fw p l 2 = (max ((fw p l 1).1 + pl p l 1) p.s1l, min ((fw p l 1).2 + ph p l 1) p.s1h) := rfl
theorem bw0 : bw p l 0 = (p.dl, p.dh) := rfl
theorem bw1 : bw p l 1 = (max p.s1l (p.dl - ph p l 2), min p.s1h (p.dh - pl p l 2)) := rfl
theorem bw2 : bw p l 2 = (max p.s0l ((bw p l 1).1 - ph p l 1), min p.s0h ((bw p l 1).2 - pl p l 1)) := rfl
theorem fit_rg {h : Hr} (f : FitH p l h) {k : Nat} (hk : k < 3) : Rg p l k (prH p h k).1 (prH p h k).2 := by
  obtain ⟨a, b, c⟩ := h
  obtain ⟨h1, h2, h3, h4, h5, h6, h7, h8, h9, h10, h11, h12⟩ := f
  simp only at h1 h2 h3 h4 h5 h6 h7 h8 h9 h10 h11 h12
  have f0 : fw p l 0 = (p.beg, p.beg) := rfl
  rcases k with _ | _ | _ | k
  · constructor <;> simp only [prH, if_true, f0, bw2, bw1, Nat.sub_zero] <;> omega
  · constructor <;> simp only [prH, if_true, fw1, bw1, Nat.reduceSub, Nat.reduceAdd, Nat.reduceEqDiff, if_false] <;> omega
  · constructor <;> simp only [prH, fw2, fw1, bw0, Nat.reduceSub, Nat.reduceAdd, Nat.reduceEqDiff, if_false] <;> omega
  · omega
theorem rg_fit (wp : WP p) (cv : CV p l) (hc : can p l = true) {k : Nat} (hk : k < 3) {x y : Int} (r : Rg p l k x y) : ∃ h, FitH p l h ∧ prH p h k = (x, y) := by
  obtain ⟨a', b', c', f⟩ := (can_fit wp cv).1 hc
  obtain ⟨h1, h2, h3, h4, h5, h6, h7, h8, h9, h10, h11, h12⟩ := f
  obtain ⟨x1, x2, y1, y2, d1, d2⟩ := r
  have q0 := pl_le wp cv 0; have q1 := pl_le wp cv 1; have q2 := pl_le wp cv 2
  have f0 : fw p l 0 = (p.beg, p.beg) := rfl
  rcases k with _ | _ | _ | k
  · simp only [f0, bw2, bw1, Nat.sub_zero] at x1 x2 y1 y2
    obtain ⟨b, b1, b2, b3, b4⟩ := pickF (lo := max p.s1l (p.dl - ph p l 2)) (hi := min p.s1h (p.dh - pl p l 2)) (t := y) (by omega) q1 (by omega) (by omega)
    obtain ⟨c, c1, c2, c3, c4⟩ := pickF (lo := p.dl) (hi := p.dh) (t := b) (by omega) q2 (by omega) (by omega)
    obtain rfl : x = p.beg := by omega
    exact ⟨(y, b, c), ⟨by simp only; omega, by simp only; omega, by simp only; omega, by simp only; omega, by simp only; omega, by simp only; omega, by simp only; omega, by simp only; omega, by simp only; omega, by simp only; omega, by simp only; omega, by simp only; omega⟩, rfl⟩
  · simp only [fw1, bw1, Nat.reduceSub, Nat.reduceAdd] at x1 x2 y1 y2 d1 d2
    obtain ⟨c, c1, c2, c3, c4⟩ := pickF (lo := p.dl) (hi := p.dh) (t := y) (by omega) q2 (by omega) (by omega)
    exact ⟨(x, y, c), ⟨by simp only; omega, by simp only; omega, by simp only; omega, by simp only; omega, by simp only; omega, by simp only; omega, by simp only; omega, by simp only; omega, by simp only; omega, by simp only; omega, by simp only; omega, by simp only; omega⟩, rfl⟩
  · simp only [fw2, fw1, bw0, Nat.reduceSub, Nat.reduceAdd] at x1 x2 y1 y2 d1 d2
    obtain ⟨a, a1, a2, a3, a4⟩ := pick (lo := max (p.beg + pl p l 0) p.s0l) (hi := min (p.beg + ph p l 0) p.s0h) (t := x) (by omega) q1 (by omega) (by omega)
    exact ⟨(a, x, y), ⟨by simp only; omega, by simp only; omega, by simp only; omega, by simp only; omega, by simp only; omega, by simp only; omega, by simp only; omega, by simp only; omega, by simp only; omega, by simp only; omega, by simp only; omega, by simp only; omega⟩, rfl⟩
  · omega
theorem rg_some (wp : WP p) (cv : CV p l) (hc : can p l = true) {k : Nat} (hk : k < 3) : (fw p l k).1 ≤ (fw p l k).2 ∧ (bw p l (2 - k)).1 ≤ (bw p l (2 - k)).2 ∧ pl p l k ≤ ph p l k ∧ pl p l k ≤ (bw p l (2 - k)).2 - (fw p l k).1 ∧ (bw p l (2 - k)).1 - (fw p l k).2 ≤ ph p l k := by
  obtain ⟨a', b', c', f⟩ := (can_fit wp cv).1 hc
  have r := fit_rg (h := (a', b', c')) f hk
  obtain ⟨x1, x2, y1, y2, d1, d2⟩ := r
  have := pl_le wp cv k
  omega
end
theorem wd_char : ∀ {vs : List (Int × Int)}, vs ≠ [] → (∃ v ∈ vs, v.1 = (wd vs).1) ∧ (∀ v ∈ vs, (wd vs).1 ≤ v.1) ∧ (∃ v ∈ vs, v.2 = (wd vs).2) ∧ (∀ v ∈ vs, v.2 ≤ (wd vs).2) := by
  intro vs
  generalize hn : vs.length = n
  induction n generalizing vs with
  | zero => intro h; exact absurd (List.length_eq_zero_iff.1 hn) h
  | succ n ih =>
    intro _
    have e : vs = vs.dropLast ++ [vs.getLast (by intro e; rw [e] at hn; cases hn)] := (List.dropLast_concat_getLast _).symm
    generalize vs.getLast (by intro e; rw [e] at hn; cases hn) = v at e
    generalize hw : vs.dropLast = ws at e
    have hl : ws.length = n := by rw [e, List.length_append] at hn; simpa using hn
    subst e
    by_cases h0 : ws = []
    · subst h0
      simp [wd]
    · obtain ⟨⟨u, u1, u2⟩, g1, ⟨w, w1, w2⟩, g2⟩ := ih hl h0
      rw [wd_app h0]
      refine ⟨?_, ?_, ?_, ?_⟩
      · simp only
        rcases Int.le_total (wd ws).1 v.1 with h | h
        · exact ⟨u, by simp [u1], by omega⟩
        · exact ⟨v, by simp, by omega⟩
      · intro x hx; simp only
        rcases List.mem_append.1 hx with hx | hx
        · have := g1 x hx; omega
        · simp only [List.mem_singleton] at hx; subst hx; omega
      · simp only
        rcases Int.le_total v.2 (wd ws).2 with h | h
        · exact ⟨w, by simp [w1], by omega⟩
        · exact ⟨v, by simp, by omega⟩
      · intro x hx; simp only
        rcases List.mem_append.1 hx with hx | hx
        · have := g2 x hx; omega
        · simp only [List.mem_singleton] at hx; subst hx; omega
theorem wd_flat {α β : Type} {L : List α} {hs : α → List β} {f : α → β → Int × Int} {g : α → Int × Int} (h : ∀ l ∈ L, Met (hs l) (f l) (g l)) :
    wd (L.flatMap fun l => (hs l).map (f l)) = wd (L.map g) := by
  by_cases h0 : L = []
  · subst h0; rfl
  · have hG : L.map g ≠ [] := by simpa using h0
    obtain ⟨x, hx⟩ := List.exists_mem_of_ne_nil _ h0
    obtain ⟨b, hb, _⟩ := (h x hx).low
    have hF : (L.flatMap fun l => (hs l).map (f l)) ≠ [] := fun e => by
      have : f x b ∈ (L.flatMap fun l => (hs l).map (f l)) := List.mem_flatMap.2 ⟨x, hx, List.mem_map.2 ⟨b, hb, rfl⟩⟩
      rw [e] at this; cases this
    obtain ⟨⟨u, u1, u2⟩, g1, ⟨w, w1, w2⟩, g2⟩ := wd_char hF
    obtain ⟨⟨u', u1', u2'⟩, g1', ⟨w', w1', w2'⟩, g2'⟩ := wd_char hG
    obtain ⟨lu, m1, m2⟩ := List.mem_flatMap.1 u1
    obtain ⟨bu, m3, rfl⟩ := List.mem_map.1 m2
    obtain ⟨lw, n1, n2⟩ := List.mem_flatMap.1 w1
    obtain ⟨bw, n3, rfl⟩ := List.mem_map.1 n2
    obtain ⟨lu', r1, rfl⟩ := List.mem_map.1 u1'
    obtain ⟨lw', s1, rfl⟩ := List.mem_map.1 w1'
    obtain ⟨b1, c1, c2⟩ := (h lu' r1).low
    obtain ⟨b2, d1, d2⟩ := (h lw' s1).high
    have k1 := g1 _ (List.mem_flatMap.2 ⟨lu', r1, List.mem_map.2 ⟨b1, c1, rfl⟩⟩)
    have k2 := g2 _ (List.mem_flatMap.2 ⟨lw', s1, List.mem_map.2 ⟨b2, d1, rfl⟩⟩)
    have k3 := (h lu m1).lows bu m3
    have k4 := (h lw n1).highs bw n3
    have k5 := g1' _ (List.mem_map.2 ⟨lu, m1, rfl⟩)
    have k6 := g2' _ (List.mem_map.2 ⟨lw, n1, rfl⟩)
    exact Prod.ext (by omega) (by omega)
section
variable {p : Pl} {l : List Nat} (wp : WP p) (cv : CV p l) (hc : can p l = true)
include wp cv hc
theorem end_met {k : Nat} (hk : k < 3) : Met (hrs p l) (fun h => ((prH p h k).2, (prH p h k).2)) (endV p k l) := by
  obtain ⟨a', b', c', f⟩ := (can_fit wp cv).1 hc
  have r0 := fit_rg (h := (a', b', c')) f hk
  obtain ⟨x1, x2, y1, y2, d1, d2⟩ := r0
  obtain ⟨e1, e2, e3, e4, e5⟩ := rg_some wp cv hc hk
  have ef : fw p l (k + 1) = (max ((fw p l k).1 + pl p l k) (wl p k), min ((fw p l k).2 + ph p l k) (wh p k)) := rfl
  have hw := win_le wp k
  have hb : wl p k ≤ (bw p l (2 - k)).1 ∧ (bw p l (2 - k)).2 ≤ wh p k := by
    have w0 : wl p 0 = p.s0l := rfl
    have w0' : wh p 0 = p.s0h := rfl
    have w1 : wl p 1 = p.s1l := rfl
    have w1' : wh p 1 = p.s1h := rfl
    have w2 : wl p 2 = p.dl := rfl
    have w2' : wh p 2 = p.dh := rfl
    rcases k with _ | _ | _ | k
    · simp only [bw2, Nat.sub_zero]; omega
    · simp only [bw1, Nat.reduceSub, Nat.reduceAdd]; omega
    · simp only [bw0, Nat.reduceSub, Nat.reduceAdd]; omega
    · omega
  have key : ∀ z, (endV p k l).1 ≤ z → z ≤ (endV p k l).2 → ∃ h ∈ hrs p l, (prH p h k).2 = z := fun z z1 z2 => by
    simp only [endV, ef] at z1 z2
    obtain ⟨x, p1, p2, p3, p4⟩ := pick (lo := (fw p l k).1) (hi := (fw p l k).2) (t := z) e1 e3 (by omega) (by omega)
    obtain ⟨h, h1, h2⟩ := rg_fit wp cv hc hk (x := x) (y := z) ⟨p1, p2, by omega, by omega, p3, p4⟩
    exact ⟨h, (mem_hrsH wp cv).2 h1, by rw [h2]⟩
  have hz : (endV p k l).1 ≤ (endV p k l).2 := by simp only [endV, ef]; omega
  refine ⟨key _ (Int.le_refl _) hz, fun h hm => ?_, key _ hz (Int.le_refl _), fun h hm => ?_⟩
  · obtain ⟨x1, x2, y1, y2, d1, d2⟩ := fit_rg ((mem_hrsH wp cv).1 hm) hk
    simp only [endV, ef]; omega
  · obtain ⟨x1, x2, y1, y2, d1, d2⟩ := fit_rg ((mem_hrsH wp cv).1 hm) hk
    simp only [endV, ef]; omega
theorem beg_met {k : Nat} (hk : k < 3) {aL aH rL rH : Int} (ha : aL ≤ aH) (hr : rL ≤ rH) (hl : pl p l k = aL + rL) (hh : ph p l k = aH + rH) :
    Met (hrs p l) (fun h => (max ((prH p h k).1 + aL) ((prH p h k).2 - rH), min ((prH p h k).1 + aH) ((prH p h k).2 - rL)))
      (max ((fw p l k).1 + aL) ((bw p l (2 - k)).1 - rH), min ((fw p l k).2 + aH) ((bw p l (2 - k)).2 - rL)) := by
  obtain ⟨e1, e2, e3, e4, e5⟩ := rg_some wp cv hc hk
  refine ⟨?_, fun h hm => ?_, ?_, fun h hm => ?_⟩
  · obtain ⟨x, y, q1, q2, q3, q4, q5, q6⟩ := rect (A := (fw p l k).1) (B := min (fw p l k).2 (max ((fw p l k).1 + aL) ((bw p l (2 - k)).1 - rH) - aL)) (C := (bw p l (2 - k)).1) (D := min (bw p l (2 - k)).2 (max ((fw p l k).1 + aL) ((bw p l (2 - k)).1 - rH) + rH)) (L := pl p l k) (H := ph p l k) (by omega) (by omega) e3 (by omega) (by omega)
    obtain ⟨h, h1, h2⟩ := rg_fit wp cv hc hk (x := x) (y := y) ⟨by omega, by omega, by omega, by omega, q5, q6⟩
    exact ⟨h, (mem_hrsH wp cv).2 h1, by simp only [h2]; omega⟩
  · obtain ⟨x1, x2, y1, y2, d1, d2⟩ := fit_rg ((mem_hrsH wp cv).1 hm) hk
    simp only; omega
  · obtain ⟨x, y, q1, q2, q3, q4, q5, q6⟩ := rect (A := max (fw p l k).1 (min ((fw p l k).2 + aH) ((bw p l (2 - k)).2 - rL) - aH)) (B := (fw p l k).2) (C := max (bw p l (2 - k)).1 (min ((fw p l k).2 + aH) ((bw p l (2 - k)).2 - rL) + rL)) (D := (bw p l (2 - k)).2) (L := pl p l k) (H := ph p l k) (by omega) (by omega) e3 (by omega) (by omega)
    obtain ⟨h, h1, h2⟩ := rg_fit wp cv hc hk (x := x) (y := y) ⟨by omega, by omega, by omega, by omega, q5, q6⟩
    exact ⟨h, (mem_hrsH wp cv).2 h1, by simp only [h2]; omega⟩
  · obtain ⟨x1, x2, y1, y2, d1, d2⟩ := fit_rg ((mem_hrsH wp cv).1 hm) hk
    simp only; omega
theorem long_met {k : Nat} (hk : k < 3) {L H sL sH : Int} (hLH : L ≤ H) (hs : sL ≤ sH) (hl : pl p l k = sL + L) (hh : ph p l k = sH + H) :
    Met (hrs p l) (fun h => (max L ((prH p h k).2 - (prH p h k).1 - sH), min H ((prH p h k).2 - (prH p h k).1 - sL)))
      (max L ((bw p l (2 - k)).1 - (fw p l k).2 - sH), min H ((bw p l (2 - k)).2 - (fw p l k).1 - sL)) := by
  obtain ⟨e1, e2, e3, e4, e5⟩ := rg_some wp cv hc hk
  refine ⟨?_, fun h hm => ?_, ?_, fun h hm => ?_⟩
  · obtain ⟨x, y, q1, q2, q3, q4, q5, q6⟩ := rect (A := (fw p l k).1) (B := (fw p l k).2) (C := (bw p l (2 - k)).1) (D := (bw p l (2 - k)).2) (L := pl p l k) (H := min (ph p l k) (max (pl p l k) ((bw p l (2 - k)).1 - (fw p l k).2))) (by omega) (by omega) (by omega) (by omega) (by omega)
    obtain ⟨h, h1, h2⟩ := rg_fit wp cv hc hk (x := x) (y := y) ⟨by omega, by omega, by omega, by omega, q5, by omega⟩
    exact ⟨h, (mem_hrsH wp cv).2 h1, by simp only [h2]; omega⟩
  · obtain ⟨x1, x2, y1, y2, d1, d2⟩ := fit_rg ((mem_hrsH wp cv).1 hm) hk
    simp only; omega
  · obtain ⟨x, y, q1, q2, q3, q4, q5, q6⟩ := rect (A := (fw p l k).1) (B := (fw p l k).2) (C := (bw p l (2 - k)).1) (D := (bw p l (2 - k)).2) (L := max (pl p l k) (min (ph p l k) ((bw p l (2 - k)).2 - (fw p l k).1))) (H := ph p l k) (by omega) (by omega) (by omega) (by omega) (by omega)
    obtain ⟨h, h1, h2⟩ := rg_fit wp cv hc hk (x := x) (y := y) ⟨by omega, by omega, by omega, by omega, by omega, by omega⟩
    exact ⟨h, (mem_hrsH wp cv).2 h1, by simp only [h2]; omega⟩
  · obtain ⟨x1, x2, y1, y2, d1, d2⟩ := fit_rg ((mem_hrsH wp cv).1 hm) hk
    simp only; omega
end
end Ni
namespace Ni
def lsBad (p : Pl) (l : List Nat) (ls : List Int) (i : Nat) (h : i < l.length) : Bool := !inn (ls.getD i 0) (scn p l[i]).least (scn p l[i]).most
def lastsP (p : Pl) (l : List Nat) (ls : List Int) : Bool := decide (l.length = ls.length) && okAll l.length (lsBad p l ls)
def pF (p : Pl) (l : List Nat) (ls : List Int) : Nat → Pl
  | 0 => p
  | i + 1 => fixP (pF p l ls i) (l.getD i 0) (ls.getD i 0)
def pFF (p : Pl) (l : List Nat) (ls : List Int) : Pl := pF p l ls l.length
section
variable {p : Pl} {l : List Nat} {ls : List Int} (gp : GP p) (wp : WP p) (cv : CV p l) (inc : l.Pairwise (· < ·)) (h : lastsP p l ls = true) (hp : ∀ x ∈ l, 0 ≤ (scn p x).part ∧ (scn p x).part ≤ 2)
abbrev sL (p : Pl) (l : List Nat) (ls : List Int) (k : Int) : Int := ssum (fun x => (scn (pFF p l ls) x).least) (fun x => decide ((scn p x).part = k)) l
include cv inc
include hp
include gp wp h
end
end Ni
namespace Go.Proofs.YtjghdbdiejaacaaGreatDoor
open Go Go.Ab Ni
section
variable [Tabs] {c : Ctx} {ops : Array Oper} {Q : AExit → St → Prop} {i : Nat} {rest : List Oper} {s : St} {d : Option Tmp} {x y z : Operand} {t : TypeId} {p : String} {af : Array Edge} {v : Value} {j u n : Nat} {want : Bool} {l : List (List AV)}
theorem pf (hd : dOK c.nt d = true) (hx : Less (s.op x) (.raw (.bool false))) (h : Less (s.op z) (.raw v)) (k : SeqWP c ops Q (i + 1) rest (s.put d (.raw v))) : SeqWP c ops Q i (⟨d, .pick x y z, t, p, af, none⟩ :: rest) s := sq_ev hd (ev_pickF hx h) k
theorem ysl (hj : gslot ops j = some u) (ht : Nat.blt u c.nt = true) (hb : Less (sget s.sl u) (.raw (.bool want))) (hd : dOK c.nt d = true) (h : Less (s.op x) (.sl n l)) (k : SeqWP c ops Q (i + 1) rest (s.put d (.sl n l))) : SeqWP c ops Q i (⟨d, .move x, t, p, af, some (j, want)⟩ :: rest) s := sq_yes hj ht hb hd (ev_mv h) k
theorem xtr {m : List AV} {w : AV} (hd : dOK c.nt d = true) (hx : Less (s.op x) (.tup m)) (hv : m[n]? = some w) (k : SeqWP c ops Q (i + 1) rest (s.put d w)) : SeqWP c ops Q i (⟨d, .extract x n, t, p, af, none⟩ :: rest) s := sq_ev hd (ev_extract hx hv) k
theorem mvs (hd : dOK c.nt d = true) (h : Less (s.op x) (.sl n l)) (k : SeqWP c ops Q (i + 1) rest (s.put d (.sl n l))) : SeqWP c ops Q i (⟨d, .move x, t, p, af, none⟩ :: rest) s := sq_ev hd (ev_mv h) k
theorem ass (hd : dOK c.nt d = true) (h : Less (s.op x) (.sl n l)) (k : SeqWP c ops Q (i + 1) rest (s.put d (.sl n l))) : SeqWP c ops Q i (⟨d, .assign x, t, p, af, none⟩ :: rest) s := sq_ev hd (ev_as h) k
theorem ymr (hj : gslot ops j = some u) (ht : Nat.blt u c.nt = true) (hb : Less (sget s.sl u) (.raw (.bool want))) (hd : dOK c.nt d = true) (h : Less (s.op x) (.raw v)) (k : SeqWP c ops Q (i + 1) rest (s.put d (.raw v))) : SeqWP c ops Q i (⟨d, .move x, t, p, af, some (j, want)⟩ :: rest) s := sq_yes hj ht hb hd (ev_mv h) k
end
theorem en35 : Ent Tryz.prog 35 := Ent.of Tryz.func35 (by kernel_rfl) rfl
theorem en62 : Ent Tryz.prog 62 := Ent.of Tryz.func62 (by kernel_rfl) rfl
theorem en89 : Ent Tryz.prog 89 := Ent.of Tryz.func89 (by kernel_rfl) rfl
theorem en90 : Ent Tryz.prog 90 := Ent.of Tryz.func90 (by kernel_rfl) rfl
theorem en91 : Ent Tryz.prog 91 := Ent.of Tryz.func91 (by kernel_rfl) rfl
set_option maxHeartbeats 400000 in
theorem in_pure (n lo hi : Int) : APure Tryz.prog 89 [I n, I lo, I hi] (B (inn n lo hi)) := by
 refine apure_of (rs := [.tmp 6]) Tryz.func89 rfl rfl (Nat.le_of_ble_eq_true rfl) (by simp [AV.pureL, AV.pureB, AV.pureE, pureE_map]) (rfl) fun e0 he0 => ?_
 refine aw_seq (aw_region ?_)
 refine asr (lr _) rfl ?_
 refine sq_nil (aw_seq (aw_region ?_))
 refine mvr (lr _) rfl ?_
 refine mvr (lr _) rfl ?_
 refine sq_ev rfl (ev_geq (lr _) (lr _)) ?_
 refine mvr (lr _) rfl ?_
 refine sq_split 10 (lr _) (fun g1 => ?_) (fun g1 => ?_)
 ·
  have g1' := g1
  try simp only [qq] at g1'
  refine sq_yes rfl rfl (less_b g1) rfl (ev_mv (v := .raw _) (lr _)) ?_
  refine sq_yes rfl rfl (less_b g1) rfl (ev_mv (v := .raw _) (lr _)) ?_
  refine sq_yes rfl rfl (less_b g1) rfl (ev_leq (lr _) (lr _)) ?_
  refine sq_ev rfl (ev_pickT (v := .raw _) (less_b g1) (lr _)) ?_
  refine asr (lr _) rfl ?_
  refine sq_nil (aw_ret ?_)
  exact retQ_pure (v := .raw _) rfl rfl (Less.eq (by simp [inn, *]))
 ·
  have g1' := g1
  try simp only [qq] at g1'
  refine sq_no rfl rfl (less_b g1) rfl rfl ?_
  refine sq_no rfl rfl (less_b g1) rfl rfl ?_
  refine sq_no rfl rfl (less_b g1) rfl rfl ?_
  refine sq_ev rfl (ev_pickF (v := .raw _) (less_b g1) (lr _)) ?_
  refine asr (lr _) rfl ?_
  refine sq_nil (aw_ret ?_)
  exact retQ_pure (v := .raw _) rfl rfl (Less.eq (by simp [inn, *]))
set_option maxHeartbeats 400000 in
theorem window_pure (lo hi : Int) : APure Tryz.prog 90 [.agg [I lo, I hi]] (B (wnd lo hi)) := by
 refine apure_of (rs := [.tmp 2]) Tryz.func90 rfl rfl (Nat.le_of_ble_eq_true rfl) (by simp [AV.pureL, AV.pureB, AV.pureE, pureE_map]) (rfl) fun e0 he0 => ?_
 refine aw_seq (aw_region ?_)
 refine sq_box rfl (lr _) rfl ?_
 refine asr (lr _) rfl ?_
 refine sq_nil (aw_seq (aw_region ?_))
 refine sq_ev rfl (ev_fieldAddr fo23_0 (lr _)) ?_
 refine sq_ev rfl (ev_load (lr _) rfl ty3 rfl) ?_
 refine sq_ev rfl (ev_call en89 (lr _) (in_pure _ _ _) ⟨lr _, lr _, lr _, trivial⟩) ?_
 refine mvr (lr _) rfl ?_
 refine sq_split 6 (lr _) (fun g1 => ?_) (fun g1 => ?_)
 ·
  have g1' := g1
  try simp only [qq] at g1'
  refine sq_yes rfl rfl (less_b g1) rfl (ev_fieldAddr fo23_1 (lr _)) ?_
  refine sq_yes rfl rfl (less_b g1) rfl (ev_load (lr _) rfl ty3 rfl) ?_
  refine sq_yes rfl rfl (less_b g1) rfl (ev_fieldAddr fo23_0 (lr _)) ?_
  refine sq_yes rfl rfl (less_b g1) rfl (ev_load (lr _) rfl ty3 rfl) ?_
  refine sq_yes rfl rfl (less_b g1) rfl (ev_call en89 (lr _) (in_pure _ _ _) ⟨lr _, lr _, lr _, trivial⟩) ?_
  refine sq_ev rfl (ev_pickT (v := .raw _) (less_b g1) (lr _)) ?_
  refine mvr (lr _) rfl ?_
  refine sq_split 13 (lr _) (fun g2 => ?_) (fun g2 => ?_)
  ·
   have g2' := g2
   try simp only [qq] at g2'
   simp only [inn, Bool.and_eq_true, decide_eq_true_eq] at g1' g2'
   refine sq_yes rfl rfl (less_b g2) rfl (ev_fieldAddr fo23_1 (lr _)) ?_
   refine sq_yes rfl rfl (less_b g2) rfl (ev_load (lr _) rfl ty3 rfl) ?_
   refine sq_yes rfl rfl (less_b g2) rfl (ev_fieldAddr fo23_0 (lr _)) ?_
   refine sq_yes rfl rfl (less_b g2) rfl (ev_load (lr _) rfl ty3 rfl) ?_
   refine sq_yes rfl rfl (less_b g2) rfl (ev_sub (lr _) (lr _) (wr (by omega) (by omega))) ?_
   refine sq_yes rfl rfl (less_b g2) rfl (ev_leq (lr _) (lr _)) ?_
   refine sq_ev rfl (ev_pickT (v := .raw _) (less_b g2) (lr _)) ?_
   refine asr (lr _) rfl ?_
   refine sq_nil (aw_ret ?_)
   exact retQ_pure (v := .raw _) rfl rfl (Less.eq (by simp [wnd, *]))
  ·
   have g2' := g2
   try simp only [qq] at g2'
   refine sq_no rfl rfl (less_b g2) rfl rfl ?_
   refine sq_no rfl rfl (less_b g2) rfl rfl ?_
   refine sq_no rfl rfl (less_b g2) rfl rfl ?_
   refine sq_no rfl rfl (less_b g2) rfl rfl ?_
   refine sq_no rfl rfl (less_b g2) rfl rfl ?_
   refine sq_no rfl rfl (less_b g2) rfl rfl ?_
   refine sq_ev rfl (ev_pickF (v := .raw _) (less_b g2) (lr _)) ?_
   refine asr (lr _) rfl ?_
   refine sq_nil (aw_ret ?_)
   exact retQ_pure (v := .raw _) rfl rfl (Less.eq (by simp [wnd, *]))
 ·
  have g1' := g1
  try simp only [qq] at g1'
  refine sq_no rfl rfl (less_b g1) rfl rfl ?_
  refine sq_no rfl rfl (less_b g1) rfl rfl ?_
  refine sq_no rfl rfl (less_b g1) rfl rfl ?_
  refine sq_no rfl rfl (less_b g1) rfl rfl ?_
  refine sq_no rfl rfl (less_b g1) rfl rfl ?_
  refine sq_ev rfl (ev_pickF (v := .raw _) (less_b g1) (lr _)) ?_
  refine mvr (lr _) rfl ?_
  refine sq_no rfl rfl (lr _) rfl rfl ?_
  refine sq_no rfl rfl (lr _) rfl rfl ?_
  refine sq_no rfl rfl (lr _) rfl rfl ?_
  refine sq_no rfl rfl (lr _) rfl rfl ?_
  refine sq_no rfl rfl (lr _) rfl rfl ?_
  refine sq_no rfl rfl (lr _) rfl rfl ?_
  refine pf rfl (lr _) (lr _) ?_
  refine asr (lr _) rfl ?_
  refine sq_nil (aw_ret ?_)
  exact retQ_pure (v := .raw _) rfl rfl (Less.eq (by simp [wnd, *]))
set_option maxHeartbeats 2000000 in
theorem scenes_pure (p : Pl) (hl : p.scenes.length ≤ 1000000) : APure Tryz.prog 91 [plan p] (B (decide (ScOK p.scenes))) := by
 refine apure_of (rs := [.tmp 2]) Tryz.func91 rfl rfl (Nat.le_of_ble_eq_true rfl) (by simp [AV.pureL, AV.pureB, AV.pureE, pureE_map]) (rfl) fun e0 he0 => ?_
 refine aw_seq (aw_region ?_)
 refine sq_box rfl (lr _) rfl ?_
 refine asr (lr _) rfl ?_
 refine sq_nil (aw_seq (aw_region ?_))
 refine asr (lr _) rfl ?_
 refine sq_nil (aw_seq (aw_seq (aw_region ?_)))
 refine asr (lr _) rfl ?_
 refine sq_nil (aw_block ?_)
 refine aw_loopk (ι := { k : Nat // k ≤ p.scenes.length ∧ ∀ i, (h : i < p.scenes.length) → i < k → scBad p.scenes i h = false }) [1] (fun i => [(3, I (loosies (p.scenes.take i.1))), (4, I i.1)]) (fun H i => H) (fun i => p.scenes.length - i.1) (⟨0, Nat.zero_le _, by omega⟩) ⟨lr _, lr _, lr _, trivial⟩ rfl ?_
 rintro ⟨k, hk, hok⟩
 dsimp only [keepS, St.put, sget, slotsOf, List.map_cons, List.map_nil, List.cons_append, List.nil_append, List.length_cons, List.length_nil, Nat.reduceBEq, Nat.reduceAdd, cond_true, cond_false]
 have hlo := loosies_le (p.scenes.take k)
 have hlt := List.length_take_le k p.scenes
 refine aw_seq (aw_seq (aw_region ?_))
 refine mvr (lr _) rfl ?_
 refine sq_ev rfl (ev_fieldAddr fo27_3 (lr _)) ?_
 refine sq_ev rfl (ev_load (lr _) rfl ty25 rfl) ?_
 refine sq_ev rfl (ev_len_map sl25 (lr _)) ?_
 refine sq_ev rfl (ev_lss (lr _) (lr _)) ?_
 refine sq_nil ?_
 refine aw_cond (lr _) (fun c1 => ?_) (fun c1 => ?_)
 ·
  have c1' := c1
  try simp only [qq] at c1'
  refine aw_skip (aw_seq (aw_block (aw_seq (aw_region ?_))))
  refine sq_ev rfl (ev_fieldAddr fo27_3 (lr _)) ?_
  refine sq_ev rfl (ev_load (lr _) rfl ty25 rfl) ?_
  refine mvr (lr _) rfl ?_
  refine sq_ev rfl (ev_index_map sl25 (lr _) (lr _) rfl (by omega)) ?_
  refine sq_ev rfl (ev_load_agg_i (lr _) ty84 (Nat.le_of_ble_eq_true rfl)) ?_
  refine sq_alloc rfl z84 ?_
  refine sq_store rfl (lr _) (lr _) rfl rfl ty84 rfl rfl ?_
  refine sq_nil (aw_seq (aw_seq ?_))
  refine aw_draw 50 mo (by kernel_rfl) ?_
  refine dr_ev rfl (ev_fieldAddr fo84_0 (lr _)) ?_
  refine dr_ev rfl (ev_load (lr _) rfl ty3 rfl) ?_
  refine dr_ev rfl (ev_call en89 (lr _) (in_pure _ _ _) ⟨lr _, lr _, lr _, trivial⟩) ?_
  refine dr_ev rfl (ev_not (lr _)) ?_
  refine dr_ev rfl (ev_mv (v := .raw _) (lr _)) ?_
  refine dr_split 22 (lr _) (fun g2 => ?_) (fun g2 => ?_)
  ·
   have g2' := g2
   try simp only [qq] at g2'
   refine dr_no rfl rfl (less_b g2) rfl rfl ?_
   refine dr_no rfl rfl (less_b g2) rfl rfl ?_
   refine dr_no rfl rfl (less_b g2) rfl rfl ?_
   refine dr_no rfl rfl (lr _) rfl rfl ?_
   refine dr_no rfl rfl (lr _) rfl rfl ?_
   refine dr_no rfl rfl (lr _) rfl rfl ?_
   refine dr_no rfl rfl (lr _) rfl rfl ?_
   refine dr_no rfl rfl (lr _) rfl rfl ?_
   refine dr_no rfl rfl (lr _) rfl rfl ?_
   refine dr_no rfl rfl (lr _) rfl rfl ?_
   refine dr_no rfl rfl (lr _) rfl rfl ?_
   refine dr_no rfl rfl (lr _) rfl rfl ?_
   refine dr_no rfl rfl (lr _) rfl rfl ?_
   refine dr_no rfl rfl (less_b g2) rfl rfl ?_
   refine dr_ev rfl (ev_pickT (v := .raw _) (less_b g2) (lr _)) ?_
   refine dr_ev rfl (ev_mv (v := .raw _) (lr _)) ?_
   refine dr_no rfl rfl (lr _) rfl rfl ?_
   refine dr_no rfl rfl (lr _) rfl rfl ?_
   refine dr_no rfl rfl (lr _) rfl rfl ?_
   refine dr_no rfl rfl (lr _) rfl rfl ?_
   refine dr_ev rfl (ev_pickT (v := .raw _) (lr _) (lr _)) ?_
   refine dr_ev rfl (ev_mv (v := .raw _) (lr _)) ?_
   refine dr_no rfl rfl (lr _) rfl rfl ?_
   refine dr_no rfl rfl (lr _) rfl rfl ?_
   refine dr_no rfl rfl (lr _) rfl rfl ?_
   refine dr_no rfl rfl (lr _) rfl rfl ?_
   refine dr_no rfl rfl (lr _) rfl rfl ?_
   refine dr_no rfl rfl (lr _) rfl rfl ?_
   refine dr_ev rfl (ev_pickT (v := .raw _) (lr _) (lr _)) ?_
   refine dr_ev rfl (ev_mv (v := .raw _) (lr _)) ?_
   refine dr_no rfl rfl (lr _) rfl rfl ?_
   refine dr_no rfl rfl (lr _) rfl rfl ?_
   refine dr_no rfl rfl (lr _) rfl rfl ?_
   refine dr_no rfl rfl (lr _) rfl rfl ?_
   refine dr_no rfl rfl (lr _) rfl rfl ?_
   refine dr_no rfl rfl (lr _) rfl rfl ?_
   refine dr_no rfl rfl (lr _) rfl rfl ?_
   refine dr_no rfl rfl (lr _) rfl rfl ?_
   refine dr_ev rfl (ev_pickT (v := .raw _) (lr _) (lr _)) ?_
   refine dr_ev rfl (ev_mv (v := .raw _) (lr _)) ?_
   refine dr_no rfl rfl (lr _) rfl rfl ?_
   refine dr_no rfl rfl (lr _) rfl rfl ?_
   refine dr_no rfl rfl (lr _) rfl rfl ?_
   refine dr_no rfl rfl (lr _) rfl rfl ?_
   refine dr_ev rfl (ev_pickT (v := .raw _) (lr _) (lr _)) ?_
   refine dr_end (sq_nil ?_)
   refine aw_true (lr _) ?_
   refine aw_seq (aw_region ?_)
   refine asr (lr _) rfl ?_
   refine sq_nil (aw_ret ?_)
   exact retQ_pure (v := .raw _) rfl rfl (Less.eq (by rw [scOK_bad (i := k) (by omega) (by simp [scBad, *])]))
  ·
   have g2' := g2
   try simp only [qq] at g2'
   refine dr_yes rfl rfl (less_b g2) rfl (ev_mv (v := .raw _) (lr _)) ?_
   refine dr_yes rfl rfl (less_b g2) rfl (ev_gtr (lr _) (lr _)) ?_
   refine dr_yes rfl rfl (less_b g2) rfl (ev_mv (v := .raw _) (lr _)) ?_
   refine dr_split 25 (lr _) (fun g3 => ?_) (fun g3 => ?_)
   ·
    have g3' := g3
    try simp only [qq] at g3'
    have g3n : 0 < k := by omega
    refine dr_yes rfl rfl (less_b g3) rfl (ev_fieldAddr fo84_0 (lr _)) ?_
    refine dr_yes rfl rfl (less_b g3) rfl (ev_load (lr _) rfl ty3 rfl) ?_
    refine dr_yes rfl rfl (less_b g3) rfl (ev_fieldAddr fo27_3 (lr _)) ?_
    refine dr_yes rfl rfl (less_b g3) rfl (ev_load (lr _) rfl ty25 rfl) ?_
    refine dr_yes rfl rfl (less_b g3) rfl (ev_mv (v := .raw _) (lr _)) ?_
    refine dr_yes rfl rfl (less_b g3) rfl (ev_sub (lr _) (lr _) (wr (by omega) (by omega))) ?_
    refine dr_yes rfl rfl (less_b g3) rfl (ev_index_map sl25 (lr _) (lr _) (show ((k : Int) - 1) = ((k - 1 : Nat) : Int) by omega) (by omega)) ?_
    refine dr_yes rfl rfl (less_b g3) rfl (ev_fieldAddr_i fo84_0 (lr _)) ?_
    refine dr_yes rfl rfl (less_b g3) rfl (ev_load_i (lr _) ty3 rfl) ?_
    refine dr_yes rfl rfl (less_b g3) rfl (ev_lss (lr _) (lr _)) ?_
    refine dr_yes rfl rfl (less_b g2) rfl (ev_pickT (v := .raw _) (less_b g3) (lr _)) ?_
    refine dr_ev rfl (ev_pickF (v := .raw _) (less_b g2) (lr _)) ?_
    refine dr_ev rfl (ev_mv (v := .raw _) (lr _)) ?_
    refine dr_split 38 (lr _) (fun g4 => ?_) (fun g4 => ?_)
    ·
     have g4' := g4
     try simp only [qq] at g4'
     refine dr_no rfl rfl (less_b g4) rfl rfl ?_
     refine dr_no rfl rfl (less_b g4) rfl rfl ?_
     refine dr_no rfl rfl (less_b g4) rfl rfl ?_
     refine dr_no rfl rfl (less_b g4) rfl rfl ?_
     refine dr_ev rfl (ev_pickT (v := .raw _) (less_b g4) (lr _)) ?_
     refine dr_ev rfl (ev_mv (v := .raw _) (lr _)) ?_
     refine dr_no rfl rfl (lr _) rfl rfl ?_
     refine dr_no rfl rfl (lr _) rfl rfl ?_
     refine dr_no rfl rfl (lr _) rfl rfl ?_
     refine dr_no rfl rfl (lr _) rfl rfl ?_
     refine dr_no rfl rfl (lr _) rfl rfl ?_
     refine dr_no rfl rfl (lr _) rfl rfl ?_
     refine dr_ev rfl (ev_pickT (v := .raw _) (lr _) (lr _)) ?_
     refine dr_ev rfl (ev_mv (v := .raw _) (lr _)) ?_
     refine dr_no rfl rfl (lr _) rfl rfl ?_
     refine dr_no rfl rfl (lr _) rfl rfl ?_
     refine dr_no rfl rfl (lr _) rfl rfl ?_
     refine dr_no rfl rfl (lr _) rfl rfl ?_
     refine dr_no rfl rfl (lr _) rfl rfl ?_
     refine dr_no rfl rfl (lr _) rfl rfl ?_
     refine dr_no rfl rfl (lr _) rfl rfl ?_
     refine dr_no rfl rfl (lr _) rfl rfl ?_
     refine dr_ev rfl (ev_pickT (v := .raw _) (lr _) (lr _)) ?_
     refine dr_ev rfl (ev_mv (v := .raw _) (lr _)) ?_
     refine dr_no rfl rfl (lr _) rfl rfl ?_
     refine dr_no rfl rfl (lr _) rfl rfl ?_
     refine dr_no rfl rfl (lr _) rfl rfl ?_
     refine dr_no rfl rfl (lr _) rfl rfl ?_
     refine dr_ev rfl (ev_pickT (v := .raw _) (lr _) (lr _)) ?_
     refine dr_end (sq_nil ?_)
     refine aw_true (lr _) ?_
     refine aw_seq (aw_region ?_)
     refine asr (lr _) rfl ?_
     refine sq_nil (aw_ret ?_)
     exact retQ_pure (v := .raw _) rfl rfl (Less.eq (by rw [scOK_bad (i := k) (by omega) (by simp [scBad, *])]))
    ·
     have g4' := g4
     try simp only [qq] at g4'
     refine dr_yes rfl rfl (less_b g4) rfl (ev_fieldAddr fo84_1 (lr _)) ?_
     refine dr_yes rfl rfl (less_b g4) rfl (ev_load (lr _) rfl ty3 rfl) ?_
     refine dr_yes rfl rfl (less_b g4) rfl (ev_call en89 (lr _) (in_pure _ _ _) ⟨lr _, lr _, lr _, trivial⟩) ?_
     refine dr_yes rfl rfl (less_b g4) rfl (ev_not (lr _)) ?_
     refine dr_ev rfl (ev_pickF (v := .raw _) (less_b g4) (lr _)) ?_
     refine dr_ev rfl (ev_mv (v := .raw _) (lr _)) ?_
     refine dr_split 44 (lr _) (fun g5 => ?_) (fun g5 => ?_)
     ·
      have g5' := g5
      try simp only [qq] at g5'
      refine dr_no rfl rfl (less_b g5) rfl rfl ?_
      refine dr_no rfl rfl (less_b g5) rfl rfl ?_
      refine dr_no rfl rfl (less_b g5) rfl rfl ?_
      refine dr_no rfl rfl (less_b g5) rfl rfl ?_
      refine dr_no rfl rfl (less_b g5) rfl rfl ?_
      refine dr_no rfl rfl (less_b g5) rfl rfl ?_
      refine dr_ev rfl (ev_pickT (v := .raw _) (less_b g5) (lr _)) ?_
      refine dr_ev rfl (ev_mv (v := .raw _) (lr _)) ?_
      refine dr_no rfl rfl (lr _) rfl rfl ?_
      refine dr_no rfl rfl (lr _) rfl rfl ?_
      refine dr_no rfl rfl (lr _) rfl rfl ?_
      refine dr_no rfl rfl (lr _) rfl rfl ?_
      refine dr_no rfl rfl (lr _) rfl rfl ?_
      refine dr_no rfl rfl (lr _) rfl rfl ?_
      refine dr_no rfl rfl (lr _) rfl rfl ?_
      refine dr_no rfl rfl (lr _) rfl rfl ?_
      refine dr_ev rfl (ev_pickT (v := .raw _) (lr _) (lr _)) ?_
      refine dr_ev rfl (ev_mv (v := .raw _) (lr _)) ?_
      refine dr_no rfl rfl (lr _) rfl rfl ?_
      refine dr_no rfl rfl (lr _) rfl rfl ?_
      refine dr_no rfl rfl (lr _) rfl rfl ?_
      refine dr_no rfl rfl (lr _) rfl rfl ?_
      refine dr_ev rfl (ev_pickT (v := .raw _) (lr _) (lr _)) ?_
      refine dr_end (sq_nil ?_)
      refine aw_true (lr _) ?_
      refine aw_seq (aw_region ?_)
      refine asr (lr _) rfl ?_
      refine sq_nil (aw_ret ?_)
      exact retQ_pure (v := .raw _) rfl rfl (Less.eq (by rw [scOK_bad (i := k) (by omega) (by simp [scBad, *])]))
     ·
      have g5' := g5
      try simp only [qq] at g5'
      refine dr_yes rfl rfl (less_b g5) rfl (ev_fieldAddr fo84_2 (lr _)) ?_
      refine dr_yes rfl rfl (less_b g5) rfl (ev_load (lr _) rfl ty3 rfl) ?_
      refine dr_yes rfl rfl (less_b g5) rfl (ev_fieldAddr fo84_1 (lr _)) ?_
      refine dr_yes rfl rfl (less_b g5) rfl (ev_load (lr _) rfl ty3 rfl) ?_
      refine dr_yes rfl rfl (less_b g5) rfl (ev_call en89 (lr _) (in_pure _ _ _) ⟨lr _, lr _, lr _, trivial⟩) ?_
      refine dr_yes rfl rfl (less_b g5) rfl (ev_not (lr _)) ?_
      refine dr_ev rfl (ev_pickF (v := .raw _) (less_b g5) (lr _)) ?_
      refine dr_ev rfl (ev_mv (v := .raw _) (lr _)) ?_
      refine dr_split 52 (lr _) (fun g6 => ?_) (fun g6 => ?_)
      ·
       have g6' := g6
       try simp only [qq] at g6'
       refine dr_no rfl rfl (less_b g6) rfl rfl ?_
       refine dr_no rfl rfl (less_b g6) rfl rfl ?_
       refine dr_no rfl rfl (less_b g6) rfl rfl ?_
       refine dr_no rfl rfl (less_b g6) rfl rfl ?_
       refine dr_no rfl rfl (less_b g6) rfl rfl ?_
       refine dr_no rfl rfl (less_b g6) rfl rfl ?_
       refine dr_no rfl rfl (less_b g6) rfl rfl ?_
       refine dr_no rfl rfl (less_b g6) rfl rfl ?_
       refine dr_ev rfl (ev_pickT (v := .raw _) (less_b g6) (lr _)) ?_
       refine dr_ev rfl (ev_mv (v := .raw _) (lr _)) ?_
       refine dr_no rfl rfl (lr _) rfl rfl ?_
       refine dr_no rfl rfl (lr _) rfl rfl ?_
       refine dr_no rfl rfl (lr _) rfl rfl ?_
       refine dr_no rfl rfl (lr _) rfl rfl ?_
       refine dr_ev rfl (ev_pickT (v := .raw _) (lr _) (lr _)) ?_
       refine dr_end (sq_nil ?_)
       refine aw_true (lr _) ?_
       refine aw_seq (aw_region ?_)
       refine asr (lr _) rfl ?_
       refine sq_nil (aw_ret ?_)
       exact retQ_pure (v := .raw _) rfl rfl (Less.eq (by rw [scOK_bad (i := k) (by omega) (by simp [scBad, *])]))
      ·
       have g6' := g6
       try simp only [qq] at g6'
       refine dr_yes rfl rfl (less_b g6) rfl (ev_fieldAddr fo84_4 (lr _)) ?_
       refine dr_yes rfl rfl (less_b g6) rfl (ev_load (lr _) rfl ty3 rfl) ?_
       refine dr_yes rfl rfl (less_b g6) rfl (ev_fieldAddr fo27_3 (lr _)) ?_
       refine dr_yes rfl rfl (less_b g6) rfl (ev_load (lr _) rfl ty25 rfl) ?_
       refine dr_yes rfl rfl (less_b g6) rfl (ev_len_map sl25 (lr _)) ?_
       refine dr_yes rfl rfl (less_b g6) rfl (ev_sub (lr _) (lr _) (wr (by omega) (by omega))) ?_
       refine dr_yes rfl rfl (less_b g6) rfl (ev_call en89 (lr _) (in_pure _ _ _) ⟨lr _, lr _, lr _, trivial⟩) ?_
       refine dr_yes rfl rfl (less_b g6) rfl (ev_not (lr _)) ?_
       refine dr_ev rfl (ev_pickF (v := .raw _) (less_b g6) (lr _)) ?_
       refine dr_ev rfl (ev_mv (v := .raw _) (lr _)) ?_
       refine dr_split 62 (lr _) (fun g7 => ?_) (fun g7 => ?_)
       ·
        have g7' := g7
        try simp only [qq] at g7'
        refine dr_no rfl rfl (less_b g7) rfl rfl ?_
        refine dr_no rfl rfl (less_b g7) rfl rfl ?_
        refine dr_no rfl rfl (less_b g7) rfl rfl ?_
        refine dr_no rfl rfl (less_b g7) rfl rfl ?_
        refine dr_ev rfl (ev_pickT (v := .raw _) (less_b g7) (lr _)) ?_
        refine dr_end (sq_nil ?_)
        refine aw_true (lr _) ?_
        refine aw_seq (aw_region ?_)
        refine asr (lr _) rfl ?_
        refine sq_nil (aw_ret ?_)
        exact retQ_pure (v := .raw _) rfl rfl (Less.eq (by rw [scOK_bad (i := k) (by omega) (by simp [scBad, *])]))
       ·
        have g7' := g7
        try simp only [qq] at g7'
        refine dr_yes rfl rfl (less_b g7) rfl (ev_fieldAddr fo84_4 (lr _)) ?_
        refine dr_yes rfl rfl (less_b g7) rfl (ev_load (lr _) rfl ty3 rfl) ?_
        refine dr_yes rfl rfl (less_b g7) rfl (ev_mv (v := .raw _) (lr _)) ?_
        refine dr_yes rfl rfl (less_b g7) rfl (ev_eql (lr _) (lr _)) ?_
        refine dr_ev rfl (ev_pickF (v := .raw _) (less_b g7) (lr _)) ?_
        refine dr_end (sq_nil ?_)
        refine aw_cond (lr _) (fun c8 => ?_) (fun c8 => ?_)
        ·
         have c8' := c8
         try simp only [qq] at c8'
         refine aw_seq (aw_region ?_)
         refine asr (lr _) rfl ?_
         refine sq_nil (aw_ret ?_)
         exact retQ_pure (v := .raw _) rfl rfl (Less.eq (by rw [scOK_bad (i := k) (by omega) (by simp [scBad, *])]))
        ·
         have c8' := c8
         try simp only [qq] at c8'
         refine aw_skip (aw_seq (aw_region ?_))
         refine sq_ev rfl (ev_fieldAddr fo84_3 (lr _)) ?_
         refine sq_ev rfl (ev_load (lr _) rfl ty4 rfl) ?_
         refine sq_nil ?_
         refine aw_cond (lr _) (fun c9 => ?_) (fun c9 => ?_)
         ·
          have c9' := c9
          try simp only [qq] at c9'
          refine aw_region ?_
          refine mvr (lr _) rfl ?_
          refine sq_ev rfl (ev_add (lr _) (lr _) (wr (by omega) (by omega))) ?_
          refine asr (lr _) rfl ?_
          refine sq_nil (aw_region ?_)
          refine mvr (lr _) rfl ?_
          refine sq_ev rfl (ev_add (lr _) (lr _) (wr (by omega) (by omega))) ?_
          refine asr (lr _) rfl ?_
          refine sq_nil ?_
          have hstep := loosies_take (l := p.scenes) (k := k) (by omega)
          have hgood : scBad p.scenes k (by omega) = false := by simp [scBad, *]
          exact ⟨⟨k + 1, by omega, fun i h hi => (by by_cases e : i = k; (subst e; exact hgood); exact hok i h (by omega))⟩, by simp only; omega, Sub.fin 1 ⟨less_int (by rw [hstep]; simp [*]), lr _, lr _, trivial⟩ rfl (by simp [slotsIn, objsIn, sget, keepS, AObj.inB, AV.inB, AV.inL, AV.inE, inE_map]) (by simp [slotsIn, objsIn, sget, keepS, AObj.inB, AV.inB, AV.inL, AV.inE, inE_map]) (by simp [he0])⟩
         ·
          have c9' := c9
          try simp only [qq] at c9'
          refine aw_skip (aw_region ?_)
          refine mvr (lr _) rfl ?_
          refine sq_ev rfl (ev_add (lr _) (lr _) (wr (by omega) (by omega))) ?_
          refine asr (lr _) rfl ?_
          refine sq_nil ?_
          have hstep := loosies_take (l := p.scenes) (k := k) (by omega)
          have hgood : scBad p.scenes k (by omega) = false := by simp [scBad, *]
          exact ⟨⟨k + 1, by omega, fun i h hi => (by by_cases e : i = k; (subst e; exact hgood); exact hok i h (by omega))⟩, by simp only; omega, Sub.fin 1 ⟨less_int (by rw [hstep]; simp [*]), lr _, lr _, trivial⟩ rfl (by simp [slotsIn, objsIn, sget, keepS, AObj.inB, AV.inB, AV.inL, AV.inE, inE_map]) (by simp [slotsIn, objsIn, sget, keepS, AObj.inB, AV.inB, AV.inL, AV.inE, inE_map]) (by simp [he0])⟩
   ·
    have g3' := g3
    try simp only [qq] at g3'
    have g3n : ¬ (0 < k) := by omega
    refine dr_no rfl rfl (less_b g3) rfl rfl ?_
    refine dr_no rfl rfl (less_b g3) rfl rfl ?_
    refine dr_no rfl rfl (less_b g3) rfl rfl ?_
    refine dr_no rfl rfl (less_b g3) rfl rfl ?_
    refine dr_no rfl rfl (less_b g3) rfl rfl ?_
    refine dr_no rfl rfl (less_b g3) rfl rfl ?_
    refine dr_no rfl rfl (less_b g3) rfl rfl ?_
    refine dr_no rfl rfl (less_b g3) rfl rfl ?_
    refine dr_no rfl rfl (less_b g3) rfl rfl ?_
    refine dr_no rfl rfl (less_b g3) rfl rfl ?_
    refine dr_yes rfl rfl (less_b g2) rfl (ev_pickF (v := .raw _) (less_b g3) (lr _)) ?_
    refine dr_ev rfl (ev_pickF (v := .raw _) (less_b g2) (lr _)) ?_
    refine dr_ev rfl (ev_mv (v := .raw _) (lr _)) ?_
    refine dr_yes rfl rfl (lr _) rfl (ev_fieldAddr fo84_1 (lr _)) ?_
    refine dr_yes rfl rfl (lr _) rfl (ev_load (lr _) rfl ty3 rfl) ?_
    refine dr_yes rfl rfl (lr _) rfl (ev_call en89 (lr _) (in_pure _ _ _) ⟨lr _, lr _, lr _, trivial⟩) ?_
    refine dr_yes rfl rfl (lr _) rfl (ev_not (lr _)) ?_
    refine dr_ev rfl (ev_pickF (v := .raw _) (lr _) (lr _)) ?_
    refine dr_ev rfl (ev_mv (v := .raw _) (lr _)) ?_
    refine dr_split 44 (lr _) (fun g10 => ?_) (fun g10 => ?_)
    ·
     have g10' := g10
     try simp only [qq] at g10'
     refine dr_no rfl rfl (less_b g10) rfl rfl ?_
     refine dr_no rfl rfl (less_b g10) rfl rfl ?_
     refine dr_no rfl rfl (less_b g10) rfl rfl ?_
     refine dr_no rfl rfl (less_b g10) rfl rfl ?_
     refine dr_no rfl rfl (less_b g10) rfl rfl ?_
     refine dr_no rfl rfl (less_b g10) rfl rfl ?_
     refine dr_ev rfl (ev_pickT (v := .raw _) (less_b g10) (lr _)) ?_
     refine dr_ev rfl (ev_mv (v := .raw _) (lr _)) ?_
     refine dr_no rfl rfl (lr _) rfl rfl ?_
     refine dr_no rfl rfl (lr _) rfl rfl ?_
     refine dr_no rfl rfl (lr _) rfl rfl ?_
     refine dr_no rfl rfl (lr _) rfl rfl ?_
     refine dr_no rfl rfl (lr _) rfl rfl ?_
     refine dr_no rfl rfl (lr _) rfl rfl ?_
     refine dr_no rfl rfl (lr _) rfl rfl ?_
     refine dr_no rfl rfl (lr _) rfl rfl ?_
     refine dr_ev rfl (ev_pickT (v := .raw _) (lr _) (lr _)) ?_
     refine dr_ev rfl (ev_mv (v := .raw _) (lr _)) ?_
     refine dr_no rfl rfl (lr _) rfl rfl ?_
     refine dr_no rfl rfl (lr _) rfl rfl ?_
     refine dr_no rfl rfl (lr _) rfl rfl ?_
     refine dr_no rfl rfl (lr _) rfl rfl ?_
     refine dr_ev rfl (ev_pickT (v := .raw _) (lr _) (lr _)) ?_
     refine dr_end (sq_nil ?_)
     refine aw_true (lr _) ?_
     refine aw_seq (aw_region ?_)
     refine asr (lr _) rfl ?_
     refine sq_nil (aw_ret ?_)
     exact retQ_pure (v := .raw _) rfl rfl (Less.eq (by rw [scOK_bad (i := k) (by omega) (by simp [scBad, *])]))
    ·
     have g10' := g10
     try simp only [qq] at g10'
     refine dr_yes rfl rfl (less_b g10) rfl (ev_fieldAddr fo84_2 (lr _)) ?_
     refine dr_yes rfl rfl (less_b g10) rfl (ev_load (lr _) rfl ty3 rfl) ?_
     refine dr_yes rfl rfl (less_b g10) rfl (ev_fieldAddr fo84_1 (lr _)) ?_
     refine dr_yes rfl rfl (less_b g10) rfl (ev_load (lr _) rfl ty3 rfl) ?_
     refine dr_yes rfl rfl (less_b g10) rfl (ev_call en89 (lr _) (in_pure _ _ _) ⟨lr _, lr _, lr _, trivial⟩) ?_
     refine dr_yes rfl rfl (less_b g10) rfl (ev_not (lr _)) ?_
     refine dr_ev rfl (ev_pickF (v := .raw _) (less_b g10) (lr _)) ?_
     refine dr_ev rfl (ev_mv (v := .raw _) (lr _)) ?_
     refine dr_split 52 (lr _) (fun g11 => ?_) (fun g11 => ?_)
     ·
      have g11' := g11
      try simp only [qq] at g11'
      refine dr_no rfl rfl (less_b g11) rfl rfl ?_
      refine dr_no rfl rfl (less_b g11) rfl rfl ?_
      refine dr_no rfl rfl (less_b g11) rfl rfl ?_
      refine dr_no rfl rfl (less_b g11) rfl rfl ?_
      refine dr_no rfl rfl (less_b g11) rfl rfl ?_
      refine dr_no rfl rfl (less_b g11) rfl rfl ?_
      refine dr_no rfl rfl (less_b g11) rfl rfl ?_
      refine dr_no rfl rfl (less_b g11) rfl rfl ?_
      refine dr_ev rfl (ev_pickT (v := .raw _) (less_b g11) (lr _)) ?_
      refine dr_ev rfl (ev_mv (v := .raw _) (lr _)) ?_
      refine dr_no rfl rfl (lr _) rfl rfl ?_
      refine dr_no rfl rfl (lr _) rfl rfl ?_
      refine dr_no rfl rfl (lr _) rfl rfl ?_
      refine dr_no rfl rfl (lr _) rfl rfl ?_
      refine dr_ev rfl (ev_pickT (v := .raw _) (lr _) (lr _)) ?_
      refine dr_end (sq_nil ?_)
      refine aw_true (lr _) ?_
      refine aw_seq (aw_region ?_)
      refine asr (lr _) rfl ?_
      refine sq_nil (aw_ret ?_)
      exact retQ_pure (v := .raw _) rfl rfl (Less.eq (by rw [scOK_bad (i := k) (by omega) (by simp [scBad, *])]))
     ·
      have g11' := g11
      try simp only [qq] at g11'
      refine dr_yes rfl rfl (less_b g11) rfl (ev_fieldAddr fo84_4 (lr _)) ?_
      refine dr_yes rfl rfl (less_b g11) rfl (ev_load (lr _) rfl ty3 rfl) ?_
      refine dr_yes rfl rfl (less_b g11) rfl (ev_fieldAddr fo27_3 (lr _)) ?_
      refine dr_yes rfl rfl (less_b g11) rfl (ev_load (lr _) rfl ty25 rfl) ?_
      refine dr_yes rfl rfl (less_b g11) rfl (ev_len_map sl25 (lr _)) ?_
      refine dr_yes rfl rfl (less_b g11) rfl (ev_sub (lr _) (lr _) (wr (by omega) (by omega))) ?_
      refine dr_yes rfl rfl (less_b g11) rfl (ev_call en89 (lr _) (in_pure _ _ _) ⟨lr _, lr _, lr _, trivial⟩) ?_
      refine dr_yes rfl rfl (less_b g11) rfl (ev_not (lr _)) ?_
      refine dr_ev rfl (ev_pickF (v := .raw _) (less_b g11) (lr _)) ?_
      refine dr_ev rfl (ev_mv (v := .raw _) (lr _)) ?_
      refine dr_split 62 (lr _) (fun g12 => ?_) (fun g12 => ?_)
      ·
       have g12' := g12
       try simp only [qq] at g12'
       refine dr_no rfl rfl (less_b g12) rfl rfl ?_
       refine dr_no rfl rfl (less_b g12) rfl rfl ?_
       refine dr_no rfl rfl (less_b g12) rfl rfl ?_
       refine dr_no rfl rfl (less_b g12) rfl rfl ?_
       refine dr_ev rfl (ev_pickT (v := .raw _) (less_b g12) (lr _)) ?_
       refine dr_end (sq_nil ?_)
       refine aw_true (lr _) ?_
       refine aw_seq (aw_region ?_)
       refine asr (lr _) rfl ?_
       refine sq_nil (aw_ret ?_)
       exact retQ_pure (v := .raw _) rfl rfl (Less.eq (by rw [scOK_bad (i := k) (by omega) (by simp [scBad, *])]))
      ·
       have g12' := g12
       try simp only [qq] at g12'
       refine dr_yes rfl rfl (less_b g12) rfl (ev_fieldAddr fo84_4 (lr _)) ?_
       refine dr_yes rfl rfl (less_b g12) rfl (ev_load (lr _) rfl ty3 rfl) ?_
       refine dr_yes rfl rfl (less_b g12) rfl (ev_mv (v := .raw _) (lr _)) ?_
       refine dr_yes rfl rfl (less_b g12) rfl (ev_eql (lr _) (lr _)) ?_
       refine dr_ev rfl (ev_pickF (v := .raw _) (less_b g12) (lr _)) ?_
       refine dr_end (sq_nil ?_)
       refine aw_cond (lr _) (fun c13 => ?_) (fun c13 => ?_)
       ·
        have c13' := c13
        try simp only [qq] at c13'
        refine aw_seq (aw_region ?_)
        refine asr (lr _) rfl ?_
        refine sq_nil (aw_ret ?_)
        exact retQ_pure (v := .raw _) rfl rfl (Less.eq (by rw [scOK_bad (i := k) (by omega) (by simp [scBad, *])]))
       ·
        have c13' := c13
        try simp only [qq] at c13'
        refine aw_skip (aw_seq (aw_region ?_))
        refine sq_ev rfl (ev_fieldAddr fo84_3 (lr _)) ?_
        refine sq_ev rfl (ev_load (lr _) rfl ty4 rfl) ?_
        refine sq_nil ?_
        refine aw_cond (lr _) (fun c14 => ?_) (fun c14 => ?_)
        ·
         have c14' := c14
         try simp only [qq] at c14'
         refine aw_region ?_
         refine mvr (lr _) rfl ?_
         refine sq_ev rfl (ev_add (lr _) (lr _) (wr (by omega) (by omega))) ?_
         refine asr (lr _) rfl ?_
         refine sq_nil (aw_region ?_)
         refine mvr (lr _) rfl ?_
         refine sq_ev rfl (ev_add (lr _) (lr _) (wr (by omega) (by omega))) ?_
         refine asr (lr _) rfl ?_
         refine sq_nil ?_
         have hstep := loosies_take (l := p.scenes) (k := k) (by omega)
         have hgood : scBad p.scenes k (by omega) = false := by simp [scBad, *]
         exact ⟨⟨k + 1, by omega, fun i h hi => (by by_cases e : i = k; (subst e; exact hgood); exact hok i h (by omega))⟩, by simp only; omega, Sub.fin 1 ⟨less_int (by rw [hstep]; simp [*]), lr _, lr _, trivial⟩ rfl (by simp [slotsIn, objsIn, sget, keepS, AObj.inB, AV.inB, AV.inL, AV.inE, inE_map]) (by simp [slotsIn, objsIn, sget, keepS, AObj.inB, AV.inB, AV.inL, AV.inE, inE_map]) (by simp [he0])⟩
        ·
         have c14' := c14
         try simp only [qq] at c14'
         refine aw_skip (aw_region ?_)
         refine mvr (lr _) rfl ?_
         refine sq_ev rfl (ev_add (lr _) (lr _) (wr (by omega) (by omega))) ?_
         refine asr (lr _) rfl ?_
         refine sq_nil ?_
         have hstep := loosies_take (l := p.scenes) (k := k) (by omega)
         have hgood : scBad p.scenes k (by omega) = false := by simp [scBad, *]
         exact ⟨⟨k + 1, by omega, fun i h hi => (by by_cases e : i = k; (subst e; exact hgood); exact hok i h (by omega))⟩, by simp only; omega, Sub.fin 1 ⟨less_int (by rw [hstep]; simp [*]), lr _, lr _, trivial⟩ rfl (by simp [slotsIn, objsIn, sget, keepS, AObj.inB, AV.inB, AV.inL, AV.inE, inE_map]) (by simp [slotsIn, objsIn, sget, keepS, AObj.inB, AV.inB, AV.inL, AV.inE, inE_map]) (by simp [he0])⟩
 ·
  have c1' := c1
  try simp only [qq] at c1'
  refine aw_exit (aw_seq (aw_region ?_))
  refine mvr (lr _) rfl ?_
  refine sq_ev rfl (ev_leq (lr _) (lr _)) ?_
  refine asr (lr _) rfl ?_
  refine sq_nil (aw_ret ?_)
  exact retQ_pure (v := .raw _) rfl rfl (Less.eq (by rw [scOK_end hk c1' hok]))
set_option maxHeartbeats 1000000 in
theorem plan_pure (p : Pl) (hl : p.scenes.length ≤ 1000000) : APure Tryz.prog 24 [plan p] (B (PlOK p)) := by
 refine apure_of (rs := [.tmp 2]) Tryz.func24 rfl rfl (Nat.le_of_ble_eq_true rfl) (by simp [AV.pureL, AV.pureB, AV.pureE, pureE_map]) (rfl) fun e0 he0 => ?_
 refine aw_seq (aw_region ?_)
 refine sq_box rfl (lr _) rfl ?_
 refine asr (lr _) rfl ?_
 refine sq_nil (aw_seq (aw_region ?_))
 refine sq_ev rfl (ev_fieldAddr fo27_0 (lr _)) ?_
 refine sq_ev rfl (ev_load (lr _) rfl ty3 rfl) ?_
 refine sq_ev rfl (ev_call en89 (lr _) (in_pure _ _ _) ⟨lr _, lr _, lr _, trivial⟩) ?_
 refine mvr (lr _) rfl ?_
 refine sq_split 6 (lr _) (fun g1 => ?_) (fun g1 => ?_)
 ·
  have g1' := g1
  try simp only [qq] at g1'
  refine sq_yes rfl rfl (less_b g1) rfl (ev_fieldAddr fo27_1 (lr _)) ?_
  refine sq_yes rfl rfl (less_b g1) rfl (ev_index_box ar24 (lr _) (lr _) rfl (by decide)) ?_
  refine sq_yes rfl rfl (less_b g1) rfl (ev_load_agg (lr _) rfl ty23 rfl) ?_
  refine sq_yes rfl rfl (less_b g1) rfl (ev_call en90 (lr _) (window_pure _ _) ⟨lr _, trivial⟩) ?_
  refine sq_ev rfl (ev_pickT (v := .raw _) (less_b g1) (lr _)) ?_
  refine mvr (lr _) rfl ?_
  refine sq_split 12 (lr _) (fun g2 => ?_) (fun g2 => ?_)
  ·
   have g2' := g2
   try simp only [qq] at g2'
   refine sq_yes rfl rfl (less_b g2) rfl (ev_fieldAddr fo27_1 (lr _)) ?_
   refine sq_yes rfl rfl (less_b g2) rfl (ev_index_box ar24 (lr _) (lr _) rfl (by decide)) ?_
   refine sq_yes rfl rfl (less_b g2) rfl (ev_load_agg (lr _) rfl ty23 rfl) ?_
   refine sq_yes rfl rfl (less_b g2) rfl (ev_call en90 (lr _) (window_pure _ _) ⟨lr _, trivial⟩) ?_
   refine sq_ev rfl (ev_pickT (v := .raw _) (less_b g2) (lr _)) ?_
   refine mvr (lr _) rfl ?_
   refine sq_split 18 (lr _) (fun g3 => ?_) (fun g3 => ?_)
   ·
    have g3' := g3
    try simp only [qq] at g3'
    refine sq_yes rfl rfl (less_b g3) rfl (ev_fieldAddr fo27_2 (lr _)) ?_
    refine sq_yes rfl rfl (less_b g3) rfl (ev_load_agg (lr _) rfl ty23 rfl) ?_
    refine sq_yes rfl rfl (less_b g3) rfl (ev_call en90 (lr _) (window_pure _ _) ⟨lr _, trivial⟩) ?_
    refine sq_ev rfl (ev_pickT (v := .raw _) (less_b g3) (lr _)) ?_
    refine mvr (lr _) rfl ?_
    refine sq_split 23 (lr _) (fun g4 => ?_) (fun g4 => ?_)
    ·
     have g4' := g4
     try simp only [qq] at g4'
     refine sq_yes rfl rfl (less_b g4) rfl (ev_fieldAddr fo27_3 (lr _)) ?_
     refine sq_yes rfl rfl (less_b g4) rfl (ev_load (lr _) rfl ty25 rfl) ?_
     refine sq_yes rfl rfl (less_b g4) rfl (ev_len_map sl25 (lr _)) ?_
     refine sq_yes rfl rfl (less_b g4) rfl (ev_call en89 (lr _) (in_pure _ _ _) ⟨lr _, lr _, lr _, trivial⟩) ?_
     refine sq_ev rfl (ev_pickT (v := .raw _) (less_b g4) (lr _)) ?_
     refine mvr (lr _) rfl ?_
     refine sq_split 29 (lr _) (fun g5 => ?_) (fun g5 => ?_)
     ·
      have g5' := g5
      try simp only [qq] at g5'
      refine sq_yes rfl rfl (less_b g5) rfl (ev_load_agg (lr _) rfl ty27 rfl) ?_
      refine sq_yes rfl rfl (less_b g5) rfl (ev_call en91 (lr _) (scenes_pure _ hl) ⟨lr _, trivial⟩) ?_
      refine sq_ev rfl (ev_pickT (v := .raw _) (less_b g5) (lr _)) ?_
      refine asr (lr _) rfl ?_
      refine sq_nil (aw_ret ?_)
      exact retQ_pure (v := .raw _) rfl rfl (Less.eq (by simp [PlOK, *]))
     ·
      have g5' := g5
      try simp only [qq] at g5'
      refine sq_no rfl rfl (less_b g5) rfl rfl ?_
      refine sq_no rfl rfl (less_b g5) rfl rfl ?_
      refine sq_ev rfl (ev_pickF (v := .raw _) (less_b g5) (lr _)) ?_
      refine asr (lr _) rfl ?_
      refine sq_nil (aw_ret ?_)
      exact retQ_pure (v := .raw _) rfl rfl (Less.eq (by simp [PlOK, *]))
    ·
     have g4' := g4
     try simp only [qq] at g4'
     refine sq_no rfl rfl (less_b g4) rfl rfl ?_
     refine sq_no rfl rfl (less_b g4) rfl rfl ?_
     refine sq_no rfl rfl (less_b g4) rfl rfl ?_
     refine sq_no rfl rfl (less_b g4) rfl rfl ?_
     refine sq_ev rfl (ev_pickF (v := .raw _) (less_b g4) (lr _)) ?_
     refine mvr (lr _) rfl ?_
     refine sq_no rfl rfl (lr _) rfl rfl ?_
     refine sq_no rfl rfl (lr _) rfl rfl ?_
     refine pf rfl (lr _) (lr _) ?_
     refine asr (lr _) rfl ?_
     refine sq_nil (aw_ret ?_)
     exact retQ_pure (v := .raw _) rfl rfl (Less.eq (by simp [PlOK, *]))
   ·
    have g3' := g3
    try simp only [qq] at g3'
    refine sq_no rfl rfl (less_b g3) rfl rfl ?_
    refine sq_no rfl rfl (less_b g3) rfl rfl ?_
    refine sq_no rfl rfl (less_b g3) rfl rfl ?_
    refine sq_ev rfl (ev_pickF (v := .raw _) (less_b g3) (lr _)) ?_
    refine mvr (lr _) rfl ?_
    refine sq_no rfl rfl (lr _) rfl rfl ?_
    refine sq_no rfl rfl (lr _) rfl rfl ?_
    refine sq_no rfl rfl (lr _) rfl rfl ?_
    refine sq_no rfl rfl (lr _) rfl rfl ?_
    refine pf rfl (lr _) (lr _) ?_
    refine mvr (lr _) rfl ?_
    refine sq_no rfl rfl (lr _) rfl rfl ?_
    refine sq_no rfl rfl (lr _) rfl rfl ?_
    refine pf rfl (lr _) (lr _) ?_
    refine asr (lr _) rfl ?_
    refine sq_nil (aw_ret ?_)
    exact retQ_pure (v := .raw _) rfl rfl (Less.eq (by simp [PlOK, *]))
  ·
   have g2' := g2
   try simp only [qq] at g2'
   refine sq_no rfl rfl (less_b g2) rfl rfl ?_
   refine sq_no rfl rfl (less_b g2) rfl rfl ?_
   refine sq_no rfl rfl (less_b g2) rfl rfl ?_
   refine sq_no rfl rfl (less_b g2) rfl rfl ?_
   refine sq_ev rfl (ev_pickF (v := .raw _) (less_b g2) (lr _)) ?_
   refine mvr (lr _) rfl ?_
   refine sq_no rfl rfl (lr _) rfl rfl ?_
   refine sq_no rfl rfl (lr _) rfl rfl ?_
   refine sq_no rfl rfl (lr _) rfl rfl ?_
   refine pf rfl (lr _) (lr _) ?_
   refine mvr (lr _) rfl ?_
   refine sq_no rfl rfl (lr _) rfl rfl ?_
   refine sq_no rfl rfl (lr _) rfl rfl ?_
   refine sq_no rfl rfl (lr _) rfl rfl ?_
   refine sq_no rfl rfl (lr _) rfl rfl ?_
   refine pf rfl (lr _) (lr _) ?_
   refine mvr (lr _) rfl ?_
   refine sq_no rfl rfl (lr _) rfl rfl ?_
   refine sq_no rfl rfl (lr _) rfl rfl ?_
   refine pf rfl (lr _) (lr _) ?_
   refine asr (lr _) rfl ?_
   refine sq_nil (aw_ret ?_)
   exact retQ_pure (v := .raw _) rfl rfl (Less.eq (by simp [PlOK, *]))
 ·
  have g1' := g1
  try simp only [qq] at g1'
  refine sq_no rfl rfl (less_b g1) rfl rfl ?_
  refine sq_no rfl rfl (less_b g1) rfl rfl ?_
  refine sq_no rfl rfl (less_b g1) rfl rfl ?_
  refine sq_no rfl rfl (less_b g1) rfl rfl ?_
  refine sq_ev rfl (ev_pickF (v := .raw _) (less_b g1) (lr _)) ?_
  refine mvr (lr _) rfl ?_
  refine sq_no rfl rfl (lr _) rfl rfl ?_
  refine sq_no rfl rfl (lr _) rfl rfl ?_
  refine sq_no rfl rfl (lr _) rfl rfl ?_
  refine sq_no rfl rfl (lr _) rfl rfl ?_
  refine pf rfl (lr _) (lr _) ?_
  refine mvr (lr _) rfl ?_
  refine sq_no rfl rfl (lr _) rfl rfl ?_
  refine sq_no rfl rfl (lr _) rfl rfl ?_
  refine sq_no rfl rfl (lr _) rfl rfl ?_
  refine pf rfl (lr _) (lr _) ?_
  refine mvr (lr _) rfl ?_
  refine sq_no rfl rfl (lr _) rfl rfl ?_
  refine sq_no rfl rfl (lr _) rfl rfl ?_
  refine sq_no rfl rfl (lr _) rfl rfl ?_
  refine sq_no rfl rfl (lr _) rfl rfl ?_
  refine pf rfl (lr _) (lr _) ?_
  refine mvr (lr _) rfl ?_
  refine sq_no rfl rfl (lr _) rfl rfl ?_
  refine sq_no rfl rfl (lr _) rfl rfl ?_
  refine pf rfl (lr _) (lr _) ?_
  refine asr (lr _) rfl ?_
  refine sq_nil (aw_ret ?_)
  exact retQ_pure (v := .raw _) rfl rfl (Less.eq (by simp [PlOK, *]))
set_option maxHeartbeats 400000 in
theorem scene_pure (p : Pl) (n : Int) (hl : p.scenes.length ≤ 1000000) : APure Tryz.prog 35 [plan p, I n] (B (isSc p n)) := by
 refine apure_of (rs := [.tmp 4]) Tryz.func35 rfl rfl (Nat.le_of_ble_eq_true rfl) (by simp [AV.pureL, AV.pureB, AV.pureE, pureE_map]) (rfl) fun e0 he0 => ?_
 refine aw_seq (aw_region ?_)
 refine sq_box rfl (lr _) rfl ?_
 refine asr (lr _) rfl ?_
 refine sq_nil (aw_seq (aw_region ?_))
 refine mvr (lr _) rfl ?_
 refine sq_ev rfl (ev_fieldAddr fo27_3 (lr _)) ?_
 refine sq_ev rfl (ev_load (lr _) rfl ty25 rfl) ?_
 refine sq_ev rfl (ev_len_map sl25 (lr _)) ?_
 refine sq_ev rfl (ev_sub (lr _) (lr _) (wr (by omega) (by omega))) ?_
 refine sq_ev rfl (ev_call en89 (lr _) (in_pure _ _ _) ⟨lr _, lr _, lr _, trivial⟩) ?_
 refine asr (lr _) rfl ?_
 refine sq_nil (aw_ret ?_)
 exact retQ_pure (v := .raw _) rfl rfl (Less.eq (by simp [isSc]))
set_option maxHeartbeats 400000 in
theorem has_pure (l : List Int) (n : Int) (hl : l.length ≤ 1000000) : APure Tryz.prog 62 [ints l, I n] (B (has l n)) := by
 refine apure_of (rs := [.tmp 4]) Tryz.func62 rfl rfl (Nat.le_of_ble_eq_true rfl) (by simp [AV.pureL, AV.pureB, AV.pureE, pureE_map]) (rfl) fun e0 he0 => ?_
 refine aw_seq (aw_region ?_)
 refine asr (lr _) rfl ?_
 refine sq_nil (aw_seq (aw_seq (aw_region ?_)))
 refine asr (lr _) rfl ?_
 refine sq_nil (aw_block ?_)
 refine aw_loopk (ι := { k : Nat // k ≤ l.length ∧ ∀ j, (h : j < l.length) → j < k → l[j] ≠ n }) [0, 1] (fun i => [(5, I i.1)]) (fun H i => H) (fun i => l.length - i.1) (⟨0, Nat.zero_le _, by omega⟩) ⟨lr _, lr _, lr _, trivial⟩ rfl ?_
 rintro ⟨k, hk, hok⟩
 dsimp only [keepS, St.put, sget, slotsOf, List.map_cons, List.map_nil, List.cons_append, List.nil_append, List.length_cons, List.length_nil, Nat.reduceBEq, Nat.reduceAdd, cond_true, cond_false]
 refine aw_seq (aw_seq (aw_region ?_))
 refine mvr (lr _) rfl ?_
 refine mvs rfl (lr _) ?_
 refine sq_ev rfl (ev_len_map sl34 (lr _)) ?_
 refine sq_ev rfl (ev_lss (lr _) (lr _)) ?_
 refine sq_nil ?_
 refine aw_cond (lr _) (fun c1 => ?_) (fun c1 => ?_)
 ·
  have c1' := c1
  try simp only [qq] at c1'
  refine aw_skip (aw_seq (aw_block (aw_seq (aw_region ?_))))
  refine mvs rfl (lr _) ?_
  refine mvr (lr _) rfl ?_
  refine sq_ev rfl (ev_index_map sl34 (lr _) (lr _) rfl (by omega)) ?_
  refine sq_ev rfl (ev_load_i (lr _) ty3 rfl) ?_
  refine mvr (lr _) rfl ?_
  refine sq_ev rfl (ev_eql (lr _) (lr _)) ?_
  refine sq_nil ?_
  refine aw_cond (lr _) (fun c2 => ?_) (fun c2 => ?_)
  ·
   have c2' := c2
   try simp only [qq] at c2'
   refine aw_seq (aw_region ?_)
   refine asr (lr _) rfl ?_
   refine sq_nil (aw_ret ?_)
   exact retQ_pure (v := .raw _) rfl rfl (Less.eq (by rw [has_yes (k := k) (by omega) c2']))
  ·
   have c2' := c2
   try simp only [qq] at c2'
   refine aw_skip (aw_region ?_)
   refine mvr (lr _) rfl ?_
   refine sq_ev rfl (ev_add (lr _) (lr _) (wr (by omega) (by omega))) ?_
   refine asr (lr _) rfl ?_
   refine sq_nil ?_
   exact ⟨⟨k + 1, by omega, fun j h hj => (by by_cases e : j = k; (subst e; exact c2'); exact hok j h (by omega))⟩, by simp only; omega, Sub.slots ⟨lr _, lr _, lr _, trivial⟩⟩
 ·
  have c1' := c1
  try simp only [qq] at c1'
  refine aw_exit (aw_seq (aw_region ?_))
  refine asr (lr _) rfl ?_
  refine sq_nil (aw_ret ?_)
  exact retQ_pure (v := .raw _) rfl rfl (Less.eq (by rw [has_no c1' hok]))
set_option maxHeartbeats 2000000 in
theorem choice_pure (p : Pl) (l : List Int) (hp : p.scenes.length ≤ 1000000) (hl : l.length ≤ 1000000) : APure Tryz.prog 78 [plan p, ints l] (B (isCh p l)) := by
 refine apure_of (rs := [.tmp 4]) Tryz.func78 rfl rfl (Nat.le_of_ble_eq_true rfl) (by simp [AV.pureL, AV.pureB, AV.pureE, pureE_map]) (rfl) fun e0 he0 => ?_
 refine aw_seq (aw_region ?_)
 refine sq_box rfl (lr _) rfl ?_
 refine asr (lr _) rfl ?_
 refine sq_nil (aw_seq (aw_seq (aw_region ?_)))
 refine asr (lr _) rfl ?_
 refine sq_nil (aw_block ?_)
 refine aw_loopk (ι := { k : Nat // k ≤ p.scenes.length ∧ ∀ i, (h : i < p.scenes.length) → i < k → chBad p l i h = false }) [1, 2] (fun i => [(5, I i.1)]) (fun H i => H) (fun i => p.scenes.length - i.1) (⟨0, Nat.zero_le _, by omega⟩) ⟨lr _, lr _, lr _, trivial⟩ rfl ?_
 rintro ⟨k, hk, hok⟩
 dsimp only [keepS, St.put, sget, slotsOf, List.map_cons, List.map_nil, List.cons_append, List.nil_append, List.length_cons, List.length_nil, Nat.reduceBEq, Nat.reduceAdd, cond_true, cond_false]
 refine aw_seq (aw_seq (aw_region ?_))
 refine mvr (lr _) rfl ?_
 refine sq_ev rfl (ev_fieldAddr fo27_3 (lr _)) ?_
 refine sq_ev rfl (ev_load (lr _) rfl ty25 rfl) ?_
 refine sq_ev rfl (ev_len_map sl25 (lr _)) ?_
 refine sq_ev rfl (ev_lss (lr _) (lr _)) ?_
 refine sq_nil ?_
 refine aw_cond (lr _) (fun c1 => ?_) (fun c1 => ?_)
 ·
  have c1' := c1
  try simp only [qq] at c1'
  refine aw_skip (aw_seq (aw_block (aw_seq (aw_region ?_))))
  refine sq_ev rfl (ev_fieldAddr fo27_3 (lr _)) ?_
  refine sq_ev rfl (ev_load (lr _) rfl ty25 rfl) ?_
  refine mvr (lr _) rfl ?_
  refine sq_ev rfl (ev_index_map sl25 (lr _) (lr _) rfl (by omega)) ?_
  refine sq_ev rfl (ev_load_agg_i (lr _) ty84 (Nat.le_of_ble_eq_true rfl)) ?_
  refine sq_alloc rfl z84 ?_
  refine sq_store rfl (lr _) (lr _) rfl rfl ty84 rfl rfl ?_
  refine sq_nil (aw_seq (aw_region ?_))
  refine mvs rfl (lr _) ?_
  refine mvr (lr _) rfl ?_
  refine sq_ev rfl (ev_call en62 (lr _) (has_pure _ _ hl) ⟨lr _, lr _, trivial⟩) ?_
  refine sq_ev rfl (ev_not (lr _)) ?_
  refine mvr (lr _) rfl ?_
  refine sq_split 23 (lr _) (fun g2 => ?_) (fun g2 => ?_)
  ·
   have g2' := g2
   try simp only [qq] at g2'
   refine sq_yes rfl rfl (less_b g2) rfl (ev_fieldAddr fo84_3 (lr _)) ?_
   refine sq_yes rfl rfl (less_b g2) rfl (ev_load (lr _) rfl ty4 rfl) ?_
   refine sq_yes rfl rfl (less_b g2) rfl (ev_not (lr _)) ?_
   refine sq_ev rfl (ev_pickT (v := .raw _) (less_b g2) (lr _)) ?_
   refine mvr (lr _) rfl ?_
   refine sq_split 28 (lr _) (fun g3 => ?_) (fun g3 => ?_)
   ·
    have g3' := g3
    try simp only [qq] at g3'
    refine sq_no rfl rfl (less_b g3) rfl rfl ?_
    refine sq_no rfl rfl (less_b g3) rfl rfl ?_
    refine sq_no rfl rfl (less_b g3) rfl rfl ?_
    refine sq_no rfl rfl (less_b g3) rfl rfl ?_
    refine sq_no rfl rfl (lr _) rfl rfl ?_
    refine sq_no rfl rfl (lr _) rfl rfl ?_
    refine sq_no rfl rfl (lr _) rfl rfl ?_
    refine sq_no rfl rfl (less_b g3) rfl rfl ?_
    refine sq_no rfl rfl (less_b g3) rfl rfl ?_
    refine sq_no rfl rfl (lr _) rfl rfl ?_
    refine sq_no rfl rfl (lr _) rfl rfl ?_
    refine sq_no rfl rfl (lr _) rfl rfl ?_
    refine sq_no rfl rfl (lr _) rfl rfl ?_
    refine sq_no rfl rfl (lr _) rfl rfl ?_
    refine sq_no rfl rfl (less_b g3) rfl rfl ?_
    refine sq_ev rfl (ev_pickT (v := .raw _) (less_b g3) (lr _)) ?_
    refine sq_nil ?_
    refine aw_true (lr _) ?_
    refine aw_seq (aw_region ?_)
    refine asr (lr _) rfl ?_
    refine sq_nil (aw_ret ?_)
    exact retQ_pure (v := .raw _) rfl rfl (Less.eq (by rw [isCh, okAll_bad (i := k) (by omega) (by first | (simp [chBad, *]; done) | (simp_all [chBad]; done))]))
   ·
    have g3' := g3
    try simp only [qq] at g3'
    refine sq_yes rfl rfl (less_b g3) rfl (ev_mv (v := .sl _ _) (lr _)) ?_
    refine sq_yes rfl rfl (less_b g3) rfl (ev_mv (v := .raw _) (lr _)) ?_
    refine sq_yes rfl rfl (less_b g3) rfl (ev_call en62 (lr _) (has_pure _ _ hl) ⟨lr _, lr _, trivial⟩) ?_
    refine sq_yes rfl rfl (less_b g3) rfl (ev_mv (v := .raw _) (lr _)) ?_
    refine sq_split 32 (lr _) (fun g4 => ?_) (fun g4 => ?_)
    ·
     have g4' := g4
     try simp only [qq] at g4'
     refine sq_yes rfl rfl (less_b g4) rfl (ev_fieldAddr fo84_4 (lr _)) ?_
     refine sq_yes rfl rfl (less_b g4) rfl (ev_load (lr _) rfl ty3 rfl) ?_
     refine sq_yes rfl rfl (less_b g4) rfl (ev_geq (lr _) (lr _)) ?_
     refine sq_yes rfl rfl (less_b g3) rfl (ev_pickT (v := .raw _) (less_b g4) (lr _)) ?_
     refine sq_yes rfl rfl (less_b g3) rfl (ev_mv (v := .raw _) (lr _)) ?_
     refine sq_split 37 (lr _) (fun g5 => ?_) (fun g5 => ?_)
     ·
      have g5' := g5
      try simp only [qq] at g5'
      refine sq_yes rfl rfl (less_b g5) rfl (ev_mv (v := .sl _ _) (lr _)) ?_
      refine sq_yes rfl rfl (less_b g5) rfl (ev_fieldAddr fo84_4 (lr _)) ?_
      refine sq_yes rfl rfl (less_b g5) rfl (ev_load (lr _) rfl ty3 rfl) ?_
      refine sq_yes rfl rfl (less_b g5) rfl (ev_call en62 (lr _) (has_pure _ _ hl) ⟨lr _, lr _, trivial⟩) ?_
      refine sq_yes rfl rfl (less_b g5) rfl (ev_not (lr _)) ?_
      refine sq_yes rfl rfl (less_b g3) rfl (ev_pickT (v := .raw _) (less_b g5) (lr _)) ?_
      refine sq_ev rfl (ev_pickF (v := .raw _) (less_b g3) (lr _)) ?_
      refine sq_nil ?_
      refine aw_cond (lr _) (fun c6 => ?_) (fun c6 => ?_)
      ·
       have c6' := c6
       try simp only [qq] at c6'
       refine aw_seq (aw_region ?_)
       refine asr (lr _) rfl ?_
       refine sq_nil (aw_ret ?_)
       exact retQ_pure (v := .raw _) rfl rfl (Less.eq (by rw [isCh, okAll_bad (i := k) (by omega) (by first | (simp [chBad, *]; done) | (simp_all [chBad]; done))]))
      ·
       have c6' := c6
       try simp only [qq] at c6'
       refine aw_skip (aw_region ?_)
       refine mvr (lr _) rfl ?_
       refine sq_ev rfl (ev_add (lr _) (lr _) (wr (by omega) (by omega))) ?_
       refine asr (lr _) rfl ?_
       refine sq_nil ?_
       have hgood : chBad p l k (by omega) = false := by first | (simp [chBad, *]; done) | (simp_all [chBad]; done)
       exact ⟨⟨k + 1, by omega, fun i h hi => (by by_cases e : i = k; (subst e; exact hgood); exact hok i h (by omega))⟩, by simp only; omega, Sub.fin 1 ⟨lr _, lr _, lr _, trivial⟩ rfl (by simp [slotsIn, objsIn, sget, keepS, AObj.inB, AV.inB, AV.inL, AV.inE, inE_map]) (by simp [slotsIn, objsIn, sget, keepS, AObj.inB, AV.inB, AV.inL, AV.inE, inE_map]) (by simp [he0])⟩
     ·
      have g5' := g5
      try simp only [qq] at g5'
      refine sq_no rfl rfl (less_b g5) rfl rfl ?_
      refine sq_no rfl rfl (less_b g5) rfl rfl ?_
      refine sq_no rfl rfl (less_b g5) rfl rfl ?_
      refine sq_no rfl rfl (less_b g5) rfl rfl ?_
      refine sq_no rfl rfl (less_b g5) rfl rfl ?_
      refine sq_yes rfl rfl (less_b g3) rfl (ev_pickF (v := .raw _) (less_b g5) (lr _)) ?_
      refine sq_ev rfl (ev_pickF (v := .raw _) (less_b g3) (lr _)) ?_
      refine sq_nil ?_
      refine aw_false (lr _) ?_
      refine aw_skip (aw_region ?_)
      refine mvr (lr _) rfl ?_
      refine sq_ev rfl (ev_add (lr _) (lr _) (wr (by omega) (by omega))) ?_
      refine asr (lr _) rfl ?_
      refine sq_nil ?_
      have hgood : chBad p l k (by omega) = false := by first | (simp [chBad, *]; done) | (simp_all [chBad]; done)
      exact ⟨⟨k + 1, by omega, fun i h hi => (by by_cases e : i = k; (subst e; exact hgood); exact hok i h (by omega))⟩, by simp only; omega, Sub.fin 1 ⟨lr _, lr _, lr _, trivial⟩ rfl (by simp [slotsIn, objsIn, sget, keepS, AObj.inB, AV.inB, AV.inL, AV.inE, inE_map]) (by simp [slotsIn, objsIn, sget, keepS, AObj.inB, AV.inB, AV.inL, AV.inE, inE_map]) (by simp [he0])⟩
    ·
     have g4' := g4
     try simp only [qq] at g4'
     refine sq_no rfl rfl (less_b g4) rfl rfl ?_
     refine sq_no rfl rfl (less_b g4) rfl rfl ?_
     refine sq_no rfl rfl (less_b g4) rfl rfl ?_
     refine sq_yes rfl rfl (less_b g3) rfl (ev_pickF (v := .raw _) (less_b g4) (lr _)) ?_
     refine sq_yes rfl rfl (less_b g3) rfl (ev_mv (v := .raw _) (lr _)) ?_
     refine sq_no rfl rfl (lr _) rfl rfl ?_
     refine sq_no rfl rfl (lr _) rfl rfl ?_
     refine sq_no rfl rfl (lr _) rfl rfl ?_
     refine sq_no rfl rfl (lr _) rfl rfl ?_
     refine sq_no rfl rfl (lr _) rfl rfl ?_
     refine sq_yes rfl rfl (less_b g3) rfl (ev_pickF (v := .raw _) (lr _) (lr _)) ?_
     refine sq_ev rfl (ev_pickF (v := .raw _) (less_b g3) (lr _)) ?_
     refine sq_nil ?_
     refine aw_false (lr _) ?_
     refine aw_skip (aw_region ?_)
     refine mvr (lr _) rfl ?_
     refine sq_ev rfl (ev_add (lr _) (lr _) (wr (by omega) (by omega))) ?_
     refine asr (lr _) rfl ?_
     refine sq_nil ?_
     have hgood : chBad p l k (by omega) = false := by first | (simp [chBad, *]; done) | (simp_all [chBad]; done)
     exact ⟨⟨k + 1, by omega, fun i h hi => (by by_cases e : i = k; (subst e; exact hgood); exact hok i h (by omega))⟩, by simp only; omega, Sub.fin 1 ⟨lr _, lr _, lr _, trivial⟩ rfl (by simp [slotsIn, objsIn, sget, keepS, AObj.inB, AV.inB, AV.inL, AV.inE, inE_map]) (by simp [slotsIn, objsIn, sget, keepS, AObj.inB, AV.inB, AV.inL, AV.inE, inE_map]) (by simp [he0])⟩
  ·
   have g2' := g2
   try simp only [qq] at g2'
   refine sq_no rfl rfl (less_b g2) rfl rfl ?_
   refine sq_no rfl rfl (less_b g2) rfl rfl ?_
   refine sq_no rfl rfl (less_b g2) rfl rfl ?_
   refine sq_ev rfl (ev_pickF (v := .raw _) (less_b g2) (lr _)) ?_
   refine mvr (lr _) rfl ?_
   refine ysl rfl rfl (lr _) rfl (lr _) ?_
   refine ymr rfl rfl (lr _) rfl (lr _) ?_
   refine sq_yes rfl rfl (lr _) rfl (ev_call en62 (lr _) (has_pure _ _ hl) ⟨lr _, lr _, trivial⟩) ?_
   refine ymr rfl rfl (lr _) rfl (lr _) ?_
   refine sq_split 32 (lr _) (fun g7 => ?_) (fun g7 => ?_)
   ·
    have g7' := g7
    try simp only [qq] at g7'
    refine sq_yes rfl rfl (less_b g7) rfl (ev_fieldAddr fo84_4 (lr _)) ?_
    refine sq_yes rfl rfl (less_b g7) rfl (ev_load (lr _) rfl ty3 rfl) ?_
    refine sq_yes rfl rfl (less_b g7) rfl (ev_geq (lr _) (lr _)) ?_
    refine sq_yes rfl rfl (lr _) rfl (ev_pickT (v := .raw _) (less_b g7) (lr _)) ?_
    refine ymr rfl rfl (lr _) rfl (lr _) ?_
    refine sq_split 37 (lr _) (fun g8 => ?_) (fun g8 => ?_)
    ·
     have g8' := g8
     try simp only [qq] at g8'
     refine sq_yes rfl rfl (less_b g8) rfl (ev_mv (v := .sl _ _) (lr _)) ?_
     refine sq_yes rfl rfl (less_b g8) rfl (ev_fieldAddr fo84_4 (lr _)) ?_
     refine sq_yes rfl rfl (less_b g8) rfl (ev_load (lr _) rfl ty3 rfl) ?_
     refine sq_yes rfl rfl (less_b g8) rfl (ev_call en62 (lr _) (has_pure _ _ hl) ⟨lr _, lr _, trivial⟩) ?_
     refine sq_yes rfl rfl (less_b g8) rfl (ev_not (lr _)) ?_
     refine sq_yes rfl rfl (lr _) rfl (ev_pickT (v := .raw _) (less_b g8) (lr _)) ?_
     refine pf rfl (lr _) (lr _) ?_
     refine sq_nil ?_
     refine aw_cond (lr _) (fun c9 => ?_) (fun c9 => ?_)
     ·
      have c9' := c9
      try simp only [qq] at c9'
      refine aw_seq (aw_region ?_)
      refine asr (lr _) rfl ?_
      refine sq_nil (aw_ret ?_)
      exact retQ_pure (v := .raw _) rfl rfl (Less.eq (by rw [isCh, okAll_bad (i := k) (by omega) (by first | (simp [chBad, *]; done) | (simp_all [chBad]; done))]))
     ·
      have c9' := c9
      try simp only [qq] at c9'
      refine aw_skip (aw_region ?_)
      refine mvr (lr _) rfl ?_
      refine sq_ev rfl (ev_add (lr _) (lr _) (wr (by omega) (by omega))) ?_
      refine asr (lr _) rfl ?_
      refine sq_nil ?_
      have hgood : chBad p l k (by omega) = false := by first | (simp [chBad, *]; done) | (simp_all [chBad]; done)
      exact ⟨⟨k + 1, by omega, fun i h hi => (by by_cases e : i = k; (subst e; exact hgood); exact hok i h (by omega))⟩, by simp only; omega, Sub.fin 1 ⟨lr _, lr _, lr _, trivial⟩ rfl (by simp [slotsIn, objsIn, sget, keepS, AObj.inB, AV.inB, AV.inL, AV.inE, inE_map]) (by simp [slotsIn, objsIn, sget, keepS, AObj.inB, AV.inB, AV.inL, AV.inE, inE_map]) (by simp [he0])⟩
    ·
     have g8' := g8
     try simp only [qq] at g8'
     refine sq_no rfl rfl (less_b g8) rfl rfl ?_
     refine sq_no rfl rfl (less_b g8) rfl rfl ?_
     refine sq_no rfl rfl (less_b g8) rfl rfl ?_
     refine sq_no rfl rfl (less_b g8) rfl rfl ?_
     refine sq_no rfl rfl (less_b g8) rfl rfl ?_
     refine sq_yes rfl rfl (lr _) rfl (ev_pickF (v := .raw _) (less_b g8) (lr _)) ?_
     refine pf rfl (lr _) (lr _) ?_
     refine sq_nil ?_
     refine aw_false (lr _) ?_
     refine aw_skip (aw_region ?_)
     refine mvr (lr _) rfl ?_
     refine sq_ev rfl (ev_add (lr _) (lr _) (wr (by omega) (by omega))) ?_
     refine asr (lr _) rfl ?_
     refine sq_nil ?_
     have hgood : chBad p l k (by omega) = false := by first | (simp [chBad, *]; done) | (simp_all [chBad]; done)
     exact ⟨⟨k + 1, by omega, fun i h hi => (by by_cases e : i = k; (subst e; exact hgood); exact hok i h (by omega))⟩, by simp only; omega, Sub.fin 1 ⟨lr _, lr _, lr _, trivial⟩ rfl (by simp [slotsIn, objsIn, sget, keepS, AObj.inB, AV.inB, AV.inL, AV.inE, inE_map]) (by simp [slotsIn, objsIn, sget, keepS, AObj.inB, AV.inB, AV.inL, AV.inE, inE_map]) (by simp [he0])⟩
   ·
    have g7' := g7
    try simp only [qq] at g7'
    refine sq_no rfl rfl (less_b g7) rfl rfl ?_
    refine sq_no rfl rfl (less_b g7) rfl rfl ?_
    refine sq_no rfl rfl (less_b g7) rfl rfl ?_
    refine sq_yes rfl rfl (lr _) rfl (ev_pickF (v := .raw _) (less_b g7) (lr _)) ?_
    refine ymr rfl rfl (lr _) rfl (lr _) ?_
    refine sq_no rfl rfl (lr _) rfl rfl ?_
    refine sq_no rfl rfl (lr _) rfl rfl ?_
    refine sq_no rfl rfl (lr _) rfl rfl ?_
    refine sq_no rfl rfl (lr _) rfl rfl ?_
    refine sq_no rfl rfl (lr _) rfl rfl ?_
    refine sq_yes rfl rfl (lr _) rfl (ev_pickF (v := .raw _) (lr _) (lr _)) ?_
    refine pf rfl (lr _) (lr _) ?_
    refine sq_nil ?_
    refine aw_false (lr _) ?_
    refine aw_skip (aw_region ?_)
    refine mvr (lr _) rfl ?_
    refine sq_ev rfl (ev_add (lr _) (lr _) (wr (by omega) (by omega))) ?_
    refine asr (lr _) rfl ?_
    refine sq_nil ?_
    have hgood : chBad p l k (by omega) = false := by first | (simp [chBad, *]; done) | (simp_all [chBad]; done)
    exact ⟨⟨k + 1, by omega, fun i h hi => (by by_cases e : i = k; (subst e; exact hgood); exact hok i h (by omega))⟩, by simp only; omega, Sub.fin 1 ⟨lr _, lr _, lr _, trivial⟩ rfl (by simp [slotsIn, objsIn, sget, keepS, AObj.inB, AV.inB, AV.inL, AV.inE, inE_map]) (by simp [slotsIn, objsIn, sget, keepS, AObj.inB, AV.inB, AV.inL, AV.inE, inE_map]) (by simp [he0])⟩
 ·
  have c1' := c1
  try simp only [qq] at c1'
  refine aw_exit (aw_seq (aw_region ?_))
  refine asr (lr _) rfl ?_
  refine sq_nil (aw_ret ?_)
  exact retQ_pure (v := .raw _) rfl rfl (Less.eq (by rw [isCh, okAll_end hk c1' hok]))
end Go.Proofs.YtjghdbdiejaacaaGreatDoor
namespace Go.Proofs.YtjghdbdiejaacaaGreatDoor
open Go Go.Ab Ni
abbrev wpart (p : Pl) (l : List Nat) (k : Nat) : List AV :=
  [I (if 0 < k then lo p l 0 0 10 else 0), I (if 0 < k then hi p l 0 0 10 else 0), I (if 1 < k then lo p l 1 0 10 else 0), I (if 1 < k then hi p l 1 0 10 else 0), I (if 2 < k then lo p l 2 0 10 else 0), I (if 2 < k then hi p l 2 0 10 else 0)]
abbrev wcells (p : Pl) (l : List Nat) : List AV := [I (lo p l 0 0 10), I (hi p l 0 0 10), I (lo p l 1 0 10), I (hi p l 1 0 10), I (lo p l 2 0 10), I (hi p l 2 0 10)]
theorem en104 : Ent Tryz.prog 104 := Ent.of Tryz.func104 (by kernel_rfl) rfl
set_option maxHeartbeats 1000000 in
theorem long_pure (p : Pl) (l : List Nat) (part a b : Int) (gp : GP p) (cv : CV p l) : APure Tryz.prog 104 [plan p, nats l, I part, I a, I b] (.agg (spanC (lo p l part a b) (hi p l part a b))) := by
 refine apure_of (rs := [.cell 10 23]) Tryz.func104 rfl rfl (Nat.le_of_ble_eq_true rfl) (by simp [AV.pureL, AV.pureB, AV.pureE, pureE_map]) (rfl) fun e0 he0 => ?_
 refine aw_seq (aw_region ?_)
 refine sq_box rfl (lr _) rfl ?_
 refine sq_alloc rfl z23 ?_
 refine sq_nil (aw_seq (aw_region ?_))
 refine sq_alloc rfl z23 ?_
 refine sq_nil (aw_seq (aw_seq (aw_region ?_)))
 refine asr (lr _) rfl ?_
 refine sq_nil (aw_block ?_)
 refine aw_loopk (ι := { k : Nat // k ≤ l.length }) [1, 2, 3, 4, 5, 10, 11] (fun i => [(12, I i.1)]) (fun H i => H.set 2 (.cells (spanC (lo p (l.take i.1) part a b) (hi p (l.take i.1) part a b)))) (fun i => l.length - i.1) (⟨0, Nat.zero_le _⟩) ⟨lr _, lr _, lr _, lr _, lr _, lr _, lr _, lr _, trivial⟩ rfl ?_
 rintro ⟨k, hk⟩
 dsimp only [keepS, St.put, sget, slotsOf, List.map_cons, List.map_nil, List.cons_append, List.nil_append, List.length_cons, List.length_nil, Nat.reduceBEq, Nat.reduceAdd, cond_true, cond_false]
 have hl1 := cv.len
 have hl2 := gp.len
 have hb1 := lo_bd gp cv part a b k
 have hb2 := hi_bd gp cv part a b k
 refine aw_seq (aw_seq (aw_region ?_))
 refine mvr (lr _) rfl ?_
 refine mvs rfl (lr _) ?_
 refine sq_ev rfl (ev_len_map sl34 (lr _)) ?_
 refine sq_ev rfl (ev_lss (lr _) (lr _)) ?_
 refine sq_nil ?_
 refine aw_cond (lr _) (fun c1 => ?_) (fun c1 => ?_)
 ·
  have c1' := c1
  try simp only [qq] at c1'
  have hk' : k < l.length := by omega
  have hlt := cv.rng _ (List.getElem_mem hk')
  have hv1 := gp.least hlt
  have hv2 := gp.most hlt
  rw [scn_eq hlt] at hv1 hv2
  have he := scn_eq hlt
  refine aw_skip (aw_seq (aw_block (aw_seq ?_)))
  refine aw_draw 9 mo (by kernel_rfl) ?_
  refine dr_ev rfl (ev_fieldAddr fo27_3 (lr _)) ?_
  refine dr_ev rfl (ev_load (lr _) rfl ty25 rfl) ?_
  refine dr_ev rfl (ev_mv (v := .sl _ _) (lr _)) ?_
  refine dr_ev rfl (ev_mv (v := .raw _) (lr _)) ?_
  refine dr_ev rfl (ev_index_map sl34 (lr _) (lr _) rfl (by omega)) ?_
  refine dr_ev rfl (ev_load_i (lr _) ty3 rfl) ?_
  refine dr_ev rfl (ev_index_map sl25 (lr _) (lr _) rfl (by omega)) ?_
  refine dr_ev rfl (ev_load_agg_i (lr _) ty84 (Nat.le_of_ble_eq_true rfl)) ?_
  refine dr_alloc rfl z84 ?_
  refine dr_end ?_
  refine sq_store rfl (lr _) (lr _) rfl rfl ty84 rfl rfl ?_
  refine sq_nil (aw_seq (aw_region ?_))
  refine sq_ev rfl (ev_fieldAddr fo84_0 (lr _)) ?_
  refine sq_ev rfl (ev_load (lr _) rfl ty3 rfl) ?_
  refine mvr (lr _) rfl ?_
  refine sq_ev rfl (ev_eql (lr _) (lr _)) ?_
  refine mvr (lr _) rfl ?_
  refine sq_split 32 (lr _) (fun g2 => ?_) (fun g2 => ?_)
  ·
   have g2' := g2
   try simp only [qq] at g2'
   refine sq_yes rfl rfl (less_b g2) rfl (ev_mv (v := .sl _ _) (lr _)) ?_
   refine sq_yes rfl rfl (less_b g2) rfl (ev_mv (v := .raw _) (lr _)) ?_
   refine sq_yes rfl rfl (less_b g2) rfl (ev_index_map sl34 (lr _) (lr _) rfl (by omega)) ?_
   refine sq_yes rfl rfl (less_b g2) rfl (ev_load_i (lr _) ty3 rfl) ?_
   refine sq_yes rfl rfl (less_b g2) rfl (ev_mv (v := .raw _) (lr _)) ?_
   refine sq_yes rfl rfl (less_b g2) rfl (ev_geq (lr _) (lr _)) ?_
   refine sq_ev rfl (ev_pickT (v := .raw _) (less_b g2) (lr _)) ?_
   refine mvr (lr _) rfl ?_
   refine sq_split 40 (lr _) (fun g3 => ?_) (fun g3 => ?_)
   ·
    have g3' := g3
    try simp only [qq] at g3'
    refine sq_yes rfl rfl (less_b g3) rfl (ev_mv (v := .sl _ _) (lr _)) ?_
    refine sq_yes rfl rfl (less_b g3) rfl (ev_mv (v := .raw _) (lr _)) ?_
    refine sq_yes rfl rfl (less_b g3) rfl (ev_index_map sl34 (lr _) (lr _) rfl (by omega)) ?_
    refine sq_yes rfl rfl (less_b g3) rfl (ev_load_i (lr _) ty3 rfl) ?_
    refine sq_yes rfl rfl (less_b g3) rfl (ev_mv (v := .raw _) (lr _)) ?_
    refine sq_yes rfl rfl (less_b g3) rfl (ev_leq (lr _) (lr _)) ?_
    refine sq_ev rfl (ev_pickT (v := .raw _) (less_b g3) (lr _)) ?_
    refine sq_nil ?_
    refine aw_cond (lr _) (fun c4 => ?_) (fun c4 => ?_)
    ·
     have c4' := c4
     try simp only [qq] at c4'
     refine aw_region ?_
     refine sq_ev rfl (ev_fieldAddr fo23_0 (lr _)) ?_
     refine sq_ev rfl (ev_load (lr _) rfl ty3 rfl) ?_
     refine sq_ev rfl (ev_fieldAddr fo84_1 (lr _)) ?_
     refine sq_ev rfl (ev_load (lr _) rfl ty3 rfl) ?_
     refine sq_ev rfl (ev_add (lr _) (lr _) (wr (by omega) (by omega))) ?_
     refine sq_ev rfl (ev_fieldAddr fo23_1 (lr _)) ?_
     refine sq_ev rfl (ev_load (lr _) rfl ty3 rfl) ?_
     refine sq_ev rfl (ev_fieldAddr fo84_2 (lr _)) ?_
     refine sq_ev rfl (ev_load (lr _) rfl ty3 rfl) ?_
     refine sq_ev rfl (ev_add (lr _) (lr _) (wr (by omega) (by omega))) ?_
     refine sq_ev rfl (ev_build bi23 rfl) ?_
     refine sq_store rfl (lr _) (lr _) rfl rfl ty23 rfl rfl ?_
     refine sq_nil (aw_region ?_)
     refine mvr (lr _) rfl ?_
     refine sq_ev rfl (ev_add (lr _) (lr _) (wr (by omega) (by omega))) ?_
     refine asr (lr _) rfl ?_
     refine sq_nil ?_
     exact ⟨⟨k + 1, by omega⟩, by simp only; omega, Sub.fin 3 ⟨lr _, lr _, lr _, lr _, lr _, lr _, lr _, lr _, trivial⟩ (by have e1 := lo_take (p := p) hk' part a b; have e2 := hi_take (p := p) hk' part a b; simp [inP, *] at e1 e2; rw [e1, e2]; rfl) (by simp [slotsIn, objsIn, sget, keepS, AObj.inB, AV.inB, AV.inL, AV.inE, inE_map]) (by simp [slotsIn, objsIn, sget, keepS, AObj.inB, AV.inB, AV.inL, AV.inE, inE_map]) (by simp [he0])⟩
    ·
     have c4' := c4
     try simp only [qq] at c4'
     refine aw_skip (aw_region ?_)
     refine mvr (lr _) rfl ?_
     refine sq_ev rfl (ev_add (lr _) (lr _) (wr (by omega) (by omega))) ?_
     refine asr (lr _) rfl ?_
     refine sq_nil ?_
     exact ⟨⟨k + 1, by omega⟩, by simp only; omega, Sub.fin 3 ⟨lr _, lr _, lr _, lr _, lr _, lr _, lr _, lr _, trivial⟩ (by have e1 := lo_take (p := p) hk' part a b; have e2 := hi_take (p := p) hk' part a b; simp [inP, *] at e1 e2; rw [e1, e2]; rfl) (by simp [slotsIn, objsIn, sget, keepS, AObj.inB, AV.inB, AV.inL, AV.inE, inE_map]) (by simp [slotsIn, objsIn, sget, keepS, AObj.inB, AV.inB, AV.inL, AV.inE, inE_map]) (by simp [he0])⟩
   ·
    have g3' := g3
    try simp only [qq] at g3'
    refine sq_no rfl rfl (less_b g3) rfl rfl ?_
    refine sq_no rfl rfl (less_b g3) rfl rfl ?_
    refine sq_no rfl rfl (less_b g3) rfl rfl ?_
    refine sq_no rfl rfl (less_b g3) rfl rfl ?_
    refine sq_no rfl rfl (less_b g3) rfl rfl ?_
    refine sq_no rfl rfl (less_b g3) rfl rfl ?_
    refine sq_ev rfl (ev_pickF (v := .raw _) (less_b g3) (lr _)) ?_
    refine sq_nil ?_
    refine aw_false (lr _) ?_
    refine aw_skip (aw_region ?_)
    refine mvr (lr _) rfl ?_
    refine sq_ev rfl (ev_add (lr _) (lr _) (wr (by omega) (by omega))) ?_
    refine asr (lr _) rfl ?_
    refine sq_nil ?_
    exact ⟨⟨k + 1, by omega⟩, by simp only; omega, Sub.fin 3 ⟨lr _, lr _, lr _, lr _, lr _, lr _, lr _, lr _, trivial⟩ (by have e1 := lo_take (p := p) hk' part a b; have e2 := hi_take (p := p) hk' part a b; simp [inP, *] at e1 e2; rw [e1, e2]; rfl) (by simp [slotsIn, objsIn, sget, keepS, AObj.inB, AV.inB, AV.inL, AV.inE, inE_map]) (by simp [slotsIn, objsIn, sget, keepS, AObj.inB, AV.inB, AV.inL, AV.inE, inE_map]) (by simp [he0])⟩
  ·
   have g2' := g2
   try simp only [qq] at g2'
   refine sq_no rfl rfl (less_b g2) rfl rfl ?_
   refine sq_no rfl rfl (less_b g2) rfl rfl ?_
   refine sq_no rfl rfl (less_b g2) rfl rfl ?_
   refine sq_no rfl rfl (less_b g2) rfl rfl ?_
   refine sq_no rfl rfl (less_b g2) rfl rfl ?_
   refine sq_no rfl rfl (less_b g2) rfl rfl ?_
   refine sq_ev rfl (ev_pickF (v := .raw _) (less_b g2) (lr _)) ?_
   refine mvr (lr _) rfl ?_
   refine sq_no rfl rfl (lr _) rfl rfl ?_
   refine sq_no rfl rfl (lr _) rfl rfl ?_
   refine sq_no rfl rfl (lr _) rfl rfl ?_
   refine sq_no rfl rfl (lr _) rfl rfl ?_
   refine sq_no rfl rfl (lr _) rfl rfl ?_
   refine sq_no rfl rfl (lr _) rfl rfl ?_
   refine pf rfl (lr _) (lr _) ?_
   refine sq_nil ?_
   refine aw_false (lr _) ?_
   refine aw_skip (aw_region ?_)
   refine mvr (lr _) rfl ?_
   refine sq_ev rfl (ev_add (lr _) (lr _) (wr (by omega) (by omega))) ?_
   refine asr (lr _) rfl ?_
   refine sq_nil ?_
   exact ⟨⟨k + 1, by omega⟩, by simp only; omega, Sub.fin 3 ⟨lr _, lr _, lr _, lr _, lr _, lr _, lr _, lr _, trivial⟩ (by have e1 := lo_take (p := p) hk' part a b; have e2 := hi_take (p := p) hk' part a b; simp [inP, *] at e1 e2; rw [e1, e2]; rfl) (by simp [slotsIn, objsIn, sget, keepS, AObj.inB, AV.inB, AV.inL, AV.inE, inE_map]) (by simp [slotsIn, objsIn, sget, keepS, AObj.inB, AV.inB, AV.inL, AV.inE, inE_map]) (by simp [he0])⟩
 ·
  have c1' := c1
  try simp only [qq] at c1'
  obtain rfl : k = l.length := by omega
  refine aw_exit (aw_seq (aw_region ?_))
  refine sq_ev rfl (ev_load_agg (lr _) rfl ty23 rfl) ?_
  refine sq_store rfl (lr _) (lr _) rfl rfl ty23 rfl rfl ?_
  refine sq_nil (aw_ret ?_)
  exact retQ_res (vs := [.agg _]) rfl rfl ⟨resVar_cell rfl rfl ty23 rfl, trivial⟩ (Less.eq (by simp [lo, hi]))
set_option maxHeartbeats 400000 in
theorem within_pure (n a b : Int) : APure Tryz.prog 111 [I n, .agg [I a, I b]] (B (inn n a b)) := by
 refine apure_of (rs := [.tmp 4]) Tryz.func111 rfl rfl (Nat.le_of_ble_eq_true rfl) (by simp [AV.pureL, AV.pureB, AV.pureE, pureE_map]) (rfl) fun e0 he0 => ?_
 refine aw_seq (aw_region ?_)
 refine sq_box rfl (lr _) rfl ?_
 refine asr (lr _) rfl ?_
 refine sq_nil (aw_seq (aw_region ?_))
 refine mvr (lr _) rfl ?_
 refine sq_ev rfl (ev_fieldAddr fo23_0 (lr _)) ?_
 refine sq_ev rfl (ev_load (lr _) rfl ty3 rfl) ?_
 refine sq_ev rfl (ev_fieldAddr fo23_1 (lr _)) ?_
 refine sq_ev rfl (ev_load (lr _) rfl ty3 rfl) ?_
 refine sq_ev rfl (ev_call en89 (lr _) (in_pure _ _ _) ⟨lr _, lr _, lr _, trivial⟩) ?_
 refine asr (lr _) rfl ?_
 refine sq_nil (aw_ret ?_)
 exact retQ_pure (v := .raw _) rfl rfl (Less.eq (by simp))
set_option maxHeartbeats 400000 in
theorem whole_pure (p : Pl) (l : List Nat) (gp : GP p) (cv : CV p l) : APure Tryz.prog 110 [plan p, nats l] (.agg (wcells p l)) := by
 refine apure_of (rs := [.cell 4 120]) Tryz.func110 rfl rfl (Nat.le_of_ble_eq_true rfl) (by simp [AV.pureL, AV.pureB, AV.pureE, pureE_map]) (rfl) fun e0 he0 => ?_
 refine aw_seq (aw_region ?_)
 refine sq_box rfl (lr _) rfl ?_
 refine sq_alloc rfl z120 ?_
 refine sq_nil (aw_seq (aw_region ?_))
 refine sq_alloc rfl z120 ?_
 refine sq_nil (aw_seq (aw_seq (aw_region ?_)))
 refine asr (lr _) rfl ?_
 refine sq_nil (aw_block ?_)
 refine aw_loopk (ι := { k : Nat // k ≤ 3 }) [1, 2, 4, 5] (fun i => [(6, I i.1)]) (fun H i => H.set 2 (.cells (wpart p l i.1))) (fun i => 3 - i.1) (⟨0, by omega⟩) ⟨lr _, lr _, lr _, lr _, lr _, trivial⟩ rfl ?_
 rintro ⟨k, hk⟩
 dsimp only [keepS, St.put, sget, slotsOf, List.map_cons, List.map_nil, List.cons_append, List.nil_append, List.length_cons, List.length_nil, Nat.reduceBEq, Nat.reduceAdd, cond_true, cond_false]
 refine aw_seq (aw_seq (aw_region ?_))
 refine mvr (lr _) rfl ?_
 refine sq_ev rfl (ev_lss (lr _) (lr _)) ?_
 refine sq_nil ?_
 refine aw_cond (lr _) (fun c1 => ?_) (fun c1 => ?_)
 ·
  have c1' := c1
  try simp only [qq] at c1'
  refine aw_skip (aw_seq (aw_block (aw_region ?_)))
  refine mvr (lr _) rfl ?_
  refine sq_ev rfl (ev_load_agg (lr _) rfl ty27 rfl) ?_
  refine mvs rfl (lr _) ?_
  refine mvr (lr _) rfl ?_
  refine sq_ev rfl (ev_call en104 (lr _) (long_pure _ _ _ _ _ gp cv) ⟨lr _, lr _, lr _, lr _, lr _, trivial⟩) ?_
  refine sq_ev rfl (ev_index_box ar120 (lr _) (lr _) rfl (by omega)) ?_
  refine sq_store rfl (lr _) (lr _) rfl rfl ty23 rfl (by rcases k with _ | _ | _ | k <;> first | rfl | omega) ?_
  refine sq_nil (aw_region ?_)
  refine mvr (lr _) rfl ?_
  refine sq_ev rfl (ev_add (lr _) (lr _) (wr (by omega) (by omega))) ?_
  refine asr (lr _) rfl ?_
  refine sq_nil ?_
  exact ⟨⟨k + 1, by omega⟩, by simp only; omega, Sub.fin 3 ⟨lr _, lr _, lr _, lr _, lr _, trivial⟩ (by rcases k with _ | _ | _ | k <;> first | rfl | omega) (by simp [slotsIn, objsIn, sget, keepS, AObj.inB, AV.inB, AV.inL, AV.inE, inE_map]) (by simp [slotsIn, objsIn, sget, keepS, AObj.inB, AV.inB, AV.inL, AV.inE, inE_map]) (by simp [he0])⟩
 ·
  have c1' := c1
  try simp only [qq] at c1'
  obtain rfl : k = 3 := by omega
  refine aw_exit (aw_seq (aw_region ?_))
  refine sq_ev rfl (ev_load_agg (lr _) rfl ty120 rfl) ?_
  refine sq_store rfl (lr _) (lr _) rfl rfl ty120 rfl rfl ?_
  refine sq_nil (aw_ret ?_)
  exact retQ_res (vs := [.agg _]) rfl rfl ⟨resVar_cell rfl rfl ty120 rfl, trivial⟩ (Less.eq (by simp))
end Go.Proofs.YtjghdbdiejaacaaGreatDoor
namespace Go.Proofs.YtjghdbdiejaacaaGreatDoor
open Go Go.Ab Ni
abbrev hourC (h : Int × Int × Int) : List AV := [I h.1, I h.2.1, I h.2.2]
theorem inE_hour (n : Nat) (l : List (Int × Int × Int)) : AV.inE n (l.map hourC) = true := inE_map fun x _ => by simp [AV.inL, AV.inB]
abbrev hourS (l : List (Int × Int × Int)) : AV := .sl 3 (l.map hourC)
theorem bi125 : bldInfo Tryz.prog 125 = some ([.raw (.int .i64 0), .raw (.int .i64 0), .raw (.int .i64 0)], false, [], 1) := by kernel_rfl
theorem en102 : Ent Tryz.prog 102 := Ent.of Tryz.func102 (by kernel_rfl) rfl
theorem en110 : Ent Tryz.prog 110 := Ent.of Tryz.func110 (by kernel_rfl) rfl
theorem en111 : Ent Tryz.prog 111 := Ent.of Tryz.func111 (by kernel_rfl) rfl
theorem sf122 : SlFact Tryz.prog 122 125 3 24 := SlFact.of (by kernel_rfl)
theorem sl122 : slElem Tryz.prog 122 = some (125, 3) := by kernel_rfl
set_option maxHeartbeats 4000000 in
theorem hours_pure (p : Pl) (l : List Nat) (gp : GP p) (cv : CV p l) : APure Tryz.prog 102 [plan p, nats l] (hourS (hrs p l)) := by
 refine apure_of (rs := [.tmp 4]) Tryz.func102 rfl rfl (Nat.le_of_ble_eq_true rfl) (by simp [AV.pureL, AV.pureB, AV.pureE, pureE_map]) (by simp [AV.pureL, AV.pureB, AV.pureE, pureE_map]) fun e0 he0 => ?_
 refine aw_seq (aw_region ?_)
 refine sq_box rfl (lr _) rfl ?_
 refine asr (lr _) rfl ?_
 refine sq_nil (aw_seq (aw_region ?_))
 refine sq_ev rfl (ev_load_agg (lr _) rfl ty27 rfl) ?_
 refine mvs rfl (lr _) ?_
 refine sq_ev rfl (ev_call en110 (lr _) (whole_pure _ _ gp cv) ⟨lr _, lr _, trivial⟩) ?_
 refine sq_alloc rfl z120 ?_
 refine sq_store rfl (lr _) (lr _) rfl rfl ty120 rfl rfl ?_
 refine sq_nil (aw_seq (aw_region ?_))
 refine asr (lr _) rfl ?_
 refine sq_nil (aw_seq (aw_seq (aw_region ?_)))
 refine sq_ev rfl (ev_fieldAddr fo27_1 (lr _)) ?_
 refine sq_ev rfl (ev_index_box ar24 (lr _) (lr _) rfl (by decide)) ?_
 refine sq_ev rfl (ev_fieldAddr fo23_0 (lr _)) ?_
 refine sq_ev rfl (ev_load (lr _) rfl ty3 rfl) ?_
 refine asr (lr _) rfl ?_
 refine sq_nil (aw_block ?_)
 refine aw_sub (sub_token 6 3 (lr _)) ?_
 refine aw_loopk (ι := { i : Nat // i ≤ wid p.s0l p.s0h }) [2, 5] (fun i => [(7, I (p.s0l + i.1)), (6, .own 2 3 ((fm i.1 (hA p l)).map hourC))]) (fun H i => H.set 2 (.tok ((fm i.1 (hA p l)).map hourC).length)) (fun i => wid p.s0l p.s0h - i.1) (⟨0, Nat.zero_le _⟩) ⟨(by exact less_int (by simp)), lr _, lr _, lr _, trivial⟩ rfl ?_
 rintro ⟨i, i1⟩
 dsimp only [keepS, St.put, sget, slotsOf, List.map_cons, List.map_nil, List.cons_append, List.nil_append, List.length_cons, List.length_nil, Nat.reduceBEq, Nat.reduceAdd, cond_true, cond_false]
 have g1 := gp.beg
 have g2 := gp.s0l
 have g3 := gp.s0h
 have g4 := gp.s1l
 have g5 := gp.s1h
 have g6 := gp.dl
 have g7 := gp.dh
 have q1 := hAs_len gp l i1
 have w1 : wid p.s0l p.s0h = (p.s0h - p.s0l + 1).toNat := rfl
 have w2 : wid p.s1l p.s1h = (p.s1h - p.s1l + 1).toNat := rfl
 have w3 : wid p.dl p.dh = (p.dh - p.dl + 1).toNat := rfl
 refine aw_seq (aw_seq (aw_region ?_))
 refine mvr (lr _) rfl ?_
 refine sq_ev rfl (ev_fieldAddr fo27_1 (lr _)) ?_
 refine sq_ev rfl (ev_index_box ar24 (lr _) (lr _) rfl (by decide)) ?_
 refine sq_ev rfl (ev_fieldAddr fo23_1 (lr _)) ?_
 refine sq_ev rfl (ev_load (lr _) rfl ty3 rfl) ?_
 refine sq_ev rfl (ev_leq (lr _) (lr _)) ?_
 refine sq_nil ?_
 refine aw_cond (lr _) (fun c1 => ?_) (fun c1 => ?_)
 ·
  have c1' := c1
  try simp only [qq] at c1'
  refine aw_skip (aw_seq (aw_block (aw_seq (aw_region ?_))))
  refine sq_ev rfl (ev_fieldAddr fo27_1 (lr _)) ?_
  refine sq_ev rfl (ev_index_box ar24 (lr _) (lr _) rfl (by decide)) ?_
  refine sq_ev rfl (ev_fieldAddr fo23_0 (lr _)) ?_
  refine sq_ev rfl (ev_load (lr _) rfl ty3 rfl) ?_
  refine asr (lr _) rfl ?_
  refine sq_nil (aw_block ?_)
  refine aw_loopk (ι := { j : Nat // j ≤ wid p.s1l p.s1h ∧ (0 < j → inn (p.s0l + i - p.beg) (lo p l 0 0 10) (hi p l 0 0 10) = true) }) [2, 5, 7] (fun j => [(8, I (p.s1l + j.1)), (6, .own 2 3 ((fm i (hA p l) ++ fm j.1 (hB p l (p.s0l + i))).map hourC))]) (fun H j => H.set 2 (.tok (((fm i (hA p l) ++ fm j.1 (hB p l (p.s0l + i)))).map hourC).length)) (fun j => wid p.s1l p.s1h - j.1) (⟨0, Nat.zero_le _, by omega⟩) ⟨(by exact less_int (by simp)), (by exact Less.eq (a := .own 2 3 ((fm i (hA p l)).map hourC)) (by simp [fm_zero])), lr _, lr _, lr _, trivial⟩ (by rw [fm_zero, List.append_nil]; rfl) ?_
  rintro ⟨j, j1, hj0⟩
  dsimp only [keepS, St.put, sget, slotsOf, List.map_cons, List.map_nil, List.cons_append, List.nil_append, List.length_cons, List.length_nil, Nat.reduceBEq, Nat.reduceAdd, cond_true, cond_false]
  have q2 := hBs_len gp l (p.s0l + i) j1
  refine aw_seq (aw_seq (aw_region ?_))
  refine mvr (lr _) rfl ?_
  refine sq_ev rfl (ev_fieldAddr fo27_1 (lr _)) ?_
  refine sq_ev rfl (ev_index_box ar24 (lr _) (lr _) rfl (by decide)) ?_
  refine sq_ev rfl (ev_fieldAddr fo23_1 (lr _)) ?_
  refine sq_ev rfl (ev_load (lr _) rfl ty3 rfl) ?_
  refine sq_ev rfl (ev_leq (lr _) (lr _)) ?_
  refine mvr (lr _) rfl ?_
  refine sq_split 35 (lr _) (fun g2 => ?_) (fun g2 => ?_)
  ·
   have g2' := g2
   try simp only [qq] at g2'
   refine sq_yes rfl rfl (less_b g2) rfl (ev_mv (v := .raw _) (lr _)) ?_
   refine sq_yes rfl rfl (less_b g2) rfl (ev_fieldAddr fo27_0 (lr _)) ?_
   refine sq_yes rfl rfl (less_b g2) rfl (ev_load (lr _) rfl ty3 rfl) ?_
   refine sq_yes rfl rfl (less_b g2) rfl (ev_sub (lr _) (lr _) (wr (by omega) (by omega))) ?_
   refine sq_yes rfl rfl (less_b g2) rfl (ev_index_box ar120 (lr _) (lr _) rfl (by decide)) ?_
   refine sq_yes rfl rfl (less_b g2) rfl (ev_load_agg (lr _) rfl ty23 rfl) ?_
   refine sq_yes rfl rfl (less_b g2) rfl (ev_call en111 (lr _) (within_pure _ _ _) ⟨lr _, lr _, trivial⟩) ?_
   refine sq_ev rfl (ev_pickT (v := .raw _) (less_b g2) (lr _)) ?_
   refine sq_nil ?_
   refine aw_cond (lr _) (fun c3 => ?_) (fun c3 => ?_)
   ·
    have c3' := c3
    try simp only [qq] at c3'
    refine aw_skip (aw_seq (aw_block (aw_seq (aw_region ?_))))
    refine sq_ev rfl (ev_fieldAddr fo27_2 (lr _)) ?_
    refine sq_ev rfl (ev_fieldAddr fo23_0 (lr _)) ?_
    refine sq_ev rfl (ev_load (lr _) rfl ty3 rfl) ?_
    refine asr (lr _) rfl ?_
    refine sq_nil (aw_block ?_)
    refine aw_loopk (ι := { k : Nat // k ≤ wid p.dl p.dh ∧ (0 < k → inn (p.s1l + j - (p.s0l + i)) (lo p l 1 0 10) (hi p l 1 0 10) = true) }) [2, 5, 7, 8] (fun k => [(9, I (p.dl + k.1)), (6, .own 2 3 ((fm i (hA p l) ++ fm j (hB p l (p.s0l + i)) ++ fm k.1 (hC p l (p.s0l + i) (p.s1l + j))).map hourC))]) (fun H k => H.set 2 (.tok (((fm i (hA p l) ++ fm j (hB p l (p.s0l + i)) ++ fm k.1 (hC p l (p.s0l + i) (p.s1l + j)))).map hourC).length)) (fun k => wid p.dl p.dh - k.1) (⟨0, Nat.zero_le _, by omega⟩) ⟨(by exact less_int (by simp)), (by exact Less.eq (a := .own 2 3 ((fm i (hA p l) ++ fm j (hB p l (p.s0l + i))).map hourC)) (by simp [fm_zero])), lr _, lr _, lr _, lr _, trivial⟩ (by rw [fm_zero, List.append_nil]; rfl) ?_
    rintro ⟨k, k1, hk0⟩
    dsimp only [keepS, St.put, sget, slotsOf, List.map_cons, List.map_nil, List.cons_append, List.nil_append, List.length_cons, List.length_nil, Nat.reduceBEq, Nat.reduceAdd, cond_true, cond_false]
    have q3 := hCs_len gp l (p.s0l + i) (p.s1l + j) k1
    refine aw_seq (aw_seq (aw_region ?_))
    refine mvr (lr _) rfl ?_
    refine sq_ev rfl (ev_fieldAddr fo27_2 (lr _)) ?_
    refine sq_ev rfl (ev_fieldAddr fo23_1 (lr _)) ?_
    refine sq_ev rfl (ev_load (lr _) rfl ty3 rfl) ?_
    refine sq_ev rfl (ev_leq (lr _) (lr _)) ?_
    refine mvr (lr _) rfl ?_
    refine sq_split 54 (lr _) (fun g4 => ?_) (fun g4 => ?_)
    ·
     have g4' := g4
     try simp only [qq] at g4'
     refine sq_yes rfl rfl (less_b g4) rfl (ev_mv (v := .raw _) (lr _)) ?_
     refine sq_yes rfl rfl (less_b g4) rfl (ev_mv (v := .raw _) (lr _)) ?_
     refine sq_yes rfl rfl (less_b g4) rfl (ev_sub (lr _) (lr _) (wr (by omega) (by omega))) ?_
     refine sq_yes rfl rfl (less_b g4) rfl (ev_index_box ar120 (lr _) (lr _) rfl (by decide)) ?_
     refine sq_yes rfl rfl (less_b g4) rfl (ev_load_agg (lr _) rfl ty23 rfl) ?_
     refine sq_yes rfl rfl (less_b g4) rfl (ev_call en111 (lr _) (within_pure _ _ _) ⟨lr _, lr _, trivial⟩) ?_
     refine sq_ev rfl (ev_pickT (v := .raw _) (less_b g4) (lr _)) ?_
     refine sq_nil ?_
     refine aw_cond (lr _) (fun c5 => ?_) (fun c5 => ?_)
     ·
      have c5' := c5
      try simp only [qq] at c5'
      refine aw_skip (aw_seq (aw_block (aw_seq (aw_region ?_))))
      refine mvr (lr _) rfl ?_
      refine mvr (lr _) rfl ?_
      refine sq_ev rfl (ev_sub (lr _) (lr _) (wr (by omega) (by omega))) ?_
      refine sq_ev rfl (ev_index_box ar120 (lr _) (lr _) rfl (by decide)) ?_
      refine sq_ev rfl (ev_load_agg (lr _) rfl ty23 rfl) ?_
      refine sq_ev rfl (ev_call en111 (lr _) (within_pure _ _ _) ⟨lr _, lr _, trivial⟩) ?_
      refine sq_nil ?_
      refine aw_cond (lr _) (fun c6 => ?_) (fun c6 => ?_)
      ·
       have c6' := c6
       try simp only [qq] at c6'
       have e3 : (fm i (hA p l) ++ fm j (hB p l (p.s0l + i)) ++ fm (k + 1) (hC p l (p.s0l + i) (p.s1l + j))).map hourC = (fm i (hA p l) ++ fm j (hB p l (p.s0l + i)) ++ fm k (hC p l (p.s0l + i) (p.s1l + j))).map hourC ++ [hourC (p.s0l + i, p.s1l + j, p.dl + k)] := by rw [fm_succ, hC, if_pos c6']; simp
       have e4 : ((fm i (hA p l) ++ fm j (hB p l (p.s0l + i)) ++ fm (k + 1) (hC p l (p.s0l + i) (p.s1l + j))).map hourC).length = ((fm i (hA p l) ++ fm j (hB p l (p.s0l + i)) ++ fm k (hC p l (p.s0l + i) (p.s1l + j))).map hourC ++ [hourC (p.s0l + i, p.s1l + j, p.dl + k)]).length := by rw [e3]
       refine aw_region ?_
       refine sq_ev rfl (ev_mv (v := .own _ _ _) (lr _)) ?_
       refine mvr (lr _) rfl ?_
       refine mvr (lr _) rfl ?_
       refine mvr (lr _) rfl ?_
       refine sq_ev rfl (ev_build bi125 rfl) ?_
       refine sq_ev rfl (ev_buildSlice (es := [[_, _, _]]) sf122 rfl rfl rfl rfl) ?_
       refine sq_append rfl sf122 Tryz.underlying122 rfl rfl (less_slx _ _) (Nat.succ_pos _) (by simp; omega) (by simp; omega) ?_
       refine sq_ev rfl (ev_as (v := .own _ _ _) (lr _)) ?_
       refine sq_nil (aw_region ?_)
       refine mvr (lr _) rfl ?_
       refine sq_ev rfl (ev_add (lr _) (lr _) (wr (by omega) (by omega))) ?_
       refine asr (lr _) rfl ?_
       refine sq_nil ?_
       exact ⟨⟨k + 1, by omega, fun _ => by assumption⟩, by simp only; omega, Sub.fin 3 ⟨less_int (by first | omega | (simp only; omega)), Less.eq (b := .own 2 3 ((fm i (hA p l) ++ fm j (hB p l (p.s0l + i)) ++ fm (k + 1) (hC p l (p.s0l + i) (p.s1l + j))).map hourC)) (by rw [e3]; rfl), lr _, lr _, lr _, lr _, trivial⟩ (congrArg (fun n => [_, _, AObj.tok n]) e4.symm) (by simp [slotsIn, objsIn, sget, keepS, AObj.inB, AV.inB, AV.inL, inE_hour, inE_map, -List.map_append]) (by simp [slotsIn, objsIn, sget, keepS, AObj.inB, AV.inB, AV.inL, inE_hour, inE_map, -List.map_append]) (by simp [he0])⟩
      ·
       have c6' := c6
       try simp only [qq] at c6'
       have e3 : (fm i (hA p l) ++ fm j (hB p l (p.s0l + i)) ++ fm (k + 1) (hC p l (p.s0l + i) (p.s1l + j))).map hourC = (fm i (hA p l) ++ fm j (hB p l (p.s0l + i)) ++ fm k (hC p l (p.s0l + i) (p.s1l + j))).map hourC := by rw [fm_succ, hC, if_neg (by simp [c6'])]; simp
       have e4 : ((fm i (hA p l) ++ fm j (hB p l (p.s0l + i)) ++ fm (k + 1) (hC p l (p.s0l + i) (p.s1l + j))).map hourC).length = ((fm i (hA p l) ++ fm j (hB p l (p.s0l + i)) ++ fm k (hC p l (p.s0l + i) (p.s1l + j))).map hourC).length := by rw [e3]
       refine aw_skip (aw_region ?_)
       refine mvr (lr _) rfl ?_
       refine sq_ev rfl (ev_add (lr _) (lr _) (wr (by omega) (by omega))) ?_
       refine asr (lr _) rfl ?_
       refine sq_nil ?_
       exact ⟨⟨k + 1, by omega, fun _ => by assumption⟩, by simp only; omega, Sub.fin 3 ⟨less_int (by first | omega | (simp only; omega)), Less.eq (b := .own 2 3 ((fm i (hA p l) ++ fm j (hB p l (p.s0l + i)) ++ fm (k + 1) (hC p l (p.s0l + i) (p.s1l + j))).map hourC)) (by rw [e3]; rfl), lr _, lr _, lr _, lr _, trivial⟩ (congrArg (fun n => [_, _, AObj.tok n]) e4.symm) (by simp [slotsIn, objsIn, sget, keepS, AObj.inB, AV.inB, AV.inL, inE_hour, inE_map, -List.map_append]) (by simp [slotsIn, objsIn, sget, keepS, AObj.inB, AV.inB, AV.inL, inE_hour, inE_map, -List.map_append]) (by simp [he0])⟩
     ·
      have c5' := c5
      try simp only [qq] at c5'
      refine aw_exit (aw_region ?_)
      refine mvr (lr _) rfl ?_
      refine sq_ev rfl (ev_add (lr _) (lr _) (wr (by omega) (by omega))) ?_
      refine asr (lr _) rfl ?_
      refine sq_nil ?_
      have e5 : fm i (hA p l) ++ fm (j + 1) (hB p l (p.s0l + i)) = fm i (hA p l) ++ fm j (hB p l (p.s0l + i)) ++ fm k (hC p l (p.s0l + i) (p.s1l + j)) := by rw [fm_succ, hB_eq hk0 (by first | (left; omega) | (right; assumption)), List.append_assoc]
      exact ⟨⟨j + 1, by omega, fun _ => by assumption⟩, by simp only; omega, Sub.fin 3 ⟨less_int (by first | omega | (simp only; omega)), Less.eq (b := .own 2 3 ((fm i (hA p l) ++ fm (j + 1) (hB p l (p.s0l + i))).map hourC)) (by rw [e5] <;> rfl), lr _, lr _, lr _, trivial⟩ (congrArg (fun n => [_, _, AObj.tok n]) (congrArg (fun L => (List.map hourC L).length) e5.symm)) (by simp [slotsIn, objsIn, sget, keepS, AObj.inB, AV.inB, AV.inL, inE_hour, inE_map, -List.map_append]) (by simp [slotsIn, objsIn, sget, keepS, AObj.inB, AV.inB, AV.inL, inE_hour, inE_map, -List.map_append]) (by simp [he0])⟩
    ·
     have g4' := g4
     try simp only [qq] at g4'
     refine sq_no rfl rfl (less_b g4) rfl rfl ?_
     refine sq_no rfl rfl (less_b g4) rfl rfl ?_
     refine sq_no rfl rfl (less_b g4) rfl rfl ?_
     refine sq_no rfl rfl (less_b g4) rfl rfl ?_
     refine sq_no rfl rfl (less_b g4) rfl rfl ?_
     refine sq_no rfl rfl (less_b g4) rfl rfl ?_
     refine sq_ev rfl (ev_pickF (v := .raw _) (less_b g4) (lr _)) ?_
     refine sq_nil ?_
     refine aw_false (lr _) ?_
     refine aw_exit (aw_region ?_)
     refine mvr (lr _) rfl ?_
     refine sq_ev rfl (ev_add (lr _) (lr _) (wr (by omega) (by omega))) ?_
     refine asr (lr _) rfl ?_
     refine sq_nil ?_
     have e5 : fm i (hA p l) ++ fm (j + 1) (hB p l (p.s0l + i)) = fm i (hA p l) ++ fm j (hB p l (p.s0l + i)) ++ fm k (hC p l (p.s0l + i) (p.s1l + j)) := by rw [fm_succ, hB_eq hk0 (by first | (left; omega) | (right; assumption)), List.append_assoc]
     exact ⟨⟨j + 1, by omega, fun _ => by assumption⟩, by simp only; omega, Sub.fin 3 ⟨less_int (by first | omega | (simp only; omega)), Less.eq (b := .own 2 3 ((fm i (hA p l) ++ fm (j + 1) (hB p l (p.s0l + i))).map hourC)) (by rw [e5] <;> rfl), lr _, lr _, lr _, trivial⟩ (congrArg (fun n => [_, _, AObj.tok n]) (congrArg (fun L => (List.map hourC L).length) e5.symm)) (by simp [slotsIn, objsIn, sget, keepS, AObj.inB, AV.inB, AV.inL, inE_hour, inE_map, -List.map_append]) (by simp [slotsIn, objsIn, sget, keepS, AObj.inB, AV.inB, AV.inL, inE_hour, inE_map, -List.map_append]) (by simp [he0])⟩
   ·
    have c3' := c3
    try simp only [qq] at c3'
    refine aw_exit (aw_region ?_)
    refine mvr (lr _) rfl ?_
    refine sq_ev rfl (ev_add (lr _) (lr _) (wr (by omega) (by omega))) ?_
    refine asr (lr _) rfl ?_
    refine sq_nil ?_
    have e6 : fm (i + 1) (hA p l) = fm i (hA p l) ++ fm j (hB p l (p.s0l + i)) := by rw [fm_succ, hA_eq hj0 (by first | (left; omega) | (right; assumption))]
    exact ⟨⟨i + 1, by omega⟩, by simp only; omega, Sub.fin 3 ⟨less_int (by first | omega | (simp only; omega)), Less.eq (b := .own 2 3 ((fm (i + 1) (hA p l)).map hourC)) (by rw [e6] <;> rfl), lr _, lr _, trivial⟩ (congrArg (fun n => [_, _, AObj.tok n]) (congrArg (fun L => (List.map hourC L).length) e6.symm)) (by simp [slotsIn, objsIn, sget, keepS, AObj.inB, AV.inB, AV.inL, inE_hour, inE_map, -List.map_append]) (by simp [slotsIn, objsIn, sget, keepS, AObj.inB, AV.inB, AV.inL, inE_hour, inE_map, -List.map_append]) (by simp [he0])⟩
  ·
   have g2' := g2
   try simp only [qq] at g2'
   refine sq_no rfl rfl (less_b g2) rfl rfl ?_
   refine sq_no rfl rfl (less_b g2) rfl rfl ?_
   refine sq_no rfl rfl (less_b g2) rfl rfl ?_
   refine sq_no rfl rfl (less_b g2) rfl rfl ?_
   refine sq_no rfl rfl (less_b g2) rfl rfl ?_
   refine sq_no rfl rfl (less_b g2) rfl rfl ?_
   refine sq_no rfl rfl (less_b g2) rfl rfl ?_
   refine sq_ev rfl (ev_pickF (v := .raw _) (less_b g2) (lr _)) ?_
   refine sq_nil ?_
   refine aw_false (lr _) ?_
   refine aw_exit (aw_region ?_)
   refine mvr (lr _) rfl ?_
   refine sq_ev rfl (ev_add (lr _) (lr _) (wr (by omega) (by omega))) ?_
   refine asr (lr _) rfl ?_
   refine sq_nil ?_
   have e6 : fm (i + 1) (hA p l) = fm i (hA p l) ++ fm j (hB p l (p.s0l + i)) := by rw [fm_succ, hA_eq hj0 (by first | (left; omega) | (right; assumption))]
   exact ⟨⟨i + 1, by omega⟩, by simp only; omega, Sub.fin 3 ⟨less_int (by first | omega | (simp only; omega)), Less.eq (b := .own 2 3 ((fm (i + 1) (hA p l)).map hourC)) (by rw [e6] <;> rfl), lr _, lr _, trivial⟩ (congrArg (fun n => [_, _, AObj.tok n]) (congrArg (fun L => (List.map hourC L).length) e6.symm)) (by simp [slotsIn, objsIn, sget, keepS, AObj.inB, AV.inB, AV.inL, inE_hour, inE_map, -List.map_append]) (by simp [slotsIn, objsIn, sget, keepS, AObj.inB, AV.inB, AV.inL, inE_hour, inE_map, -List.map_append]) (by simp [he0])⟩
 ·
  have c1' := c1
  try simp only [qq] at c1'
  obtain rfl : i = wid p.s0l p.s0h := by omega
  refine aw_exit (aw_seq (aw_region ?_))
  refine sq_ev rfl (ev_mv (v := .own _ _ _) (lr _)) ?_
  refine sq_ev rfl (ev_as (v := .own _ _ _) (lr _)) ?_
  refine sq_nil (aw_ret ?_)
  exact retQ_pure (v := .own _ _ _) rfl rfl (Less.trans (less_own _ _ _) (Less.eq (by rfl)))
set_option maxHeartbeats 400000 in
theorem can_pure (p : Pl) (l : List Nat) (gp : GP p) (cv : CV p l) : APure Tryz.prog 48 [plan p, nats l] (B (can p l)) := by
 refine apure_of (rs := [.tmp 4]) Tryz.func48 rfl rfl (Nat.le_of_ble_eq_true rfl) (by simp [AV.pureL, AV.pureB, AV.pureE, pureE_map]) (rfl) fun e0 he0 => ?_
 refine aw_seq (aw_region ?_)
 refine sq_box rfl (lr _) rfl ?_
 refine asr (lr _) rfl ?_
 refine sq_nil (aw_seq (aw_region ?_))
 refine sq_ev rfl (ev_load_agg (lr _) rfl ty27 rfl) ?_
 refine mvs rfl (lr _) ?_
 refine sq_ev rfl (ev_call en102 (lr _) (hours_pure _ _ gp cv) ⟨lr _, lr _, trivial⟩) ?_
 refine sq_ev rfl (ev_len_map sl122 (lr _)) ?_
 refine sq_ev rfl (ev_gtr (lr _) (lr _)) ?_
 refine asr (lr _) rfl ?_
 refine sq_nil (aw_ret ?_)
 exact retQ_pure (v := .raw _) rfl rfl (Less.eq (by simp [can]))
end Go.Proofs.YtjghdbdiejaacaaGreatDoor
namespace Go.Proofs.YtjghdbdiejaacaaGreatDoor
open Go Go.Ab Ni
theorem en144 : Ent Tryz.prog 144 := Ent.of Tryz.func144 (by kernel_rfl) rfl
set_option maxHeartbeats 2000000 in
theorem lists_pure {p : Pl} (gp : GP p) (m : Nat) : ∀ (now : List Nat), (∀ x ∈ now, x < p.scenes.length) → now.length + m ≤ 16 → APure Tryz.prog 144 [plan p, nats now, I (now.length + m)] (natss (lsts p.scenes.length m now)) := by
 induction m using Nat.strongRecOn with
 | _ m ih =>
 intro now hn hlen
 refine apure_of (rs := [.tmp 6]) Tryz.func144 rfl rfl (Nat.le_of_ble_eq_true rfl) (by simp [AV.pureL, AV.pureB, AV.pureE, pureE_map]) (by simp [AV.pureL, AV.pureB, AV.pureE, pureE_map]) fun e0 he0 => ?_
 refine aw_seq (aw_region ?_)
 refine sq_box rfl (lr _) rfl ?_
 refine asr (lr _) rfl ?_
 refine sq_nil (aw_seq (aw_seq (aw_region ?_)))
 refine mvs rfl (lr _) ?_
 refine sq_ev rfl (ev_len_map sl34 (lr _)) ?_
 refine mvr (lr _) rfl ?_
 refine sq_ev rfl (ev_eql (lr _) (lr _)) ?_
 refine sq_nil ?_
 refine aw_cond (lr _) (fun c1 => ?_) (fun c1 => ?_)
 ·
  have c1' := c1
  try simp only [qq] at c1'
  obtain rfl : m = 0 := by omega
  refine aw_seq (aw_region ?_)
  refine mvs rfl (lr _) ?_
  refine sq_ev rfl (ev_buildSlice (es := [[_]]) sf30 rfl rfl rfl rfl) ?_
  refine sq_ev rfl (ev_as (v := .slx _ _) (lr _)) ?_
  refine sq_nil (aw_ret ?_)
  exact retQ_pure (v := .slx _ _) rfl rfl (less_slx _ _)
 ·
  have c1' := c1
  try simp only [qq] at c1'
  obtain ⟨m, rfl⟩ : ∃ m0, m = m0 + 1 := ⟨m - 1, by omega⟩
  have hnl := nxt_le hn
  have gl := gp.len
  refine aw_skip (aw_seq (aw_region ?_))
  refine asr (lr _) rfl ?_
  refine sq_nil (aw_seq (aw_seq (aw_region ?_)))
  refine mvs rfl (lr _) ?_
  refine sq_ev rfl (ev_len_map sl34 (lr _)) ?_
  refine sq_ev rfl (ev_gtr (lr _) (lr _)) ?_
  refine sq_nil ?_
  refine aw_cond (lr _) (fun c2 => ?_) (fun c2 => ?_)
  ·
   have c2' := c2
   try simp only [qq] at c2'
   have hnx := nxt_last (now := now) (by omega)
   refine aw_region ?_
   refine mvs rfl (lr _) ?_
   refine mvs rfl (lr _) ?_
   refine sq_ev rfl (ev_len_map sl34 (lr _)) ?_
   refine sq_ev rfl (ev_sub (lr _) (lr _) (wr (by omega) (by omega))) ?_
   refine sq_ev rfl (ev_index_map sl34 (lr _) (lr _) (show ((now.length : Int) - 1) = ((now.length - 1 : Nat) : Int) by omega) (by omega)) ?_
   refine sq_ev rfl (ev_load_i (lr _) ty3 rfl) ?_
   refine sq_ev rfl (ev_add (lr _) (lr _) (wr (by omega) (by omega))) ?_
   refine asr (lr _) rfl ?_
   refine sq_nil (aw_seq (aw_region ?_))
   refine asr (lr _) rfl ?_
   refine sq_nil (aw_seq (aw_seq (aw_region ?_)))
   refine mvr (lr _) rfl ?_
   refine asr (lr _) rfl ?_
   refine sq_nil (aw_block ?_)
   refine aw_sub (sub_token 8 1 (lr _)) ?_
   refine aw_loopk (ι := { k : Nat // k ≤ p.scenes.length - nxt now }) [1, 2, 3] (fun k => [(9, I (nxt now + k.1)), (8, .own 1 1 ((fm k.1 fun i => lsts p.scenes.length m (now ++ [nxt now + i])).map (fun x => [nats x])))]) (fun H k => H.set 1 (.tok ((fm k.1 fun i => lsts p.scenes.length m (now ++ [nxt now + i])).map (fun x => [nats x])).length)) (fun k => p.scenes.length - nxt now - k.1) (⟨0, Nat.zero_le _⟩) ⟨(by exact less_int (by first | omega | (simp only; omega))), lr _, lr _, lr _, lr _, trivial⟩ rfl ?_
   rintro ⟨k, k1⟩
   dsimp only [keepS, St.put, sget, slotsOf, List.map_cons, List.map_nil, List.cons_append, List.nil_append, List.length_cons, List.length_nil, Nat.reduceBEq, Nat.reduceAdd, cond_true, cond_false]
   have q1 := lsts_part (m := m) now gp.len k1
   have q2 := lsts_all (m := m) (now ++ [nxt now + k]) gp.len
   refine aw_seq (aw_seq (aw_region ?_))
   refine mvr (lr _) rfl ?_
   refine sq_ev rfl (ev_fieldAddr fo27_3 (lr _)) ?_
   refine sq_ev rfl (ev_load (lr _) rfl ty25 rfl) ?_
   refine sq_ev rfl (ev_len_map sl25 (lr _)) ?_
   refine sq_ev rfl (ev_lss (lr _) (lr _)) ?_
   refine sq_nil ?_
   refine aw_cond (lr _) (fun c3 => ?_) (fun c3 => ?_)
   ·
    have c3' := c3
    try simp only [qq] at c3'
    refine aw_skip (aw_seq (aw_block ?_))
    refine aw_drawc [] [3, 6, 9] _ mo (by kernel_rfl) (HSub.refl _) ?_
    refine dc_ev rfl (ev_mv (v := .own _ _ _) (lr _)) ?_
    refine dc_ev rfl (ev_load_agg (lr _) rfl ty27 rfl) ?_
    refine dc_ev rfl (ev_mv (v := .sl _ _) (lr _)) ?_
    refine dc_eff rfl rfl (eff_append_new rfl sf34 Tryz.underlying34 (less_nilx _) (lr _) (by simp; omega) (by simp; omega)) (by apply HL.sub; repeat' (first | exact HL.nil _ | apply HL.same | apply HL.tok)) ?_
    refine dc_ev rfl (ev_mv (v := .raw _) (lr _)) ?_
    refine dc_ev rfl (ev_buildSlice (es := [[_]]) sf34 rfl rfl rfl rfl) ?_
    refine dc_eff rfl rfl (eff_append rfl sf34 Tryz.underlying34 rfl rfl (less_slx _ _) (by simp; omega) (by simp; omega)) (by apply HL.sub; repeat' (first | exact HL.nil _ | apply HL.same | apply HL.tok)) ?_
    refine dc_ev rfl (ev_mv (v := .raw _) (lr _)) ?_
    refine dc_ev rfl (ev_call en144 (lr _) (ih m (by omega) (now ++ [nxt now + k]) (fun x hx => (by rcases List.mem_append.1 hx with h | h; exact hn x h; simp at h; omega)) (by simp; omega)) ⟨lr _, Less.trans (less_own _ _ _) (Less.eq (by simp)), less_int (by simp; omega), trivial⟩) ?_
    refine dc_eff rfl rfl (eff_append rfl sf30 Tryz.underlying30 rfl rfl (lr _) (by simp; omega) (by simp; omega)) (by apply HL.sub; repeat' (first | exact HL.nil _ | apply HL.same | apply HL.tok)) ?_
    refine dc_ev rfl (ev_as (v := .own _ _ _) (lr _)) ?_
    refine dc_nil (aw_region ?_)
    refine mvr (lr _) rfl ?_
    refine sq_ev rfl (ev_add (lr _) (lr _) (wr (by omega) (by omega))) ?_
    refine asr (lr _) rfl ?_
    refine sq_nil ?_
    have e1 : (fm (k + 1) fun i => lsts p.scenes.length m (now ++ [nxt now + i])).map (fun x => [nats x]) = ((fm k fun i => lsts p.scenes.length m (now ++ [nxt now + i])).map (fun x => [nats x])) ++ (lsts p.scenes.length m (now ++ [nxt now + k])).map (fun x => [nats x]) := by rw [fm_succ, List.map_append]
    have e2 : ((fm (k + 1) fun i => lsts p.scenes.length m (now ++ [nxt now + i])).map (fun x => [nats x])).length = ((fm k fun i => lsts p.scenes.length m (now ++ [nxt now + i])).map (fun x => [nats x]) ++ (lsts p.scenes.length m (now ++ [nxt now + k])).map (fun x => [nats x])).length := by rw [e1]
    exact ⟨⟨k + 1, by omega⟩, by simp only; omega, Sub.fin 2 ⟨less_int (by first | omega | (simp only; omega)), Less.eq (b := .own 1 1 ((fm (k + 1) fun i => lsts p.scenes.length m (now ++ [nxt now + i])).map (fun x => [nats x]))) (by rw [e1] <;> rfl), lr _, lr _, lr _, trivial⟩ (congrArg (fun n => [_, AObj.tok n]) e2.symm) (by simp [slotsIn, objsIn, sget, keepS, AObj.inB, AV.inB, AV.inL, AV.inE, inE_map, inE_nats, -List.map_append]) (by simp [slotsIn, objsIn, sget, keepS, AObj.inB, AV.inB, AV.inL, AV.inE, inE_map, inE_nats, -List.map_append]) (by simp [he0])⟩
   ·
    have c3' := c3
    try simp only [qq] at c3'
    obtain rfl : k = p.scenes.length - nxt now := by omega
    refine aw_exit (aw_seq (aw_region ?_))
    refine sq_ev rfl (ev_mv (v := .own _ _ _) (lr _)) ?_
    refine sq_ev rfl (ev_as (v := .own _ _ _) (lr _)) ?_
    refine sq_nil (aw_ret ?_)
    exact retQ_pure (v := .own _ _ _) rfl rfl (Less.trans (less_own _ _ _) (Less.eq (by rfl)))
  ·
   have c2' := c2
   try simp only [qq] at c2'
   have hnx := nxt_nil (now := now) (by omega)
   refine aw_skip (aw_seq (aw_region ?_))
   refine asr (lr _) rfl ?_
   refine sq_nil (aw_seq (aw_seq (aw_region ?_)))
   refine mvr (lr _) rfl ?_
   refine asr (lr _) rfl ?_
   refine sq_nil (aw_block ?_)
   refine aw_sub (sub_token 8 1 (lr _)) ?_
   refine aw_loopk (ι := { k : Nat // k ≤ p.scenes.length - nxt now }) [1, 2, 3] (fun k => [(9, I (nxt now + k.1)), (8, .own 1 1 ((fm k.1 fun i => lsts p.scenes.length m (now ++ [nxt now + i])).map (fun x => [nats x])))]) (fun H k => H.set 1 (.tok ((fm k.1 fun i => lsts p.scenes.length m (now ++ [nxt now + i])).map (fun x => [nats x])).length)) (fun k => p.scenes.length - nxt now - k.1) (⟨0, Nat.zero_le _⟩) ⟨(by exact less_int (by first | omega | (simp only; omega))), lr _, lr _, lr _, lr _, trivial⟩ rfl ?_
   rintro ⟨k, k1⟩
   dsimp only [keepS, St.put, sget, slotsOf, List.map_cons, List.map_nil, List.cons_append, List.nil_append, List.length_cons, List.length_nil, Nat.reduceBEq, Nat.reduceAdd, cond_true, cond_false]
   have q1 := lsts_part (m := m) now gp.len k1
   have q2 := lsts_all (m := m) (now ++ [nxt now + k]) gp.len
   refine aw_seq (aw_seq (aw_region ?_))
   refine mvr (lr _) rfl ?_
   refine sq_ev rfl (ev_fieldAddr fo27_3 (lr _)) ?_
   refine sq_ev rfl (ev_load (lr _) rfl ty25 rfl) ?_
   refine sq_ev rfl (ev_len_map sl25 (lr _)) ?_
   refine sq_ev rfl (ev_lss (lr _) (lr _)) ?_
   refine sq_nil ?_
   refine aw_cond (lr _) (fun c4 => ?_) (fun c4 => ?_)
   ·
    have c4' := c4
    try simp only [qq] at c4'
    refine aw_skip (aw_seq (aw_block ?_))
    refine aw_drawc [] [3, 6, 9] _ mo (by kernel_rfl) (HSub.refl _) ?_
    refine dc_ev rfl (ev_mv (v := .own _ _ _) (lr _)) ?_
    refine dc_ev rfl (ev_load_agg (lr _) rfl ty27 rfl) ?_
    refine dc_ev rfl (ev_mv (v := .sl _ _) (lr _)) ?_
    refine dc_eff rfl rfl (eff_append_new rfl sf34 Tryz.underlying34 (less_nilx _) (lr _) (by simp; omega) (by simp; omega)) (by apply HL.sub; repeat' (first | exact HL.nil _ | apply HL.same | apply HL.tok)) ?_
    refine dc_ev rfl (ev_mv (v := .raw _) (lr _)) ?_
    refine dc_ev rfl (ev_buildSlice (es := [[_]]) sf34 rfl rfl rfl rfl) ?_
    refine dc_eff rfl rfl (eff_append rfl sf34 Tryz.underlying34 rfl rfl (less_slx _ _) (by simp; omega) (by simp; omega)) (by apply HL.sub; repeat' (first | exact HL.nil _ | apply HL.same | apply HL.tok)) ?_
    refine dc_ev rfl (ev_mv (v := .raw _) (lr _)) ?_
    refine dc_ev rfl (ev_call en144 (lr _) (ih m (by omega) (now ++ [nxt now + k]) (fun x hx => (by rcases List.mem_append.1 hx with h | h; exact hn x h; simp at h; omega)) (by simp; omega)) ⟨lr _, Less.trans (less_own _ _ _) (Less.eq (by simp)), less_int (by simp; omega), trivial⟩) ?_
    refine dc_eff rfl rfl (eff_append rfl sf30 Tryz.underlying30 rfl rfl (lr _) (by simp; omega) (by simp; omega)) (by apply HL.sub; repeat' (first | exact HL.nil _ | apply HL.same | apply HL.tok)) ?_
    refine dc_ev rfl (ev_as (v := .own _ _ _) (lr _)) ?_
    refine dc_nil (aw_region ?_)
    refine mvr (lr _) rfl ?_
    refine sq_ev rfl (ev_add (lr _) (lr _) (wr (by omega) (by omega))) ?_
    refine asr (lr _) rfl ?_
    refine sq_nil ?_
    have e1 : (fm (k + 1) fun i => lsts p.scenes.length m (now ++ [nxt now + i])).map (fun x => [nats x]) = ((fm k fun i => lsts p.scenes.length m (now ++ [nxt now + i])).map (fun x => [nats x])) ++ (lsts p.scenes.length m (now ++ [nxt now + k])).map (fun x => [nats x]) := by rw [fm_succ, List.map_append]
    have e2 : ((fm (k + 1) fun i => lsts p.scenes.length m (now ++ [nxt now + i])).map (fun x => [nats x])).length = ((fm k fun i => lsts p.scenes.length m (now ++ [nxt now + i])).map (fun x => [nats x]) ++ (lsts p.scenes.length m (now ++ [nxt now + k])).map (fun x => [nats x])).length := by rw [e1]
    exact ⟨⟨k + 1, by omega⟩, by simp only; omega, Sub.fin 2 ⟨less_int (by first | omega | (simp only; omega)), Less.eq (b := .own 1 1 ((fm (k + 1) fun i => lsts p.scenes.length m (now ++ [nxt now + i])).map (fun x => [nats x]))) (by rw [e1] <;> rfl), lr _, lr _, lr _, trivial⟩ (congrArg (fun n => [_, AObj.tok n]) e2.symm) (by simp [slotsIn, objsIn, sget, keepS, AObj.inB, AV.inB, AV.inL, AV.inE, inE_map, inE_nats, -List.map_append]) (by simp [slotsIn, objsIn, sget, keepS, AObj.inB, AV.inB, AV.inL, AV.inE, inE_map, inE_nats, -List.map_append]) (by simp [he0])⟩
   ·
    have c4' := c4
    try simp only [qq] at c4'
    obtain rfl : k = p.scenes.length - nxt now := by omega
    refine aw_exit (aw_seq (aw_region ?_))
    refine sq_ev rfl (ev_mv (v := .own _ _ _) (lr _)) ?_
    refine sq_ev rfl (ev_as (v := .own _ _ _) (lr _)) ?_
    refine sq_nil (aw_ret ?_)
    exact retQ_pure (v := .own _ _ _) rfl rfl (Less.trans (less_own _ _ _) (Less.eq (by rfl)))
end Go.Proofs.YtjghdbdiejaacaaGreatDoor
namespace Go.Proofs.YtjghdbdiejaacaaGreatDoor
open Go Go.Ab Ni
theorem choice_pureN (p : Pl) (l : List Nat) (gp : GP p) (cv : CV p l) : APure Tryz.prog 78 [plan p, nats l] (B (isC p l)) := by
  rw [nats_ints]
  exact choice_pure p (up l) (by have := gp.len; omega) (by have := cv.len; simp [up]; omega)
theorem lists0_pure {p : Pl} (gp : GP p) (i : Nat) (h : i ≤ p.scenes.length) : APure Tryz.prog 144 [plan p, nats [], I ((p.scenes.length : Int) - i)] (natss (aL p i)) := by
  have := lists_pure gp (p.scenes.length - i) [] (by simp) (by have := gp.len; simp; omega)
  rw [show ((p.scenes.length : Int) - i) = (([] : List Nat).length : Int) + ((p.scenes.length - i : Nat) : Int) by simp; omega]
  exact this
theorem en78 : Ent Tryz.prog 78 := Ent.of Tryz.func78 (by kernel_rfl) rfl
set_option maxHeartbeats 2000000 in
theorem all_pure {p : Pl} (gp : GP p) : APure Tryz.prog 92 [plan p] (natss (allC p)) := by
 refine apure_of (rs := [.tmp 2]) Tryz.func92 rfl rfl (Nat.le_of_ble_eq_true rfl) (by simp [AV.pureL, AV.pureB, AV.pureE, pureE_map]) (by simp [AV.pureL, AV.pureB, AV.pureE, pureE_map]) fun e0 he0 => ?_
 refine aw_seq (aw_region ?_)
 refine sq_box rfl (lr _) rfl ?_
 refine asr (lr _) rfl ?_
 refine sq_nil (aw_seq (aw_region ?_))
 refine asr (lr _) rfl ?_
 refine sq_nil (aw_seq (aw_seq (aw_region ?_)))
 refine sq_ev rfl (ev_fieldAddr fo27_3 (lr _)) ?_
 refine sq_ev rfl (ev_load (lr _) rfl ty25 rfl) ?_
 refine sq_ev rfl (ev_len_map sl25 (lr _)) ?_
 refine asr (lr _) rfl ?_
 refine sq_nil (aw_block ?_)
 refine aw_sub (sub_token 3 1 (lr _)) ?_
 have gl := gp.len
 refine aw_loopk (ι := { i : Nat // i ≤ p.scenes.length + 1 }) [1] (fun i => [(4, I ((p.scenes.length : Int) - i.1)), (3, .own 1 1 ((fm i.1 (aA p)).map (fun x => [nats x])))]) (fun H i => H.set 1 (.tok ((fm i.1 (aA p)).map (fun x => [nats x])).length)) (fun i => p.scenes.length + 1 - i.1) (⟨0, Nat.zero_le _⟩) ⟨(by exact less_int (by simp)), lr _, lr _, trivial⟩ rfl ?_
 rintro ⟨i, i1⟩
 dsimp only [keepS, St.put, sget, slotsOf, List.map_cons, List.map_nil, List.cons_append, List.nil_append, List.length_cons, List.length_nil, Nat.reduceBEq, Nat.reduceAdd, cond_true, cond_false]
 have q1 := aAs_len gp i1
 have q2 := aL_len gp i
 refine aw_seq (aw_seq (aw_region ?_))
 refine mvr (lr _) rfl ?_
 refine sq_ev rfl (ev_geq (lr _) (lr _)) ?_
 refine sq_nil ?_
 refine aw_cond (lr _) (fun c1 => ?_) (fun c1 => ?_)
 ·
  have c1' := c1
  try simp only [qq] at c1'
  refine aw_skip (aw_seq (aw_block (aw_seq (aw_region ?_))))
  refine sq_ev rfl (ev_load_agg (lr _) rfl ty27 rfl) ?_
  refine mvr (lr _) rfl ?_
  refine sq_ev rfl (ev_call en144 (lr _) (lists0_pure gp i (by omega)) ⟨lr _, (less_nil 1), lr _, trivial⟩) ?_
  refine ass rfl (lr _) ?_
  refine sq_nil (aw_seq (aw_region ?_))
  refine asr (lr _) rfl ?_
  refine sq_nil (aw_block ?_)
  refine aw_loopk (ι := { j : Nat // j ≤ (aL p i).length }) [1, 4, 5] (fun j => [(6, I j.1), (3, .own 1 1 ((fm i (aA p) ++ ((aL p i).take j.1).filter (isC p)).map (fun x => [nats x])))]) (fun H j => H.set 1 (.tok ((fm i (aA p) ++ ((aL p i).take j.1).filter (isC p)).map (fun x => [nats x])).length)) (fun j => (aL p i).length - j.1) (⟨0, Nat.zero_le _⟩) ⟨lr _, (by exact Less.eq (a := .own 1 1 ((fm i (aA p)).map (fun x => [nats x]))) (by simp)), lr _, lr _, lr _, trivial⟩ (by simp; rfl) ?_
  rintro ⟨j, j1⟩
  dsimp only [keepS, St.put, sget, slotsOf, List.map_cons, List.map_nil, List.cons_append, List.nil_append, List.length_cons, List.length_nil, Nat.reduceBEq, Nat.reduceAdd, cond_true, cond_false]
  have q3 := ft_len (isC p) (aL p i) j
  refine aw_seq (aw_seq (aw_region ?_))
  refine mvr (lr _) rfl ?_
  refine mvs rfl (lr _) ?_
  refine sq_ev rfl (ev_len_map sl30 (lr _)) ?_
  refine sq_ev rfl (ev_lss (lr _) (lr _)) ?_
  refine sq_nil ?_
  refine aw_cond (lr _) (fun c2 => ?_) (fun c2 => ?_)
  ·
   have c2' := c2
   try simp only [qq] at c2'
   refine aw_skip (aw_seq (aw_block (aw_seq ?_)))
   refine aw_draw 6 mo (by kernel_rfl) ?_
   refine dr_ev rfl (ev_load_agg (lr _) rfl ty27 rfl) ?_
   refine dr_ev rfl (ev_mv (v := .sl _ _) (lr _)) ?_
   refine dr_ev rfl (ev_mv (v := .raw _) (lr _)) ?_
   refine dr_ev rfl (ev_index_map sl30 (lr _) (lr _) rfl (by omega)) ?_
   refine dr_ev rfl (ev_load_i (lr _) ty34 rfl) ?_
   refine dr_ev rfl (ev_call en78 (lr _) (choice_pureN p _ gp (aL_mem gp _ (List.getElem_mem (show j < (aL p i).length by omega)))) ⟨lr _, lr _, trivial⟩) ?_
   refine dr_end (sq_nil ?_)
   refine aw_cond (lr _) (fun c3 => ?_) (fun c3 => ?_)
   ·
    have c3' := c3
    try simp only [qq] at c3'
    have e1 : (fm i (aA p) ++ ((aL p i).take (j + 1)).filter (isC p)).map (fun x => [nats x]) = (fm i (aA p) ++ ((aL p i).take j).filter (isC p)).map (fun x => [nats x]) ++ [[nats ((aL p i)[j]'(by omega))]] := by rw [filter_take_succ (isC p) (show j < (aL p i).length by omega), if_pos c3']; simp
    have e2 : ((fm i (aA p) ++ ((aL p i).take (j + 1)).filter (isC p)).map (fun x => [nats x])).length = ((fm i (aA p) ++ ((aL p i).take j).filter (isC p)).map (fun x => [nats x]) ++ [[nats ((aL p i)[j]'(by omega))]]).length := by rw [e1]
    refine aw_region ?_
    refine sq_ev rfl (ev_mv (v := .own _ _ _) (lr _)) ?_
    refine mvs rfl (lr _) ?_
    refine mvr (lr _) rfl ?_
    refine sq_ev rfl (ev_index_map sl30 (lr _) (lr _) rfl (by omega)) ?_
    refine sq_ev rfl (ev_load_i (lr _) ty34 rfl) ?_
    refine sq_ev rfl (ev_buildSlice (es := [[_]]) sf30 rfl rfl rfl rfl) ?_
    refine sq_append rfl sf30 Tryz.underlying30 rfl rfl (less_slx _ _) (Nat.succ_pos _) (by simp; omega) (by simp; omega) ?_
    refine sq_ev rfl (ev_as (v := .own _ _ _) (lr _)) ?_
    refine sq_nil (aw_region ?_)
    refine mvr (lr _) rfl ?_
    refine sq_ev rfl (ev_add (lr _) (lr _) (wr (by omega) (by omega))) ?_
    refine asr (lr _) rfl ?_
    refine sq_nil ?_
    exact ⟨⟨j + 1, by omega⟩, by simp only; omega, Sub.fin 2 ⟨lr _, Less.eq (b := .own 1 1 ((fm i (aA p) ++ ((aL p i).take (j + 1)).filter (isC p)).map (fun x => [nats x]))) (by rw [e1] <;> rfl), lr _, lr _, lr _, trivial⟩ (congrArg (fun n => [_, AObj.tok n]) e2.symm) (by simp [slotsIn, objsIn, sget, keepS, AObj.inB, AV.inB, AV.inL, AV.inE, inE_map, inE_nats, -List.map_append]) (by simp [slotsIn, objsIn, sget, keepS, AObj.inB, AV.inB, AV.inL, AV.inE, inE_map, inE_nats, -List.map_append]) (by simp [he0])⟩
   ·
    have c3' := c3
    try simp only [qq] at c3'
    have e1 : (fm i (aA p) ++ ((aL p i).take (j + 1)).filter (isC p)).map (fun x => [nats x]) = (fm i (aA p) ++ ((aL p i).take j).filter (isC p)).map (fun x => [nats x]) := by rw [filter_take_succ (isC p) (show j < (aL p i).length by omega), if_neg (by simp [c3'])]; simp
    have e2 : ((fm i (aA p) ++ ((aL p i).take (j + 1)).filter (isC p)).map (fun x => [nats x])).length = ((fm i (aA p) ++ ((aL p i).take j).filter (isC p)).map (fun x => [nats x])).length := by rw [e1]
    refine aw_skip (aw_region ?_)
    refine mvr (lr _) rfl ?_
    refine sq_ev rfl (ev_add (lr _) (lr _) (wr (by omega) (by omega))) ?_
    refine asr (lr _) rfl ?_
    refine sq_nil ?_
    exact ⟨⟨j + 1, by omega⟩, by simp only; omega, Sub.fin 2 ⟨lr _, Less.eq (b := .own 1 1 ((fm i (aA p) ++ ((aL p i).take (j + 1)).filter (isC p)).map (fun x => [nats x]))) (by rw [e1] <;> rfl), lr _, lr _, lr _, trivial⟩ (congrArg (fun n => [_, AObj.tok n]) e2.symm) (by simp [slotsIn, objsIn, sget, keepS, AObj.inB, AV.inB, AV.inL, AV.inE, inE_map, inE_nats, -List.map_append]) (by simp [slotsIn, objsIn, sget, keepS, AObj.inB, AV.inB, AV.inL, AV.inE, inE_map, inE_nats, -List.map_append]) (by simp [he0])⟩
  ·
   have c2' := c2
   try simp only [qq] at c2'
   refine aw_exit (aw_region ?_)
   refine mvr (lr _) rfl ?_
   refine sq_ev rfl (ev_sub (lr _) (lr _) (wr (by omega) (by omega))) ?_
   refine asr (lr _) rfl ?_
   refine sq_nil ?_
   have e3 : fm (i + 1) (aA p) = fm i (aA p) ++ ((aL p i).take j).filter (isC p) := by rw [fm_succ, aA, List.take_of_length_le (by omega)]
   exact ⟨⟨i + 1, by omega⟩, by simp only; omega, Sub.fin 2 ⟨less_int (by first | omega | (simp only; omega)), Less.eq (b := .own 1 1 ((fm (i + 1) (aA p)).map (fun x => [nats x]))) (by rw [e3] <;> rfl), lr _, trivial⟩ (congrArg (fun n => [_, AObj.tok n]) (congrArg (fun L => (List.map (fun x => [nats x]) L).length) e3.symm)) (by simp [slotsIn, objsIn, sget, keepS, AObj.inB, AV.inB, AV.inL, AV.inE, inE_map, inE_nats, -List.map_append]) (by simp [slotsIn, objsIn, sget, keepS, AObj.inB, AV.inB, AV.inL, AV.inE, inE_map, inE_nats, -List.map_append]) (by simp [he0])⟩
 ·
  have c1' := c1
  try simp only [qq] at c1'
  obtain rfl : i = p.scenes.length + 1 := by omega
  refine aw_exit (aw_seq (aw_region ?_))
  refine sq_ev rfl (ev_mv (v := .own _ _ _) (lr _)) ?_
  refine sq_ev rfl (ev_as (v := .own _ _ _) (lr _)) ?_
  refine sq_nil (aw_ret ?_)
  exact retQ_pure (v := .own _ _ _) rfl rfl (Less.trans (less_own _ _ _) (Less.eq (by rfl)))
end Go.Proofs.YtjghdbdiejaacaaGreatDoor
namespace Go.Proofs.YtjghdbdiejaacaaGreatDoor
open Go Go.Ab Ni
theorem can_pureN {p : Pl} {l : List Nat} (gp : GP p) (cv : CV p l) : APure Tryz.prog 48 [plan p, nats l] (B (can p l)) := can_pure p l gp cv
theorem en25 : Ent Tryz.prog 25 := Ent.of Tryz.func25 (by kernel_rfl) rfl
theorem en48 : Ent Tryz.prog 48 := Ent.of Tryz.func48 (by kernel_rfl) rfl
theorem en92 : Ent Tryz.prog 92 := Ent.of Tryz.func92 (by kernel_rfl) rfl
set_option maxHeartbeats 2000000 in
theorem choices_pure {p : Pl} (gp : GP p) : APure Tryz.prog 25 [plan p] (natss (choicesC p)) := by
 refine apure_of (rs := [.tmp 2]) Tryz.func25 rfl rfl (Nat.le_of_ble_eq_true rfl) (by simp [AV.pureL, AV.pureB, AV.pureE, pureE_map]) (by simp [AV.pureL, AV.pureB, AV.pureE, pureE_map]) fun e0 he0 => ?_
 refine aw_seq (aw_region ?_)
 refine sq_box rfl (lr _) rfl ?_
 refine asr (lr _) rfl ?_
 refine sq_nil (aw_seq (aw_region ?_))
 refine sq_ev rfl (ev_load_agg (lr _) rfl ty27 rfl) ?_
 refine sq_ev rfl (ev_call en92 (lr _) (all_pure gp) ⟨lr _, trivial⟩) ?_
 refine ass rfl (lr _) ?_
 refine sq_nil (aw_seq (aw_region ?_))
 refine asr (lr _) rfl ?_
 refine sq_nil (aw_seq (aw_seq (aw_region ?_)))
 refine asr (lr _) rfl ?_
 refine sq_nil (aw_block ?_)
 refine aw_sub (sub_token 4 1 (lr _)) ?_
 refine aw_loopk (ι := { j : Nat // j ≤ (allC p).length }) [1, 3] (fun j => [(5, I j.1), (4, .own 1 1 ((((allC p).take j.1).filter (can p)).map (fun x => [nats x])))]) (fun H j => H.set 1 (.tok ((((allC p).take j.1).filter (can p)).map (fun x => [nats x])).length)) (fun j => (allC p).length - j.1) (⟨0, Nat.zero_le _⟩) ⟨lr _, lr _, lr _, lr _, trivial⟩ rfl ?_
 rintro ⟨j, j1⟩
 dsimp only [keepS, St.put, sget, slotsOf, List.map_cons, List.map_nil, List.cons_append, List.nil_append, List.length_cons, List.length_nil, Nat.reduceBEq, Nat.reduceAdd, cond_true, cond_false]
 have q2 := allC_len gp
 have q3 := ft_len (can p) (allC p) j
 refine aw_seq (aw_seq (aw_region ?_))
 refine mvr (lr _) rfl ?_
 refine mvs rfl (lr _) ?_
 refine sq_ev rfl (ev_len_map sl30 (lr _)) ?_
 refine sq_ev rfl (ev_lss (lr _) (lr _)) ?_
 refine sq_nil ?_
 refine aw_cond (lr _) (fun c1 => ?_) (fun c1 => ?_)
 ·
  have c1' := c1
  try simp only [qq] at c1'
  refine aw_skip (aw_seq (aw_block (aw_seq ?_)))
  refine aw_draw 6 mo (by kernel_rfl) ?_
  refine dr_ev rfl (ev_load_agg (lr _) rfl ty27 rfl) ?_
  refine dr_ev rfl (ev_mv (v := .sl _ _) (lr _)) ?_
  refine dr_ev rfl (ev_mv (v := .raw _) (lr _)) ?_
  refine dr_ev rfl (ev_index_map sl30 (lr _) (lr _) rfl (by omega)) ?_
  refine dr_ev rfl (ev_load_i (lr _) ty34 rfl) ?_
  refine dr_ev rfl (ev_call en48 (lr _) (can_pureN gp (allC_mem gp _ (List.getElem_mem (show j < (allC p).length by omega)))) ⟨lr _, lr _, trivial⟩) ?_
  refine dr_end (sq_nil ?_)
  refine aw_cond (lr _) (fun c2 => ?_) (fun c2 => ?_)
  ·
   have c2' := c2
   try simp only [qq] at c2'
   have e1 : (((allC p).take (j + 1)).filter (can p)).map (fun x => [nats x]) = (((allC p).take j).filter (can p)).map (fun x => [nats x]) ++ [[nats ((allC p)[j]'(by omega))]] := by rw [filter_take_succ (can p) (show j < (allC p).length by omega), if_pos c2']; simp
   have e2 : ((((allC p).take (j + 1)).filter (can p)).map (fun x => [nats x])).length = ((((allC p).take j).filter (can p)).map (fun x => [nats x]) ++ [[nats ((allC p)[j]'(by omega))]]).length := by rw [e1]
   refine aw_region ?_
   refine sq_ev rfl (ev_mv (v := .own _ _ _) (lr _)) ?_
   refine mvs rfl (lr _) ?_
   refine mvr (lr _) rfl ?_
   refine sq_ev rfl (ev_index_map sl30 (lr _) (lr _) rfl (by omega)) ?_
   refine sq_ev rfl (ev_load_i (lr _) ty34 rfl) ?_
   refine sq_ev rfl (ev_buildSlice (es := [[_]]) sf30 rfl rfl rfl rfl) ?_
   refine sq_append rfl sf30 Tryz.underlying30 rfl rfl (less_slx _ _) (Nat.succ_pos _) (by simp; omega) (by simp; omega) ?_
   refine sq_ev rfl (ev_as (v := .own _ _ _) (lr _)) ?_
   refine sq_nil (aw_region ?_)
   refine mvr (lr _) rfl ?_
   refine sq_ev rfl (ev_add (lr _) (lr _) (wr (by omega) (by omega))) ?_
   refine asr (lr _) rfl ?_
   refine sq_nil ?_
   exact ⟨⟨j + 1, by omega⟩, by simp only; omega, Sub.fin 2 ⟨lr _, Less.eq (b := .own 1 1 ((((allC p).take (j + 1)).filter (can p)).map (fun x => [nats x]))) (by rw [e1] <;> rfl), lr _, lr _, trivial⟩ (congrArg (fun n => [_, AObj.tok n]) e2.symm) (by simp [slotsIn, objsIn, sget, keepS, AObj.inB, AV.inB, AV.inL, AV.inE, inE_map, inE_nats, -List.map_append]) (by simp [slotsIn, objsIn, sget, keepS, AObj.inB, AV.inB, AV.inL, AV.inE, inE_map, inE_nats, -List.map_append]) (by simp [he0])⟩
  ·
   have c2' := c2
   try simp only [qq] at c2'
   have e1 : (((allC p).take (j + 1)).filter (can p)).map (fun x => [nats x]) = (((allC p).take j).filter (can p)).map (fun x => [nats x]) := by rw [filter_take_succ (can p) (show j < (allC p).length by omega), if_neg (by simp [c2'])]; simp
   have e2 : ((((allC p).take (j + 1)).filter (can p)).map (fun x => [nats x])).length = ((((allC p).take j).filter (can p)).map (fun x => [nats x])).length := by rw [e1]
   refine aw_skip (aw_region ?_)
   refine mvr (lr _) rfl ?_
   refine sq_ev rfl (ev_add (lr _) (lr _) (wr (by omega) (by omega))) ?_
   refine asr (lr _) rfl ?_
   refine sq_nil ?_
   exact ⟨⟨j + 1, by omega⟩, by simp only; omega, Sub.fin 2 ⟨lr _, Less.eq (b := .own 1 1 ((((allC p).take (j + 1)).filter (can p)).map (fun x => [nats x]))) (by rw [e1] <;> rfl), lr _, lr _, trivial⟩ (congrArg (fun n => [_, AObj.tok n]) e2.symm) (by simp [slotsIn, objsIn, sget, keepS, AObj.inB, AV.inB, AV.inL, AV.inE, inE_map, inE_nats, -List.map_append]) (by simp [slotsIn, objsIn, sget, keepS, AObj.inB, AV.inB, AV.inL, AV.inE, inE_map, inE_nats, -List.map_append]) (by simp [he0])⟩
 ·
  have c1' := c1
  try simp only [qq] at c1'
  obtain rfl : j = (allC p).length := by omega
  refine aw_exit (aw_seq (aw_region ?_))
  refine sq_ev rfl (ev_mv (v := .own _ _ _) (lr _)) ?_
  refine sq_ev rfl (ev_as (v := .own _ _ _) (lr _)) ?_
  refine sq_nil (aw_ret ?_)
  exact retQ_pure (v := .own _ _ _) rfl rfl (Less.trans (less_own _ _ _) (Less.eq (by rw [List.take_length] <;> rfl)))
set_option maxHeartbeats 400000 in
theorem possible_pure {p : Pl} (gp : GP p) : APure Tryz.prog 101 [plan p] (B (decide (0 < (choicesC p).length))) := by
 refine apure_of (rs := [.tmp 2]) Tryz.func101 rfl rfl (Nat.le_of_ble_eq_true rfl) (by simp [AV.pureL, AV.pureB, AV.pureE, pureE_map]) (rfl) fun e0 he0 => ?_
 refine aw_seq (aw_region ?_)
 refine sq_box rfl (lr _) rfl ?_
 refine asr (lr _) rfl ?_
 refine sq_nil (aw_seq (aw_region ?_))
 refine sq_ev rfl (ev_load_agg (lr _) rfl ty27 rfl) ?_
 refine sq_ev rfl (ev_call en25 (lr _) (choices_pure gp) ⟨lr _, trivial⟩) ?_
 refine sq_ev rfl (ev_len_map sl30 (lr _)) ?_
 refine sq_ev rfl (ev_gtr (lr _) (lr _)) ?_
 refine asr (lr _) rfl ?_
 refine sq_nil (aw_ret ?_)
 exact retQ_pure (v := .raw _) rfl rfl (Less.eq (by simp))
end Go.Proofs.YtjghdbdiejaacaaGreatDoor
namespace Go.Proofs.YtjghdbdiejaacaaGreatDoor
open Go Go.Ab Ni
section
variable {r : Option Nat} {H : List AObj} {ρ : Operand → AV} {d : Option Tmp} {t : TypeId} {p : String} {af : Array Edge} {g : Option (Nat × Bool)} {x y : Operand} {yt : TypeId} {a b c e : Int}
theorem ev_span_eql (hx : Less (ρ x) (.agg [I a, I b])) (hy : Less (ρ y) (.agg [I c, I e])) : Ev Tryz.prog r ⟨d, .binOp .eql 23 x y yt, t, p, af, g⟩ H ρ (B (decide (a = c) && decide (b = e))) :=
  ev_eql_agg (by kernel_rfl) (spanEq a b c e) (Less.trans hx (less_agg_raw (vs := [.int .i64 a, .int .i64 b]) rfl)) (Less.trans hy (less_agg_raw (vs := [.int .i64 c, .int .i64 e]) rfl))
end
set_option maxHeartbeats 400000 in
theorem rshort_pure (p : Pl) : APure Tryz.prog 20 [plan p] (B (decide (p.scenes.length ≤ 12))) := by
 refine apure_of (rs := [.tmp 2]) Tryz.func20 rfl rfl (Nat.le_of_ble_eq_true rfl) (by simp [AV.pureL, AV.pureB, AV.pureE, pureE_map]) (rfl) fun e0 he0 => ?_
 refine aw_seq (aw_region ?_)
 refine sq_box rfl (lr _) rfl ?_
 refine asr (lr _) rfl ?_
 refine sq_nil (aw_seq (aw_region ?_))
 refine sq_ev rfl (ev_fieldAddr fo27_3 (lr _)) ?_
 refine sq_ev rfl (ev_load (lr _) rfl ty25 rfl) ?_
 refine sq_ev rfl (ev_len_map sl25 (lr _)) ?_
 refine sq_ev rfl (ev_leq (lr _) (lr _)) ?_
 refine asr (lr _) rfl ?_
 refine sq_nil (aw_ret ?_)
 exact retQ_pure (v := .raw _) rfl rfl (Less.eq (by simp; omega))
end Go.Proofs.YtjghdbdiejaacaaGreatDoor
namespace Go.Proofs.YtjghdbdiejaacaaGreatDoor
open Go Go.Ab Ni
theorem en20 : Ent Tryz.prog 20 := Ent.of Tryz.func20 (by kernel_rfl) rfl
theorem en21 : Ent Tryz.prog 21 := Ent.of Tryz.func21 (by kernel_rfl) rfl
theorem en24 : Ent Tryz.prog 24 := Ent.of Tryz.func24 (by kernel_rfl) rfl
theorem short_no {p : Pl} (h : ¬ p.scenes.length ≤ 12) : APure Tryz.prog 20 [plan p] (B false) := by have := rshort_pure p; simpa [h] using this
theorem short_yes {p : Pl} (h : p.scenes.length ≤ 12) : APure Tryz.prog 20 [plan p] (B true) := by have := rshort_pure p; simpa [h] using this
end Go.Proofs.YtjghdbdiejaacaaGreatDoor
namespace Go.Proofs.YtjghdbdiejaacaaGreatDoor
open Go Go.Ab Ni
theorem en101 : Ent Tryz.prog 101 := Ent.of Tryz.func101 (by kernel_rfl) rfl
theorem en32 : Ent Tryz.prog 32 := Ent.of Tryz.func32 (by kernel_rfl) rfl
def askV (p : Pl) (b : Bool) : Int := if PlOK p = true ∧ b = true then (if 0 < (choicesC p).length then 0 else 7) else 2
theorem has_nats (l : List Nat) (v : Nat) (hl : l.length ≤ 1000000) : APure Tryz.prog 62 [nats l, I v] (B (decide (v ∈ l))) := by
  have h := has_pure (up l) v (by simpa [up] using hl)
  unfold has at h
  have e1 : decide ((v : Int) ∈ up l) = decide (v ∈ l) := by
    refine decide_eq_decide.2 ?_
    simp only [up, List.mem_map]
    exact ⟨fun ⟨a, h1, h2⟩ => by
      obtain rfl : a = v := by omega
      exact h1, fun h => ⟨v, h, rfl⟩⟩
  have e2 : ints (up l) = nats l := by simp [up]
  rw [e1, e2] at h; exact h
set_option maxHeartbeats 400000 in
theorem rasked_pure (p : Pl) (b : Bool) (hs : p.scenes.length ≤ 1000000) : APure Tryz.prog 32 [plan p, B b] (I (askV p b)) := by
  refine apure_of (rs := [.tmp 4]) Tryz.func32 rfl rfl (Nat.le_of_ble_eq_true rfl) (by simp [AV.pureL, AV.pureB, AV.pureE, pureE_map]) (rfl) fun e0 he0 => ?_
  refine aw_seq (aw_region ?_)
  refine sq_box rfl (lr _) rfl ?_
  refine asr (lr _) rfl ?_
  refine sq_nil (aw_seq (aw_seq (aw_region ?_)))
  refine sq_ev rfl (ev_load_agg (lr _) rfl ty27 rfl) ?_
  refine sq_ev rfl (ev_call en24 (lr _) (plan_pure p hs) ⟨lr _, trivial⟩) ?_
  refine sq_ev rfl (ev_not (lr _)) ?_
  refine mvr (lr _) rfl ?_
  refine sq_split 8 (lr _) (fun g1 => ?_) (fun g1 => ?_)
  · skip
    have g1' := g1
    try simp only [qq] at g1'
    refine sq_no rfl rfl (less_b g1) rfl rfl ?_
    refine sq_no rfl rfl (less_b g1) rfl rfl ?_
    refine sq_ev rfl (ev_pickT (v := .raw _) (less_b g1) (lr _)) ?_
    refine sq_nil ?_
    refine aw_true (lr _) ?_
    refine aw_seq (aw_region ?_)
    refine asr (lr _) rfl ?_
    refine sq_nil (aw_ret ?_)
    exact retQ_pure (v := .raw _) rfl rfl (Less.eq (by simp_all [askV]))
  · skip
    have g1' := g1
    try simp only [qq] at g1'
    have hk : PlOK p = true := by simpa using g1
    have gp := (gp_of_ok hk).1
    refine sq_yes rfl rfl (less_b g1) rfl (ev_mv (v := .raw _) (lr _)) ?_
    refine sq_yes rfl rfl (less_b g1) rfl (ev_not (lr _)) ?_
    refine sq_ev rfl (ev_pickF (v := .raw _) (less_b g1) (lr _)) ?_
    refine sq_nil ?_
    refine aw_cond (lr _) (fun c2 => ?_) (fun c2 => ?_)
    · skip
      have c2' := c2
      try simp only [qq] at c2'
      refine aw_seq (aw_region ?_)
      refine asr (lr _) rfl ?_
      refine sq_nil (aw_ret ?_)
      exact retQ_pure (v := .raw _) rfl rfl (Less.eq (by simp_all [askV]))
    · skip
      have c2' := c2
      try simp only [qq] at c2'
      refine aw_skip (aw_seq (aw_seq (aw_region ?_)))
      refine sq_ev rfl (ev_load_agg (lr _) rfl ty27 rfl) ?_
      refine sq_ev rfl (ev_call en101 (lr _) (possible_pure gp) ⟨lr _, trivial⟩) ?_
      refine sq_ev rfl (ev_not (lr _)) ?_
      refine sq_nil ?_
      refine aw_cond (lr _) (fun c3 => ?_) (fun c3 => ?_)
      · skip
        have c3' := c3
        try simp only [qq] at c3'
        refine aw_seq (aw_region ?_)
        refine asr (lr _) rfl ?_
        refine sq_nil (aw_ret ?_)
        exact retQ_pure (v := .raw _) rfl rfl (Less.eq (by simp_all [askV]))
      · skip
        have c3' := c3
        try simp only [qq] at c3'
        refine aw_skip (aw_seq (aw_region ?_))
        refine asr (lr _) rfl ?_
        refine sq_nil (aw_ret ?_)
        exact retQ_pure (v := .raw _) rfl rfl (Less.eq (by simp_all [askV]))
end Go.Proofs.YtjghdbdiejaacaaGreatDoor
namespace Go.Proofs.YtjghdbdiejaacaaGreatDoor
open Go Go.Ab Ni
theorem ar125 : arrElem Tryz.prog 125 = some (3, 3, 1) := by kernel_rfl
theorem en103 : Ent Tryz.prog 103 := Ent.of Tryz.func103 (by kernel_rfl) rfl
theorem en105 : Ent Tryz.prog 105 := Ent.of Tryz.func105 (by kernel_rfl) rfl
theorem en36 : Ent Tryz.prog 36 := Ent.of Tryz.func36 (by kernel_rfl) rfl
theorem en37 : Ent Tryz.prog 37 := Ent.of Tryz.func37 (by kernel_rfl) rfl
theorem ty125 : tySz Tryz.prog 125 = some (true, 3) := by kernel_rfl
theorem wd_snoc (vs : List (Int × Int)) (v : Int × Int) : wd (vs ++ [v]) = if decide (0 < vs.length) = true then (min (wd vs).1 v.1, max (wd vs).2 v.2) else v := by
  by_cases h : 0 < vs.length
  · rw [if_pos (by simpa using h)]; exact wd_app (List.length_pos_iff.1 h) v
  · rw [if_neg (by simpa using h)]
    have : vs = [] := List.length_eq_zero_iff.1 (by omega)
    subst this; rfl
def tmV (p : Pl) (n k : Nat) (l : List Nat) (h : Hr) : Int × Int :=
  (max ((prH p h k).1 + lo p l k 0 ((n : Int) - 1)) ((prH p h k).2 - hi p l k n 10), min ((prH p h k).1 + hi p l k 0 ((n : Int) - 1)) ((prH p h k).2 - lo p l k n 10))
def lnV (p : Pl) (n k : Nat) (l : List Nat) (h : Hr) : Int × Int :=
  (max (scn p n).least ((prH p h k).2 - (prH p h k).1 - hi p l k 0 ((n : Int) - 1) - hi p l k ((n : Int) + 1) 10), min (scn p n).most ((prH p h k).2 - (prH p h k).1 - lo p l k 0 ((n : Int) - 1) - lo p l k ((n : Int) + 1) 10))
def tmL (p : Pl) (n : Nat) (F : List Nat → Hr → Int × Int) (i : Nat) : List (Int × Int) := (selT p n i).flatMap fun l => (hrs p l).map (F l)
theorem tmL_yes {p : Pl} {n j : Nat} (F : List Nat → Hr → Int × Int) (h : j < (choicesC p).length) (k : n ∈ (choicesC p)[j]) : tmL p n F (j + 1) = tmL p n F j ++ ((hrs p (choicesC p)[j]).take (hrs p (choicesC p)[j]).length).map (F (choicesC p)[j]) := by
  unfold tmL; rw [sel_yes h k, List.flatMap_append, List.take_length]; simp
theorem tmL_no {p : Pl} {n j : Nat} (F : List Nat → Hr → Int × Int) (h : j < (choicesC p).length) (k : ¬ n ∈ (choicesC p)[j]) : tmL p n F (j + 1) = tmL p n F j := by
  unfold tmL; rw [sel_no h k]
theorem hrs_bd {p : Pl} {l : List Nat} (gp : GP p) (wp : WP p) (cv : CV p l) {h : Hr} (hm : h ∈ hrs p l) (k : Nat) : (-10000 ≤ (prH p h k).1 ∧ (prH p h k).1 ≤ 10000) ∧ (0 ≤ (prH p h k).2 ∧ (prH p h k).2 ≤ 10000) := by
  obtain ⟨h1, h2, h3, h4, h5, h6, _, _, _, _, _, _⟩ := (mem_hrsH wp cv).1 hm
  have := gp.beg; have := gp.s0l; have := gp.s0h; have := gp.s1l; have := gp.s1h; have := gp.dl; have := gp.dh
  unfold prH
  split
  · simp only; omega
  · split
    · simp only; omega
    · simp only; omega
theorem hrs_len {p : Pl} (gp : GP p) (l : List Nat) : (hrs p l).length ≤ 1000300030001 := hAs_len gp l (Nat.le_refl _)
theorem cells5 {x y z w : AObj} {a a' b b' : Int} (h : a = a') (k : b = b') : [x, y, AObj.cells [I a, I b], z, w] = [x, y, .cells [I a', I b'], z, w] := by rw [h, k]
theorem cells6 {x y z w u : AObj} {a a' b b' : Int} (h : a = a') (k : b = b') : [x, y, z, AObj.cells [I a, I b], w, u] = [x, y, z, .cells [I a', I b'], w, u] := by rw [h, k]
theorem cells4 {x y z : AObj} {a a' b b' : Int} (h : a = a') (k : b = b') : [x, y, z, AObj.cells [I a, I b]] = [x, y, z, .cells [I a', I b']] := by rw [h, k]
set_option maxHeartbeats 400000 in
theorem rjoin_pure (a b c d : Int) (m : Bool) : APure Tryz.prog 103 [.agg [I a, I b], I c, I d, B m] (.agg [I (if m then min a c else c), I (if m then max b d else d)]) := by
  refine apure_of (rs := [.cell 8 23]) Tryz.func103 rfl rfl (Nat.le_of_ble_eq_true rfl) (by simp [AV.pureL, AV.pureB, AV.pureE, pureE_map]) (by cases m <;> rfl) fun e0 he0 => ?_
  refine aw_seq (aw_region ?_)
  refine sq_box rfl (lr _) rfl ?_
  refine sq_alloc rfl z23 ?_
  refine sq_nil (aw_seq (aw_seq (aw_region ?_)))
  refine mvr (lr _) rfl ?_
  refine sq_ev rfl (ev_not (lr _)) ?_
  refine sq_nil ?_
  refine aw_cond (lr _) (fun c1 => ?_) (fun c1 => ?_)
  · skip
    have c1' := c1
    try simp only [qq] at c1'
    refine aw_seq (aw_region ?_)
    refine mvr (lr _) rfl ?_
    refine mvr (lr _) rfl ?_
    refine sq_ev rfl (ev_build bi23 rfl) ?_
    refine sq_store rfl (lr _) (lr _) rfl rfl ty23 rfl rfl ?_
    refine sq_nil (aw_ret ?_)
    exact retQ_res (vs := [.agg _]) rfl rfl ⟨resVar_cell rfl rfl ty23 rfl, trivial⟩ (Less.eq (by simp [*]))
  · skip
    have c1' := c1
    try simp only [qq] at c1'
    refine aw_skip (aw_seq (aw_region ?_))
    refine sq_ev rfl (ev_fieldAddr fo23_0 (lr _)) ?_
    refine sq_ev rfl (ev_load (lr _) rfl ty3 rfl) ?_
    refine mvr (lr _) rfl ?_
    refine sq_ev rfl (ev_min2 (lr _) (lr _)) ?_
    refine sq_ev rfl (ev_fieldAddr fo23_1 (lr _)) ?_
    refine sq_ev rfl (ev_load (lr _) rfl ty3 rfl) ?_
    refine mvr (lr _) rfl ?_
    refine sq_ev rfl (ev_max2 (lr _) (lr _)) ?_
    refine sq_ev rfl (ev_build bi23 rfl) ?_
    refine sq_store rfl (lr _) (lr _) rfl rfl ty23 rfl rfl ?_
    refine sq_nil (aw_ret ?_)
    exact retQ_res (vs := [.agg _]) rfl rfl ⟨resVar_cell rfl rfl ty23 rfl, trivial⟩ (Less.eq (by simp [*]))
set_option maxHeartbeats 400000 in
theorem rbegins0_pure (p : Pl) (h : Hr) : APure Tryz.prog 105 [plan p, .agg (hourC h), I 0] (.tup [I (prH p h 0).1, I (prH p h 0).2]) := by
 refine apure_of (rs := [.tmp 6, .tmp 7]) Tryz.func105 rfl rfl (Nat.le_of_ble_eq_true rfl) (by simp [AV.pureL, AV.pureB, AV.pureE, pureE_map]) (rfl) fun e0 he0 => ?_
 refine aw_seq (aw_region ?_)
 refine sq_box rfl (lr _) rfl ?_
 refine sq_box rfl (lr _) rfl ?_
 refine asr (lr _) rfl ?_
 refine asr (lr _) rfl ?_
 refine sq_nil (aw_seq (aw_seq (aw_region ?_)))
 refine mvr (lr _) rfl ?_
 refine sq_ev rfl (ev_eql (lr _) (lr _)) ?_
 refine sq_nil ?_
 refine aw_cond (lr _) (fun c1 => ?_) (fun c1 => ?_)
 ·
  have c1' := c1
  try simp only [qq] at c1'
  try exact absurd c1' (by decide)
  refine aw_seq ?_
  refine aw_draw 6 mo (by kernel_rfl) ?_
  refine dr_ev rfl (ev_fieldAddr fo27_0 (lr _)) ?_
  refine dr_ev rfl (ev_load (lr _) rfl ty3 rfl) ?_
  refine dr_ev rfl (ev_index_box (k := 0) ar125 (lr _) (lr _) rfl (by decide)) ?_
  refine dr_ev rfl (ev_load (lr _) rfl ty3 rfl) ?_
  refine dr_ev rfl (ev_as (v := .raw _) (lr _)) ?_
  refine dr_ev rfl (ev_as (v := .raw _) (lr _)) ?_
  refine dr_end (sq_nil (aw_ret ?_))
  exact retQ_pure (v := .tup [.raw _, .raw _]) rfl rfl (Less.eq (by simp [prH]))
 ·
  have c1' := c1
  try simp only [qq] at c1'
  try exact absurd (by decide) c1'
set_option maxHeartbeats 400000 in
theorem rbegins1_pure (p : Pl) (h : Hr) : APure Tryz.prog 105 [plan p, .agg (hourC h), I 1] (.tup [I (prH p h 1).1, I (prH p h 1).2]) := by
 refine apure_of (rs := [.tmp 6, .tmp 7]) Tryz.func105 rfl rfl (Nat.le_of_ble_eq_true rfl) (by simp [AV.pureL, AV.pureB, AV.pureE, pureE_map]) (rfl) fun e0 he0 => ?_
 refine aw_seq (aw_region ?_)
 refine sq_box rfl (lr _) rfl ?_
 refine sq_box rfl (lr _) rfl ?_
 refine asr (lr _) rfl ?_
 refine asr (lr _) rfl ?_
 refine sq_nil (aw_seq (aw_seq (aw_region ?_)))
 refine mvr (lr _) rfl ?_
 refine sq_ev rfl (ev_eql (lr _) (lr _)) ?_
 refine sq_nil ?_
 refine aw_cond (lr _) (fun c1 => ?_) (fun c1 => ?_)
 ·
  have c1' := c1
  try simp only [qq] at c1'
  try exact absurd c1' (by decide)
 ·
  have c1' := c1
  try simp only [qq] at c1'
  try exact absurd (by decide) c1'
  refine aw_skip (aw_seq ?_)
  refine aw_draw 9 mo (by kernel_rfl) ?_
  refine dr_ev rfl (ev_mv (v := .raw _) (lr _)) ?_
  refine dr_ev rfl (ev_sub (lr _) (lr _) (wr (by omega) (by omega))) ?_
  refine dr_ev rfl (ev_index_box (k := 0) ar125 (lr _) (lr _) rfl (by decide)) ?_
  refine dr_ev rfl (ev_load (lr _) rfl ty3 rfl) ?_
  refine dr_ev rfl (ev_mv (v := .raw _) (lr _)) ?_
  refine dr_ev rfl (ev_index_box (k := 1) ar125 (lr _) (lr _) rfl (by decide)) ?_
  refine dr_ev rfl (ev_load (lr _) rfl ty3 rfl) ?_
  refine dr_ev rfl (ev_as (v := .raw _) (lr _)) ?_
  refine dr_ev rfl (ev_as (v := .raw _) (lr _)) ?_
  refine dr_end (sq_nil (aw_ret ?_))
  exact retQ_pure (v := .tup [.raw _, .raw _]) rfl rfl (Less.eq (by simp [prH]))
set_option maxHeartbeats 400000 in
theorem rbegins2_pure (p : Pl) (h : Hr) : APure Tryz.prog 105 [plan p, .agg (hourC h), I 2] (.tup [I (prH p h 2).1, I (prH p h 2).2]) := by
 refine apure_of (rs := [.tmp 6, .tmp 7]) Tryz.func105 rfl rfl (Nat.le_of_ble_eq_true rfl) (by simp [AV.pureL, AV.pureB, AV.pureE, pureE_map]) (rfl) fun e0 he0 => ?_
 refine aw_seq (aw_region ?_)
 refine sq_box rfl (lr _) rfl ?_
 refine sq_box rfl (lr _) rfl ?_
 refine asr (lr _) rfl ?_
 refine asr (lr _) rfl ?_
 refine sq_nil (aw_seq (aw_seq (aw_region ?_)))
 refine mvr (lr _) rfl ?_
 refine sq_ev rfl (ev_eql (lr _) (lr _)) ?_
 refine sq_nil ?_
 refine aw_cond (lr _) (fun c1 => ?_) (fun c1 => ?_)
 ·
  have c1' := c1
  try simp only [qq] at c1'
  try exact absurd c1' (by decide)
 ·
  have c1' := c1
  try simp only [qq] at c1'
  try exact absurd (by decide) c1'
  refine aw_skip (aw_seq ?_)
  refine aw_draw 9 mo (by kernel_rfl) ?_
  refine dr_ev rfl (ev_mv (v := .raw _) (lr _)) ?_
  refine dr_ev rfl (ev_sub (lr _) (lr _) (wr (by omega) (by omega))) ?_
  refine dr_ev rfl (ev_index_box (k := 1) ar125 (lr _) (lr _) rfl (by decide)) ?_
  refine dr_ev rfl (ev_load (lr _) rfl ty3 rfl) ?_
  refine dr_ev rfl (ev_mv (v := .raw _) (lr _)) ?_
  refine dr_ev rfl (ev_index_box (k := 2) ar125 (lr _) (lr _) rfl (by decide)) ?_
  refine dr_ev rfl (ev_load (lr _) rfl ty3 rfl) ?_
  refine dr_ev rfl (ev_as (v := .raw _) (lr _)) ?_
  refine dr_ev rfl (ev_as (v := .raw _) (lr _)) ?_
  refine dr_end (sq_nil (aw_ret ?_))
  exact retQ_pure (v := .tup [.raw _, .raw _]) rfl rfl (Less.eq (by simp [prH]))
theorem rbegins_pure (p : Pl) (h : Hr) (k : Nat) (hk : k < 3) : APure Tryz.prog 105 [plan p, .agg (hourC h), I k] (.tup [I (prH p h k).1, I (prH p h k).2]) := by
  rcases k with _ | _ | _ | k
  · exact rbegins0_pure p h
  · exact rbegins1_pure p h
  · exact rbegins2_pure p h
  · omega
set_option maxHeartbeats 2000000 in
theorem rTimes_pure (p : Pl) (n k : Nat) (gp : GP p) (wp : WP p) (hn : n < p.scenes.length) (hk1 : (scn p n).part = (k : Int)) (hk3 : k < 3) : APure Tryz.prog 36 [plan p, I n] (.tup [.agg [I (wd (tmL p n (tmV p n k) (choicesC p).length)).1, I (wd (tmL p n (tmV p n k) (choicesC p).length)).2], B (decide (0 < (tmL p n (tmV p n k) (choicesC p).length).length))]) := by
 refine apure_of (rs := [.cell 4 23, .tmp 5]) Tryz.func36 rfl rfl (Nat.le_of_ble_eq_true rfl) (by simp [AV.pureL, AV.pureB, AV.pureE, pureE_map]) (rfl) fun e0 he0 => ?_
 refine aw_seq (aw_region ?_)
 refine sq_box rfl (lr _) rfl ?_
 refine sq_alloc rfl z23 ?_
 refine asr (lr _) rfl ?_
 refine sq_nil (aw_seq ?_)
 have he := scn_eq hn
 have hk2 : (p.scenes[n]).part = (k : Int) := he ▸ hk1
 have hcl := choicesC_len gp
 have hgl := gp.len
 have hlv := gp.least hn
 have hmv := gp.most hn
 rw [he] at hlv hmv
 refine aw_region ?_
 refine sq_ev rfl (ev_load_agg (lr _) rfl ty27 rfl) ?_
 refine sq_ev rfl (ev_call en25 (lr _) (choices_pure gp) ⟨lr _, trivial⟩) ?_
 refine ass rfl (lr _) ?_
 refine sq_nil (aw_seq (aw_region ?_))
 refine sq_ev rfl (ev_fieldAddr fo27_3 (lr _)) ?_
 refine sq_ev rfl (ev_load (lr _) rfl ty25 rfl) ?_
 refine mvr (lr _) rfl ?_
 refine sq_ev rfl (ev_index_map sl25 (lr _) (lr _) rfl (by omega)) ?_
 refine sq_ev rfl (ev_fieldAddr_i fo84_0 (lr _)) ?_
 refine sq_ev rfl (ev_less (ev_load_i (lr _) ty3 rfl) (less_int hk2)) ?_
 refine asr (lr _) rfl ?_
 refine sq_nil (aw_seq (aw_region ?_))
 refine sq_alloc rfl z23 ?_
 refine sq_nil (aw_seq (aw_region ?_))
 refine asr (lr _) rfl ?_
 refine sq_nil (aw_seq (aw_seq (aw_region ?_)))
 refine asr (lr _) rfl ?_
 refine sq_nil (aw_block ?_)
 refine aw_loopk (ι := { i : Nat // i ≤ (choicesC p).length }) [1, 2, 4, 6, 7, 8] (fun i => [(10, I i.1), (9, B (decide (0 < (tmL p n (tmV p n k) i.1).length)))]) (fun H i => H.set 2 (.cells [I (wd (tmL p n (tmV p n k) i.1)).1, I (wd (tmL p n (tmV p n k) i.1)).2])) (fun i => (choicesC p).length - i.1) (⟨0, Nat.zero_le _⟩) ⟨lr _, lr _, lr _, lr _, lr _, lr _, lr _, lr _, trivial⟩ rfl ?_
 rintro ⟨i, hi⟩
 dsimp only [keepS, St.put, sget, slotsOf, List.map_cons, List.map_nil, List.cons_append, List.nil_append, List.length_cons, List.length_nil, Nat.reduceBEq, Nat.reduceAdd, cond_true, cond_false]
 refine aw_seq (aw_seq (aw_region ?_))
 refine mvr (lr _) rfl ?_
 refine mvs rfl (lr _) ?_
 refine sq_ev rfl (ev_len_map sl30 (lr _)) ?_
 refine sq_ev rfl (ev_lss (lr _) (lr _)) ?_
 refine sq_nil ?_
 refine aw_cond (lr _) (fun c1 => ?_) (fun c1 => ?_)
 ·
  have c1' := c1
  try simp only [qq] at c1'
  have hi' : i < (choicesC p).length := by omega
  have cv := choicesC_mem gp _ (List.getElem_mem hi')
  refine aw_skip (aw_seq (aw_block (aw_seq (aw_seq (aw_region ?_)))))
  refine mvs rfl (lr _) ?_
  refine mvr (lr _) rfl ?_
  refine sq_ev rfl (ev_index_map sl30 (lr _) (lr _) rfl (by omega)) ?_
  refine sq_ev rfl (ev_load_i (lr _) ty34 rfl) ?_
  refine mvr (lr _) rfl ?_
  refine sq_ev rfl (ev_call en62 (lr _) (has_nats (choicesC p)[i] n (by have := cv.len; omega)) ⟨lr _, lr _, trivial⟩) ?_
  refine sq_ev rfl (ev_not (lr _)) ?_
  refine sq_nil ?_
  refine aw_cond (lr _) (fun c2 => ?_) (fun c2 => ?_)
  ·
   have c2' := c2
   try simp only [qq] at c2'
   have hno : ¬ n ∈ (choicesC p)[i] := by simpa using c2'
   have eV1 : (wd (tmL p n (tmV p n k) i)).1 = (wd (tmL p n (tmV p n k) (i + 1))).1 := by rw [tmL_no (tmV p n k) hi' hno]
   have eV2 : (wd (tmL p n (tmV p n k) i)).2 = (wd (tmL p n (tmV p n k) (i + 1))).2 := by rw [tmL_no (tmV p n k) hi' hno]
   have eF : decide (0 < (tmL p n (tmV p n k) i).length) = decide (0 < (tmL p n (tmV p n k) (i + 1)).length) := by rw [tmL_no (tmV p n k) hi' hno]
   refine aw_exit (aw_region ?_)
   refine mvr (lr _) rfl ?_
   refine sq_ev rfl (ev_add (lr _) (lr _) (wr (by omega) (by omega))) ?_
   refine asr (lr _) rfl ?_
   refine sq_nil ?_
   exact ⟨⟨i + 1, by omega⟩, by simp only; omega, Sub.fin 3 ⟨lr _, less_b eF, lr _, lr _, lr _, lr _, lr _, lr _, trivial⟩ (cells3 eV1 eV2) (by simp [slotsIn, objsIn, sget, keepS, AObj.inB, AV.inB, AV.inL, AV.inE, inE_map, inE_ints, inE_sc, -List.map_append, -List.map_take, -List.map_map]) (by simp [slotsIn, objsIn, sget, keepS, AObj.inB, AV.inB, AV.inL, AV.inE, inE_map, inE_ints, inE_sc, -List.map_append, -List.map_take, -List.map_map]) (by simp [he0])⟩
  ·
   have c2' := c2
   try simp only [qq] at c2'
   have hyes : n ∈ (choicesC p)[i] := by simpa using c2'
   have eX := tmL_yes (tmV p n k) hi' hyes
   have b1 := lo_bd' gp cv k 0 ((n : Int) - 1)
   have b2 := hi_bd' gp cv k 0 ((n : Int) - 1)
   have b3 := lo_bd' gp cv k (n : Int) 10
   have b4 := hi_bd' gp cv k (n : Int) 10
   have hhl := hrs_len gp (choicesC p)[i]
   refine aw_skip (aw_seq ?_)
   refine aw_drawc [17, 18] [19, 20] _ mo (by kernel_rfl) (HSub.refl _) ?_
   refine dc_ev rfl (ev_load_agg (lr _) rfl ty27 rfl) ?_
   refine dc_ev rfl (ev_mv (v := .sl _ _) (lr _)) ?_
   refine dc_ev rfl (ev_mv (v := .raw _) (lr _)) ?_
   refine dc_ev rfl (ev_index_map sl30 (lr _) (lr _) rfl (by omega)) ?_
   refine dc_ev rfl (ev_load_i (lr _) ty34 rfl) ?_
   refine dc_ev rfl (ev_mv (v := .raw _) (lr _)) ?_
   refine dc_ev rfl (ev_mv (v := .raw _) (lr _)) ?_
   refine dc_ev rfl (ev_sub (lr _) (lr _) (wr (by omega) (by omega))) ?_
   refine dc_ev rfl (ev_call en104 (lr _) (long_pure p (choicesC p)[i] k 0 ((n : Int) - 1) gp cv) ⟨lr _, lr _, lr _, lr _, lr _, trivial⟩) ?_
   refine dc_ev rfl (ev_load_agg (lr _) rfl ty27 rfl) ?_
   refine dc_ev rfl (ev_mv (v := .sl _ _) (lr _)) ?_
   refine dc_ev rfl (ev_mv (v := .raw _) (lr _)) ?_
   refine dc_ev rfl (ev_index_map sl30 (lr _) (lr _) rfl (by omega)) ?_
   refine dc_ev rfl (ev_load_i (lr _) ty34 rfl) ?_
   refine dc_ev rfl (ev_mv (v := .raw _) (lr _)) ?_
   refine dc_ev rfl (ev_mv (v := .raw _) (lr _)) ?_
   refine dc_ev rfl (ev_call en104 (lr _) (long_pure p (choicesC p)[i] k (n : Int) 10 gp cv) ⟨lr _, lr _, lr _, lr _, lr _, trivial⟩) ?_
   refine dc_alloc rfl rfl z23 ?_
   refine dc_alloc rfl rfl z23 ?_
   refine dc_eff rfl rfl (eff_store rfl (lr _) (lr _) rfl rfl ty23 rfl rfl) (by apply HL.sub; repeat' (first | exact HL.nil _ | apply HL.same | apply HL.tok)) ?_
   refine dc_eff rfl rfl (eff_store rfl (lr _) (lr _) rfl rfl ty23 rfl rfl) (by apply HL.sub; repeat' (first | exact HL.nil _ | apply HL.same | apply HL.tok)) ?_
   refine dc_nil (aw_seq ?_)
   refine aw_draw 7 mo (by kernel_rfl) ?_
   refine dr_ev rfl (ev_load_agg (lr _) rfl ty27 rfl) ?_
   refine dr_ev rfl (ev_mv (v := .sl _ _) (lr _)) ?_
   refine dr_ev rfl (ev_mv (v := .raw _) (lr _)) ?_
   refine dr_ev rfl (ev_index_map sl30 (lr _) (lr _) rfl (by omega)) ?_
   refine dr_ev rfl (ev_load_i (lr _) ty34 rfl) ?_
   refine dr_ev rfl (ev_call en102 (lr _) (hours_pure p (choicesC p)[i] gp cv) ⟨lr _, lr _, trivial⟩) ?_
   refine dr_ev rfl (ev_as (v := .sl _ _) (lr _)) ?_
   refine dr_end (sq_nil (aw_seq (aw_region ?_)))
   refine asr (lr _) rfl ?_
   refine sq_nil (aw_block ?_)
   refine aw_loopk (ι := { q : Nat // q ≤ (hrs p (choicesC p)[i]).length }) [1, 2, 4, 6, 7, 8, 10, 11, 12, 13] (fun q => [(14, I q.1), (9, B (decide (0 < (tmL p n (tmV p n k) i ++ ((hrs p (choicesC p)[i]).take q.1).map (tmV p n k (choicesC p)[i])).length)))]) (fun H q => H.set 2 (.cells [I (wd (tmL p n (tmV p n k) i ++ ((hrs p (choicesC p)[i]).take q.1).map (tmV p n k (choicesC p)[i]))).1, I (wd (tmL p n (tmV p n k) i ++ ((hrs p (choicesC p)[i]).take q.1).map (tmV p n k (choicesC p)[i]))).2])) (fun q => (hrs p (choicesC p)[i]).length - q.1) (⟨0, Nat.zero_le _⟩) ⟨lr _, (by exact less_b (by simp)), lr _, lr _, lr _, lr _, lr _, lr _, lr _, lr _, lr _, lr _, trivial⟩ (by simp only [List.take_zero, List.map_nil, List.append_nil]; rfl) ?_
   rintro ⟨q, hq⟩
   dsimp only [keepS, St.put, sget, slotsOf, List.map_cons, List.map_nil, List.cons_append, List.nil_append, List.length_cons, List.length_nil, Nat.reduceBEq, Nat.reduceAdd, cond_true, cond_false]
   refine aw_seq (aw_seq (aw_region ?_))
   refine mvr (lr _) rfl ?_
   refine mvs rfl (lr _) ?_
   refine sq_ev rfl (ev_len_map sl122 (lr _)) ?_
   refine sq_ev rfl (ev_lss (lr _) (lr _)) ?_
   refine sq_nil ?_
   refine aw_cond (lr _) (fun c3 => ?_) (fun c3 => ?_)
   ·
    have c3' := c3
    try simp only [qq] at c3'
    have hq' : q < (hrs p (choicesC p)[i]).length := by omega
    have hbd := hrs_bd gp wp cv (List.getElem_mem hq') k
    have eQ : (tmL p n (tmV p n k) i ++ ((hrs p (choicesC p)[i]).take (q + 1)).map (tmV p n k (choicesC p)[i])) = (tmL p n (tmV p n k) i ++ ((hrs p (choicesC p)[i]).take q).map (tmV p n k (choicesC p)[i])) ++ [tmV p n k (choicesC p)[i] (hrs p (choicesC p)[i])[q]] := by rw [map_take_succ _ hq', List.append_assoc]
    have eF : true = decide (0 < (tmL p n (tmV p n k) i ++ ((hrs p (choicesC p)[i]).take (q + 1)).map (tmV p n k (choicesC p)[i])).length) := (decide_eq_true (by rw [eQ, List.length_append, List.length_singleton]; omega)).symm
    have eW1 : (if decide (0 < (tmL p n (tmV p n k) i ++ ((hrs p (choicesC p)[i]).take q).map (tmV p n k (choicesC p)[i])).length) = true then min (wd (tmL p n (tmV p n k) i ++ ((hrs p (choicesC p)[i]).take q).map (tmV p n k (choicesC p)[i]))).1 (tmV p n k (choicesC p)[i] (hrs p (choicesC p)[i])[q]).1 else (tmV p n k (choicesC p)[i] (hrs p (choicesC p)[i])[q]).1) = (wd (tmL p n (tmV p n k) i ++ ((hrs p (choicesC p)[i]).take (q + 1)).map (tmV p n k (choicesC p)[i]))).1 := by rw [eQ, wd_snoc]; split <;> rfl
    have eW2 : (if decide (0 < (tmL p n (tmV p n k) i ++ ((hrs p (choicesC p)[i]).take q).map (tmV p n k (choicesC p)[i])).length) = true then max (wd (tmL p n (tmV p n k) i ++ ((hrs p (choicesC p)[i]).take q).map (tmV p n k (choicesC p)[i]))).2 (tmV p n k (choicesC p)[i] (hrs p (choicesC p)[i])[q]).2 else (tmV p n k (choicesC p)[i] (hrs p (choicesC p)[i])[q]).2) = (wd (tmL p n (tmV p n k) i ++ ((hrs p (choicesC p)[i]).take (q + 1)).map (tmV p n k (choicesC p)[i]))).2 := by rw [eQ, wd_snoc]; split <;> rfl
    refine aw_skip (aw_seq (aw_block (aw_seq ?_)))
    refine aw_draw 12 mo (by kernel_rfl) ?_
    refine dr_ev rfl (ev_load_agg (lr _) rfl ty27 rfl) ?_
    refine dr_ev rfl (ev_mv (v := .sl _ _) (lr _)) ?_
    refine dr_ev rfl (ev_mv (v := .raw _) (lr _)) ?_
    refine dr_ev rfl (ev_index_map sl122 (lr _) (lr _) rfl (by omega)) ?_
    refine dr_ev rfl (ev_load_agg_i (lr _) ty125 (Nat.le_of_ble_eq_true rfl)) ?_
    refine dr_ev rfl (ev_mv (v := .raw _) (lr _)) ?_
    refine dr_ev rfl (ev_call en105 (lr _) (rbegins_pure p (hrs p (choicesC p)[i])[q] k hk3) ⟨lr _, lr _, lr _, trivial⟩) ?_
    refine dr_ev rfl (ev_mv (v := .tup _) (lr _)) ?_
    refine dr_ev rfl (ev_extract (lr _) rfl) ?_
    refine dr_ev rfl (ev_extract (lr _) rfl) ?_
    refine dr_ev rfl (ev_as (v := .raw _) (lr _)) ?_
    refine dr_ev rfl (ev_as (v := .raw _) (lr _)) ?_
    refine dr_end (sq_nil (aw_seq (aw_region ?_)))
    refine sq_ev rfl (ev_load_agg (lr _) rfl ty23 rfl) ?_
    refine mvr (lr _) rfl ?_
    refine sq_ev rfl (ev_fieldAddr fo23_0 (lr _)) ?_
    refine sq_ev rfl (ev_load (lr _) rfl ty3 rfl) ?_
    refine sq_ev rfl (ev_add (lr _) (lr _) (wr (by omega) (by omega))) ?_
    refine mvr (lr _) rfl ?_
    refine sq_ev rfl (ev_fieldAddr fo23_1 (lr _)) ?_
    refine sq_ev rfl (ev_load (lr _) rfl ty3 rfl) ?_
    refine sq_ev rfl (ev_sub (lr _) (lr _) (wr (by omega) (by omega))) ?_
    refine sq_ev rfl (ev_max2 (lr _) (lr _)) ?_
    refine mvr (lr _) rfl ?_
    refine sq_ev rfl (ev_fieldAddr fo23_1 (lr _)) ?_
    refine sq_ev rfl (ev_load (lr _) rfl ty3 rfl) ?_
    refine sq_ev rfl (ev_add (lr _) (lr _) (wr (by omega) (by omega))) ?_
    refine mvr (lr _) rfl ?_
    refine sq_ev rfl (ev_fieldAddr fo23_0 (lr _)) ?_
    refine sq_ev rfl (ev_load (lr _) rfl ty3 rfl) ?_
    refine sq_ev rfl (ev_sub (lr _) (lr _) (wr (by omega) (by omega))) ?_
    refine sq_ev rfl (ev_min2 (lr _) (lr _)) ?_
    refine mvr (lr _) rfl ?_
    refine sq_ev rfl (ev_call en103 (lr _) (rjoin_pure _ _ _ _ _) ⟨lr _, lr _, lr _, lr _, trivial⟩) ?_
    refine sq_store rfl (lr _) (lr _) rfl rfl ty23 rfl rfl ?_
    refine sq_nil (aw_region ?_)
    refine asr (lr _) rfl ?_
    refine sq_nil (aw_region ?_)
    refine mvr (lr _) rfl ?_
    refine sq_ev rfl (ev_add (lr _) (lr _) (wr (by omega) (by omega))) ?_
    refine asr (lr _) rfl ?_
    refine sq_nil ?_
    exact ⟨⟨q + 1, by omega⟩, by simp only; omega, Sub.fin 5 ⟨lr _, less_b eF, lr _, lr _, lr _, lr _, lr _, lr _, lr _, lr _, lr _, lr _, trivial⟩ (cells5 eW1 eW2) (by simp [slotsIn, objsIn, sget, keepS, AObj.inB, AV.inB, AV.inL, AV.inE, inE_map, inE_ints, inE_sc, -List.map_append, -List.map_take, -List.map_map]) (by simp [slotsIn, objsIn, sget, keepS, AObj.inB, AV.inB, AV.inL, AV.inE, inE_map, inE_ints, inE_sc, -List.map_append, -List.map_take, -List.map_map]) (by simp [he0])⟩
   ·
    have c3' := c3
    try simp only [qq] at c3'
    obtain rfl : q = (hrs p (choicesC p)[i]).length := by omega
    have eV1 : (wd (tmL p n (tmV p n k) i ++ ((hrs p (choicesC p)[i]).take (hrs p (choicesC p)[i]).length).map (tmV p n k (choicesC p)[i]))).1 = (wd (tmL p n (tmV p n k) (i + 1))).1 := by rw [eX]
    have eV2 : (wd (tmL p n (tmV p n k) i ++ ((hrs p (choicesC p)[i]).take (hrs p (choicesC p)[i]).length).map (tmV p n k (choicesC p)[i]))).2 = (wd (tmL p n (tmV p n k) (i + 1))).2 := by rw [eX]
    have eF : decide (0 < (tmL p n (tmV p n k) i ++ ((hrs p (choicesC p)[i]).take (hrs p (choicesC p)[i]).length).map (tmV p n k (choicesC p)[i])).length) = decide (0 < (tmL p n (tmV p n k) (i + 1)).length) := by rw [eX]
    refine aw_exit (aw_region ?_)
    refine mvr (lr _) rfl ?_
    refine sq_ev rfl (ev_add (lr _) (lr _) (wr (by omega) (by omega))) ?_
    refine asr (lr _) rfl ?_
    refine sq_nil ?_
    exact ⟨⟨i + 1, by omega⟩, by simp only; omega, Sub.fin 3 ⟨lr _, less_b eF, lr _, lr _, lr _, lr _, lr _, lr _, trivial⟩ (cells3 eV1 eV2) (by simp [slotsIn, objsIn, sget, keepS, AObj.inB, AV.inB, AV.inL, AV.inE, inE_map, inE_ints, inE_sc, -List.map_append, -List.map_take, -List.map_map]) (by simp [slotsIn, objsIn, sget, keepS, AObj.inB, AV.inB, AV.inL, AV.inE, inE_map, inE_ints, inE_sc, -List.map_append, -List.map_take, -List.map_map]) (by simp [he0])⟩
 ·
  have c1' := c1
  try simp only [qq] at c1'
  obtain rfl : i = (choicesC p).length := by omega
  refine aw_exit (aw_seq (aw_region ?_))
  refine sq_ev rfl (ev_load_agg (lr _) rfl ty23 rfl) ?_
  refine mvr (lr _) rfl ?_
  refine sq_store rfl (lr _) (lr _) rfl rfl ty23 rfl rfl ?_
  refine asr (lr _) rfl ?_
  refine sq_nil (aw_ret ?_)
  exact retQ_res (vs := [.agg _, .raw _]) rfl rfl ⟨resVar_cell rfl rfl ty23 rfl, resVar_tmp _ _ _, trivial⟩ (Less.eq (by rfl))
set_option maxHeartbeats 2000000 in
theorem rLengths_pure (p : Pl) (n k : Nat) (gp : GP p) (wp : WP p) (hn : n < p.scenes.length) (hk1 : (scn p n).part = (k : Int)) (hk3 : k < 3) : APure Tryz.prog 37 [plan p, I n] (.tup [.agg [I (wd (tmL p n (lnV p n k) (choicesC p).length)).1, I (wd (tmL p n (lnV p n k) (choicesC p).length)).2], B (decide (0 < (tmL p n (lnV p n k) (choicesC p).length).length))]) := by
 refine apure_of (rs := [.cell 4 23, .tmp 5]) Tryz.func37 rfl rfl (Nat.le_of_ble_eq_true rfl) (by simp [AV.pureL, AV.pureB, AV.pureE, pureE_map]) (rfl) fun e0 he0 => ?_
 refine aw_seq (aw_region ?_)
 refine sq_box rfl (lr _) rfl ?_
 refine sq_alloc rfl z23 ?_
 refine asr (lr _) rfl ?_
 refine sq_nil (aw_seq ?_)
 have he := scn_eq hn
 have hk2 : (p.scenes[n]).part = (k : Int) := he ▸ hk1
 have hcl := choicesC_len gp
 have hgl := gp.len
 have hlv := gp.least hn
 have hmv := gp.most hn
 rw [he] at hlv hmv
 refine aw_region ?_
 refine sq_ev rfl (ev_load_agg (lr _) rfl ty27 rfl) ?_
 refine sq_ev rfl (ev_call en25 (lr _) (choices_pure gp) ⟨lr _, trivial⟩) ?_
 refine ass rfl (lr _) ?_
 refine sq_nil (aw_seq (aw_region ?_))
 refine sq_ev rfl (ev_fieldAddr fo27_3 (lr _)) ?_
 refine sq_ev rfl (ev_load (lr _) rfl ty25 rfl) ?_
 refine mvr (lr _) rfl ?_
 refine sq_ev rfl (ev_index_map sl25 (lr _) (lr _) rfl (by omega)) ?_
 refine sq_ev rfl (ev_load_agg_i (lr _) ty84 (Nat.le_of_ble_eq_true rfl)) ?_
 refine sq_alloc rfl z84 ?_
 refine sq_store rfl (lr _) (lr _) rfl rfl ty84 rfl rfl ?_
 refine sq_nil (aw_seq (aw_region ?_))
 refine sq_alloc rfl z23 ?_
 refine sq_nil (aw_seq (aw_region ?_))
 refine asr (lr _) rfl ?_
 refine sq_nil (aw_seq (aw_seq (aw_region ?_)))
 refine asr (lr _) rfl ?_
 refine sq_nil (aw_block ?_)
 refine aw_loopk (ι := { i : Nat // i ≤ (choicesC p).length }) [1, 2, 4, 6, 7, 8] (fun i => [(10, I i.1), (9, B (decide (0 < (tmL p n (lnV p n k) i.1).length)))]) (fun H i => H.set 3 (.cells [I (wd (tmL p n (lnV p n k) i.1)).1, I (wd (tmL p n (lnV p n k) i.1)).2])) (fun i => (choicesC p).length - i.1) (⟨0, Nat.zero_le _⟩) ⟨lr _, lr _, lr _, lr _, lr _, lr _, lr _, lr _, trivial⟩ rfl ?_
 rintro ⟨i, hi⟩
 dsimp only [keepS, St.put, sget, slotsOf, List.map_cons, List.map_nil, List.cons_append, List.nil_append, List.length_cons, List.length_nil, Nat.reduceBEq, Nat.reduceAdd, cond_true, cond_false]
 refine aw_seq (aw_seq (aw_region ?_))
 refine mvr (lr _) rfl ?_
 refine mvs rfl (lr _) ?_
 refine sq_ev rfl (ev_len_map sl30 (lr _)) ?_
 refine sq_ev rfl (ev_lss (lr _) (lr _)) ?_
 refine sq_nil ?_
 refine aw_cond (lr _) (fun c1 => ?_) (fun c1 => ?_)
 ·
  have c1' := c1
  try simp only [qq] at c1'
  have hi' : i < (choicesC p).length := by omega
  have cv := choicesC_mem gp _ (List.getElem_mem hi')
  refine aw_skip (aw_seq (aw_block (aw_seq (aw_seq (aw_region ?_)))))
  refine mvs rfl (lr _) ?_
  refine mvr (lr _) rfl ?_
  refine sq_ev rfl (ev_index_map sl30 (lr _) (lr _) rfl (by omega)) ?_
  refine sq_ev rfl (ev_load_i (lr _) ty34 rfl) ?_
  refine mvr (lr _) rfl ?_
  refine sq_ev rfl (ev_call en62 (lr _) (has_nats (choicesC p)[i] n (by have := cv.len; omega)) ⟨lr _, lr _, trivial⟩) ?_
  refine sq_ev rfl (ev_not (lr _)) ?_
  refine sq_nil ?_
  refine aw_cond (lr _) (fun c2 => ?_) (fun c2 => ?_)
  ·
   have c2' := c2
   try simp only [qq] at c2'
   have hno : ¬ n ∈ (choicesC p)[i] := by simpa using c2'
   have eV1 : (wd (tmL p n (lnV p n k) i)).1 = (wd (tmL p n (lnV p n k) (i + 1))).1 := by rw [tmL_no (lnV p n k) hi' hno]
   have eV2 : (wd (tmL p n (lnV p n k) i)).2 = (wd (tmL p n (lnV p n k) (i + 1))).2 := by rw [tmL_no (lnV p n k) hi' hno]
   have eF : decide (0 < (tmL p n (lnV p n k) i).length) = decide (0 < (tmL p n (lnV p n k) (i + 1)).length) := by rw [tmL_no (lnV p n k) hi' hno]
   refine aw_exit (aw_region ?_)
   refine mvr (lr _) rfl ?_
   refine sq_ev rfl (ev_add (lr _) (lr _) (wr (by omega) (by omega))) ?_
   refine asr (lr _) rfl ?_
   refine sq_nil ?_
   exact ⟨⟨i + 1, by omega⟩, by simp only; omega, Sub.fin 4 ⟨lr _, less_b eF, lr _, lr _, lr _, lr _, lr _, lr _, trivial⟩ (cells4 eV1 eV2) (by simp [slotsIn, objsIn, sget, keepS, AObj.inB, AV.inB, AV.inL, AV.inE, inE_map, inE_ints, inE_sc, -List.map_append, -List.map_take, -List.map_map]) (by simp [slotsIn, objsIn, sget, keepS, AObj.inB, AV.inB, AV.inL, AV.inE, inE_map, inE_ints, inE_sc, -List.map_append, -List.map_take, -List.map_map]) (by simp [he0])⟩
  ·
   have c2' := c2
   try simp only [qq] at c2'
   have hyes : n ∈ (choicesC p)[i] := by simpa using c2'
   have eX := tmL_yes (lnV p n k) hi' hyes
   have b1 := lo_bd' gp cv k 0 ((n : Int) - 1)
   have b2 := hi_bd' gp cv k 0 ((n : Int) - 1)
   have b3 := lo_bd' gp cv k ((n : Int) + 1) 10
   have b4 := hi_bd' gp cv k ((n : Int) + 1) 10
   have hhl := hrs_len gp (choicesC p)[i]
   refine aw_skip (aw_seq ?_)
   refine aw_drawc [20, 21] [22, 23] _ mo (by kernel_rfl) (HSub.refl _) ?_
   refine dc_ev rfl (ev_load_agg (lr _) rfl ty27 rfl) ?_
   refine dc_ev rfl (ev_mv (v := .sl _ _) (lr _)) ?_
   refine dc_ev rfl (ev_mv (v := .raw _) (lr _)) ?_
   refine dc_ev rfl (ev_index_map sl30 (lr _) (lr _) rfl (by omega)) ?_
   refine dc_ev rfl (ev_load_i (lr _) ty34 rfl) ?_
   refine dc_ev rfl (ev_fieldAddr fo84_0 (lr _)) ?_
   refine dc_ev rfl (ev_less (ev_load (lr _) rfl ty3 rfl) (less_int hk2)) ?_
   refine dc_ev rfl (ev_mv (v := .raw _) (lr _)) ?_
   refine dc_ev rfl (ev_sub (lr _) (lr _) (wr (by omega) (by omega))) ?_
   refine dc_ev rfl (ev_call en104 (lr _) (long_pure p (choicesC p)[i] k 0 ((n : Int) - 1) gp cv) ⟨lr _, lr _, lr _, lr _, lr _, trivial⟩) ?_
   refine dc_ev rfl (ev_load_agg (lr _) rfl ty27 rfl) ?_
   refine dc_ev rfl (ev_mv (v := .sl _ _) (lr _)) ?_
   refine dc_ev rfl (ev_mv (v := .raw _) (lr _)) ?_
   refine dc_ev rfl (ev_index_map sl30 (lr _) (lr _) rfl (by omega)) ?_
   refine dc_ev rfl (ev_load_i (lr _) ty34 rfl) ?_
   refine dc_ev rfl (ev_fieldAddr fo84_0 (lr _)) ?_
   refine dc_ev rfl (ev_less (ev_load (lr _) rfl ty3 rfl) (less_int hk2)) ?_
   refine dc_ev rfl (ev_mv (v := .raw _) (lr _)) ?_
   refine dc_ev rfl (ev_add (lr _) (lr _) (wr (by omega) (by omega))) ?_
   refine dc_ev rfl (ev_call en104 (lr _) (long_pure p (choicesC p)[i] k ((n : Int) + 1) 10 gp cv) ⟨lr _, lr _, lr _, lr _, lr _, trivial⟩) ?_
   refine dc_alloc rfl rfl z23 ?_
   refine dc_alloc rfl rfl z23 ?_
   refine dc_eff rfl rfl (eff_store rfl (lr _) (lr _) rfl rfl ty23 rfl rfl) (by apply HL.sub; repeat' (first | exact HL.nil _ | apply HL.same | apply HL.tok)) ?_
   refine dc_eff rfl rfl (eff_store rfl (lr _) (lr _) rfl rfl ty23 rfl rfl) (by apply HL.sub; repeat' (first | exact HL.nil _ | apply HL.same | apply HL.tok)) ?_
   refine dc_nil (aw_seq ?_)
   refine aw_draw 7 mo (by kernel_rfl) ?_
   refine dr_ev rfl (ev_load_agg (lr _) rfl ty27 rfl) ?_
   refine dr_ev rfl (ev_mv (v := .sl _ _) (lr _)) ?_
   refine dr_ev rfl (ev_mv (v := .raw _) (lr _)) ?_
   refine dr_ev rfl (ev_index_map sl30 (lr _) (lr _) rfl (by omega)) ?_
   refine dr_ev rfl (ev_load_i (lr _) ty34 rfl) ?_
   refine dr_ev rfl (ev_call en102 (lr _) (hours_pure p (choicesC p)[i] gp cv) ⟨lr _, lr _, trivial⟩) ?_
   refine dr_ev rfl (ev_as (v := .sl _ _) (lr _)) ?_
   refine dr_end (sq_nil (aw_seq (aw_region ?_)))
   refine asr (lr _) rfl ?_
   refine sq_nil (aw_block ?_)
   refine aw_loopk (ι := { q : Nat // q ≤ (hrs p (choicesC p)[i]).length }) [1, 2, 4, 6, 7, 8, 10, 11, 12, 13] (fun q => [(14, I q.1), (9, B (decide (0 < (tmL p n (lnV p n k) i ++ ((hrs p (choicesC p)[i]).take q.1).map (lnV p n k (choicesC p)[i])).length)))]) (fun H q => H.set 3 (.cells [I (wd (tmL p n (lnV p n k) i ++ ((hrs p (choicesC p)[i]).take q.1).map (lnV p n k (choicesC p)[i]))).1, I (wd (tmL p n (lnV p n k) i ++ ((hrs p (choicesC p)[i]).take q.1).map (lnV p n k (choicesC p)[i]))).2])) (fun q => (hrs p (choicesC p)[i]).length - q.1) (⟨0, Nat.zero_le _⟩) ⟨lr _, (by exact less_b (by simp)), lr _, lr _, lr _, lr _, lr _, lr _, lr _, lr _, lr _, lr _, trivial⟩ (by simp only [List.take_zero, List.map_nil, List.append_nil]; rfl) ?_
   rintro ⟨q, hq⟩
   dsimp only [keepS, St.put, sget, slotsOf, List.map_cons, List.map_nil, List.cons_append, List.nil_append, List.length_cons, List.length_nil, Nat.reduceBEq, Nat.reduceAdd, cond_true, cond_false]
   refine aw_seq (aw_seq (aw_region ?_))
   refine mvr (lr _) rfl ?_
   refine mvs rfl (lr _) ?_
   refine sq_ev rfl (ev_len_map sl122 (lr _)) ?_
   refine sq_ev rfl (ev_lss (lr _) (lr _)) ?_
   refine sq_nil ?_
   refine aw_cond (lr _) (fun c3 => ?_) (fun c3 => ?_)
   ·
    have c3' := c3
    try simp only [qq] at c3'
    have hq' : q < (hrs p (choicesC p)[i]).length := by omega
    have hbd := hrs_bd gp wp cv (List.getElem_mem hq') k
    have eQ : (tmL p n (lnV p n k) i ++ ((hrs p (choicesC p)[i]).take (q + 1)).map (lnV p n k (choicesC p)[i])) = (tmL p n (lnV p n k) i ++ ((hrs p (choicesC p)[i]).take q).map (lnV p n k (choicesC p)[i])) ++ [lnV p n k (choicesC p)[i] (hrs p (choicesC p)[i])[q]] := by rw [map_take_succ _ hq', List.append_assoc]
    have eF : true = decide (0 < (tmL p n (lnV p n k) i ++ ((hrs p (choicesC p)[i]).take (q + 1)).map (lnV p n k (choicesC p)[i])).length) := (decide_eq_true (by rw [eQ, List.length_append, List.length_singleton]; omega)).symm
    have eW1 : (if decide (0 < (tmL p n (lnV p n k) i ++ ((hrs p (choicesC p)[i]).take q).map (lnV p n k (choicesC p)[i])).length) = true then min (wd (tmL p n (lnV p n k) i ++ ((hrs p (choicesC p)[i]).take q).map (lnV p n k (choicesC p)[i]))).1 (lnV p n k (choicesC p)[i] (hrs p (choicesC p)[i])[q]).1 else (lnV p n k (choicesC p)[i] (hrs p (choicesC p)[i])[q]).1) = (wd (tmL p n (lnV p n k) i ++ ((hrs p (choicesC p)[i]).take (q + 1)).map (lnV p n k (choicesC p)[i]))).1 := by rw [eQ, wd_snoc]; split <;> rfl
    have eW2 : (if decide (0 < (tmL p n (lnV p n k) i ++ ((hrs p (choicesC p)[i]).take q).map (lnV p n k (choicesC p)[i])).length) = true then max (wd (tmL p n (lnV p n k) i ++ ((hrs p (choicesC p)[i]).take q).map (lnV p n k (choicesC p)[i]))).2 (lnV p n k (choicesC p)[i] (hrs p (choicesC p)[i])[q]).2 else (lnV p n k (choicesC p)[i] (hrs p (choicesC p)[i])[q]).2) = (wd (tmL p n (lnV p n k) i ++ ((hrs p (choicesC p)[i]).take (q + 1)).map (lnV p n k (choicesC p)[i]))).2 := by rw [eQ, wd_snoc]; split <;> rfl
    simp only [lnV, he] at eW1 eW2
    refine aw_skip (aw_seq (aw_block (aw_seq ?_)))
    refine aw_draw 13 mo (by kernel_rfl) ?_
    refine dr_ev rfl (ev_load_agg (lr _) rfl ty27 rfl) ?_
    refine dr_ev rfl (ev_mv (v := .sl _ _) (lr _)) ?_
    refine dr_ev rfl (ev_mv (v := .raw _) (lr _)) ?_
    refine dr_ev rfl (ev_index_map sl122 (lr _) (lr _) rfl (by omega)) ?_
    refine dr_ev rfl (ev_load_agg_i (lr _) ty125 (Nat.le_of_ble_eq_true rfl)) ?_
    refine dr_ev rfl (ev_fieldAddr fo84_0 (lr _)) ?_
    refine dr_ev rfl (ev_less (ev_load (lr _) rfl ty3 rfl) (less_int hk2)) ?_
    refine dr_ev rfl (ev_call en105 (lr _) (rbegins_pure p (hrs p (choicesC p)[i])[q] k hk3) ⟨lr _, lr _, lr _, trivial⟩) ?_
    refine dr_ev rfl (ev_mv (v := .tup _) (lr _)) ?_
    refine dr_ev rfl (ev_extract (lr _) rfl) ?_
    refine dr_ev rfl (ev_extract (lr _) rfl) ?_
    refine dr_ev rfl (ev_as (v := .raw _) (lr _)) ?_
    refine dr_ev rfl (ev_as (v := .raw _) (lr _)) ?_
    refine dr_end (sq_nil (aw_seq (aw_region ?_)))
    refine sq_ev rfl (ev_load_agg (lr _) rfl ty23 rfl) ?_
    refine sq_ev rfl (ev_fieldAddr fo84_1 (lr _)) ?_
    refine sq_ev rfl (ev_load (lr _) rfl ty3 rfl) ?_
    refine mvr (lr _) rfl ?_
    refine mvr (lr _) rfl ?_
    refine sq_ev rfl (ev_sub (lr _) (lr _) (wr (by omega) (by omega))) ?_
    refine sq_ev rfl (ev_fieldAddr fo23_1 (lr _)) ?_
    refine sq_ev rfl (ev_load (lr _) rfl ty3 rfl) ?_
    refine sq_ev rfl (ev_sub (lr _) (lr _) (wr (by omega) (by omega))) ?_
    refine sq_ev rfl (ev_fieldAddr fo23_1 (lr _)) ?_
    refine sq_ev rfl (ev_load (lr _) rfl ty3 rfl) ?_
    refine sq_ev rfl (ev_sub (lr _) (lr _) (wr (by omega) (by omega))) ?_
    refine sq_ev rfl (ev_max2 (lr _) (lr _)) ?_
    refine sq_ev rfl (ev_fieldAddr fo84_2 (lr _)) ?_
    refine sq_ev rfl (ev_load (lr _) rfl ty3 rfl) ?_
    refine mvr (lr _) rfl ?_
    refine mvr (lr _) rfl ?_
    refine sq_ev rfl (ev_sub (lr _) (lr _) (wr (by omega) (by omega))) ?_
    refine sq_ev rfl (ev_fieldAddr fo23_0 (lr _)) ?_
    refine sq_ev rfl (ev_load (lr _) rfl ty3 rfl) ?_
    refine sq_ev rfl (ev_sub (lr _) (lr _) (wr (by omega) (by omega))) ?_
    refine sq_ev rfl (ev_fieldAddr fo23_0 (lr _)) ?_
    refine sq_ev rfl (ev_load (lr _) rfl ty3 rfl) ?_
    refine sq_ev rfl (ev_sub (lr _) (lr _) (wr (by omega) (by omega))) ?_
    refine sq_ev rfl (ev_min2 (lr _) (lr _)) ?_
    refine mvr (lr _) rfl ?_
    refine sq_ev rfl (ev_call en103 (lr _) (rjoin_pure _ _ _ _ _) ⟨lr _, lr _, lr _, lr _, trivial⟩) ?_
    refine sq_store rfl (lr _) (lr _) rfl rfl ty23 rfl rfl ?_
    refine sq_nil (aw_region ?_)
    refine asr (lr _) rfl ?_
    refine sq_nil (aw_region ?_)
    refine mvr (lr _) rfl ?_
    refine sq_ev rfl (ev_add (lr _) (lr _) (wr (by omega) (by omega))) ?_
    refine asr (lr _) rfl ?_
    refine sq_nil ?_
    exact ⟨⟨q + 1, by omega⟩, by simp only; omega, Sub.fin 6 ⟨lr _, less_b eF, lr _, lr _, lr _, lr _, lr _, lr _, lr _, lr _, lr _, lr _, trivial⟩ (cells6 eW1 eW2) (by simp [slotsIn, objsIn, sget, keepS, AObj.inB, AV.inB, AV.inL, AV.inE, inE_map, inE_ints, inE_sc, -List.map_append, -List.map_take, -List.map_map]) (by simp [slotsIn, objsIn, sget, keepS, AObj.inB, AV.inB, AV.inL, AV.inE, inE_map, inE_ints, inE_sc, -List.map_append, -List.map_take, -List.map_map]) (by simp [he0])⟩
   ·
    have c3' := c3
    try simp only [qq] at c3'
    obtain rfl : q = (hrs p (choicesC p)[i]).length := by omega
    have eV1 : (wd (tmL p n (lnV p n k) i ++ ((hrs p (choicesC p)[i]).take (hrs p (choicesC p)[i]).length).map (lnV p n k (choicesC p)[i]))).1 = (wd (tmL p n (lnV p n k) (i + 1))).1 := by rw [eX]
    have eV2 : (wd (tmL p n (lnV p n k) i ++ ((hrs p (choicesC p)[i]).take (hrs p (choicesC p)[i]).length).map (lnV p n k (choicesC p)[i]))).2 = (wd (tmL p n (lnV p n k) (i + 1))).2 := by rw [eX]
    have eF : decide (0 < (tmL p n (lnV p n k) i ++ ((hrs p (choicesC p)[i]).take (hrs p (choicesC p)[i]).length).map (lnV p n k (choicesC p)[i])).length) = decide (0 < (tmL p n (lnV p n k) (i + 1)).length) := by rw [eX]
    refine aw_exit (aw_region ?_)
    refine mvr (lr _) rfl ?_
    refine sq_ev rfl (ev_add (lr _) (lr _) (wr (by omega) (by omega))) ?_
    refine asr (lr _) rfl ?_
    refine sq_nil ?_
    exact ⟨⟨i + 1, by omega⟩, by simp only; omega, Sub.fin 4 ⟨lr _, less_b eF, lr _, lr _, lr _, lr _, lr _, lr _, trivial⟩ (cells4 eV1 eV2) (by simp [slotsIn, objsIn, sget, keepS, AObj.inB, AV.inB, AV.inL, AV.inE, inE_map, inE_ints, inE_sc, -List.map_append, -List.map_take, -List.map_map]) (by simp [slotsIn, objsIn, sget, keepS, AObj.inB, AV.inB, AV.inL, AV.inE, inE_map, inE_ints, inE_sc, -List.map_append, -List.map_take, -List.map_map]) (by simp [he0])⟩
 ·
  have c1' := c1
  try simp only [qq] at c1'
  obtain rfl : i = (choicesC p).length := by omega
  refine aw_exit (aw_seq (aw_region ?_))
  refine sq_ev rfl (ev_load_agg (lr _) rfl ty23 rfl) ?_
  refine mvr (lr _) rfl ?_
  refine sq_store rfl (lr _) (lr _) rfl rfl ty23 rfl rfl ?_
  refine asr (lr _) rfl ?_
  refine sq_nil (aw_ret ?_)
  exact retQ_res (vs := [.agg _, .raw _]) rfl rfl ⟨resVar_cell rfl rfl ty23 rfl, resVar_tmp _ _ _, trivial⟩ (Less.eq (by rfl))
end Go.Proofs.YtjghdbdiejaacaaGreatDoor
namespace Go.Proofs.YtjghdbdiejaacaaGreatDoor
open Go Go.Ab Ni
theorem en34 : Ent Tryz.prog 34 := Ent.of Tryz.func34 (by kernel_rfl) rfl
theorem mk43 : makeB Tryz.prog 43 3 = some [.int .i64 0, .int .i64 0, .int .i64 0, .int .i64 0, .int .i64 0, .int .i64 0] := by kernel_rfl
theorem hL_succ {p : Pl} {i : Nat} (h : i < (choicesC p).length) : hL p (i + 1) = hL p i ++ (hrs p (choicesC p)[i]).take (hrs p (choicesC p)[i]).length := by
  unfold hL; rw [List.take_succ_eq_append_getElem h, List.flatMap_append, List.take_length]; simp
def enC (f : Nat → Int × Int) : List AV := [I (f 0).1, I (f 0).2, I (f 1).1, I (f 1).2, I (f 2).1, I (f 2).2]
def wE (p : Pl) (hs : List Hr) (k : Nat) : Int × Int := wd (hs.map (eV p k))
def mix (f g : Nat → Int × Int) (k m : Nat) : Int × Int := if m < k then f m else g m
theorem enC_step {f g : Nat → Int × Int} {k : Nat} (hk : k < 3) {a b : Int} (h1 : a = (f k).1) (h2 : b = (f k).2) {x : AObj} :
    [x, AObj.cells ((enC (mix f g k)).take (0 + k * 2) ++ [I a, I b] ++ (enC (mix f g k)).drop (0 + k * 2 + [I a, I b].length))] = [x, .cells (enC (mix f g (k + 1)))] := by
  subst h1 h2
  rcases k with _ | _ | _ | k
  · rfl
  · rfl
  · rfl
  · omega
theorem wE_snoc (p : Pl) (hs : List Hr) (h : Hr) (k : Nat) : wE p (hs ++ [h]) k = if decide (0 < hs.length) = true then (min (wE p hs k).1 (prH p h k).2, max (wE p hs k).2 (prH p h k).2) else ((prH p h k).2, (prH p h k).2) := by
  unfold wE; rw [List.map_append, List.map_cons, List.map_nil, wd_snoc, List.length_map]; rfl
theorem inL_en (n : Nat) (f : Nat → Int × Int) : AV.inL n (enC f) = true := by simp [enC, AV.inL, AV.inB]
set_option maxHeartbeats 2000000 in
theorem rEnds_pure (p : Pl) (gp : GP p) (wp : WP p) : APure Tryz.prog 34 [plan p] (spans [wE p (hL p (choicesC p).length) 0, wE p (hL p (choicesC p).length) 1, wE p (hL p (choicesC p).length) 2]) := by
  refine apure_of (rs := [.tmp 2]) Tryz.func34 rfl rfl (Nat.le_of_ble_eq_true rfl) (by simp [AV.pureL, AV.pureB, AV.pureE, pureE_map]) (by simp [AV.pureL, AV.pureB, AV.pureE, pureE_map]) fun e0 he0 => ?_
  refine aw_seq (aw_region ?_)
  refine sq_box rfl (lr _) rfl ?_
  refine asr (lr _) rfl ?_
  refine sq_nil (aw_seq ?_)
  have hcl := choicesC_len gp
  refine aw_region ?_
  refine sq_ev rfl (ev_load_agg (lr _) rfl ty27 rfl) ?_
  refine sq_ev rfl (ev_call en25 (lr _) (choices_pure gp) ⟨lr _, trivial⟩) ?_
  refine ass rfl (lr _) ?_
  refine sq_nil (aw_seq (aw_region ?_))
  refine sq_make rfl mk43 (by decide) (lr _) (lr _) ?_
  refine sq_ev rfl (ev_as (v := .msl _ _ _ _) (lr _)) ?_
  refine sq_nil (aw_seq (aw_region ?_))
  refine asr (lr _) rfl ?_
  refine sq_nil (aw_seq (aw_seq (aw_region ?_)))
  refine asr (lr _) rfl ?_
  refine sq_nil (aw_block ?_)
  refine aw_loopk (ι := { i : Nat // i ≤ (choicesC p).length }) [1, 3, 4] (fun i => [(6, I i.1), (5, B (decide (0 < (hL p i.1).length)))]) (fun H i => H.set 1 (.cells (enC (wE p (hL p i.1))))) (fun i => (choicesC p).length - i.1) (⟨0, Nat.zero_le _⟩) ⟨lr _, (by exact less_b (by simp [hL])), lr _, lr _, lr _, trivial⟩ rfl ?_
  rintro ⟨i, hi⟩
  dsimp only [keepS, St.put, sget, slotsOf, List.map_cons, List.map_nil, List.cons_append, List.nil_append, List.length_cons, List.length_nil, Nat.reduceBEq, Nat.reduceAdd, cond_true, cond_false]
  refine aw_seq (aw_seq (aw_region ?_))
  refine mvr (lr _) rfl ?_
  refine mvs rfl (lr _) ?_
  refine sq_ev rfl (ev_len_map sl30 (lr _)) ?_
  refine sq_ev rfl (ev_lss (lr _) (lr _)) ?_
  refine sq_nil ?_
  refine aw_cond (lr _) (fun c1 => ?_) (fun c1 => ?_)
  · skip
    have c1' := c1
    try simp only [qq] at c1'
    have hi' : i < (choicesC p).length := by omega
    have cv := choicesC_mem gp _ (List.getElem_mem hi')
    have eX := hL_succ hi'
    have hhl := hrs_len gp (choicesC p)[i]
    refine aw_skip (aw_seq (aw_block (aw_seq ?_)))
    refine aw_draw 7 mo (by kernel_rfl) ?_
    refine dr_ev rfl (ev_load_agg (lr _) rfl ty27 rfl) ?_
    refine dr_ev rfl (ev_mv (v := .sl _ _) (lr _)) ?_
    refine dr_ev rfl (ev_mv (v := .raw _) (lr _)) ?_
    refine dr_ev rfl (ev_index_map sl30 (lr _) (lr _) rfl (by omega)) ?_
    refine dr_ev rfl (ev_load_i (lr _) ty34 rfl) ?_
    refine dr_ev rfl (ev_call en102 (lr _) (hours_pure p (choicesC p)[i] gp cv) ⟨lr _, lr _, trivial⟩) ?_
    refine dr_ev rfl (ev_as (v := .sl _ _) (lr _)) ?_
    refine dr_end (sq_nil (aw_seq (aw_region ?_)))
    refine asr (lr _) rfl ?_
    refine sq_nil (aw_block ?_)
    refine aw_loopk (ι := { q : Nat // q ≤ (hrs p (choicesC p)[i]).length }) [1, 3, 4, 6, 7] (fun q => [(8, I q.1), (5, B (decide (0 < (hL p i ++ (hrs p (choicesC p)[i]).take q.1).length)))]) (fun H q => H.set 1 (.cells (enC (wE p (hL p i ++ (hrs p (choicesC p)[i]).take q.1))))) (fun q => (hrs p (choicesC p)[i]).length - q.1) (⟨0, Nat.zero_le _⟩) ⟨lr _, (by exact less_b (by simp)), lr _, lr _, lr _, lr _, lr _, trivial⟩ (by simp only [List.take_zero, List.append_nil]; rfl) ?_
    rintro ⟨q, hq⟩
    dsimp only [keepS, St.put, sget, slotsOf, List.map_cons, List.map_nil, List.cons_append, List.nil_append, List.length_cons, List.length_nil, Nat.reduceBEq, Nat.reduceAdd, cond_true, cond_false]
    refine aw_seq (aw_seq (aw_region ?_))
    refine mvr (lr _) rfl ?_
    refine mvs rfl (lr _) ?_
    refine sq_ev rfl (ev_len_map sl122 (lr _)) ?_
    refine sq_ev rfl (ev_lss (lr _) (lr _)) ?_
    refine sq_nil ?_
    refine aw_cond (lr _) (fun c2 => ?_) (fun c2 => ?_)
    · skip
      have c2' := c2
      try simp only [qq] at c2'
      have hq' : q < (hrs p (choicesC p)[i]).length := by omega
      have eQ : (hL p i ++ (hrs p (choicesC p)[i]).take (q + 1)) = (hL p i ++ (hrs p (choicesC p)[i]).take q) ++ [(hrs p (choicesC p)[i])[q]] := by rw [List.take_succ_eq_append_getElem hq', List.append_assoc]
      have eF : true = decide (0 < (hL p i ++ (hrs p (choicesC p)[i]).take (q + 1)).length) := (decide_eq_true (by rw [eQ, List.length_append, List.length_singleton]; omega)).symm
      refine aw_skip (aw_seq (aw_block (aw_seq (aw_seq (aw_region ?_)))))
      refine asr (lr _) rfl ?_
      refine sq_nil (aw_block ?_)
      refine aw_loopk (ι := { k : Nat // k ≤ 3 }) [1, 3, 4, 5, 6, 7, 8] (fun k => [(9, I k.1)]) (fun H k => H.set 1 (.cells (enC (mix (wE p ((hL p i ++ (hrs p (choicesC p)[i]).take q) ++ [(hrs p (choicesC p)[i])[q]])) (wE p (hL p i ++ (hrs p (choicesC p)[i]).take q)) k.1)))) (fun k => 3 - k.1) (⟨0, by omega⟩) ⟨lr _, lr _, lr _, lr _, lr _, lr _, lr _, lr _, trivial⟩ rfl ?_
      rintro ⟨k, hk⟩
      dsimp only [keepS, St.put, sget, slotsOf, List.map_cons, List.map_nil, List.cons_append, List.nil_append, List.length_cons, List.length_nil, Nat.reduceBEq, Nat.reduceAdd, cond_true, cond_false]
      refine aw_seq (aw_seq (aw_region ?_))
      refine mvr (lr _) rfl ?_
      refine sq_ev rfl (ev_lss (lr _) (lr _)) ?_
      refine sq_nil ?_
      refine aw_cond (lr _) (fun c3 => ?_) (fun c3 => ?_)
      · skip
        have c3' := c3
        try simp only [qq] at c3'
        have hk3 : k < 3 := by omega
        have hble : Nat.ble (0 + k * 2 + 2) (enC (mix (wE p ((hL p i ++ (hrs p (choicesC p)[i]).take q) ++ [(hrs p (choicesC p)[i])[q]])) (wE p (hL p i ++ (hrs p (choicesC p)[i]).take q)) k)).length = true := (by rcases k with _ | _ | _ | k <;> first | rfl | omega)
        have hag : AV.agg (((enC (mix (wE p ((hL p i ++ (hrs p (choicesC p)[i]).take q) ++ [(hrs p (choicesC p)[i])[q]])) (wE p (hL p i ++ (hrs p (choicesC p)[i]).take q)) k)).drop (0 + k * 2)).take 2) = .agg [I (wE p (hL p i ++ (hrs p (choicesC p)[i]).take q) k).1, I (wE p (hL p i ++ (hrs p (choicesC p)[i]).take q) k).2] := (by rcases k with _ | _ | _ | k <;> first | rfl | omega)
        have hix : ((hourC (hrs p (choicesC p)[i])[q]).drop (k * 1))[0]? = some (I (prH p (hrs p (choicesC p)[i])[q] k).2) := (by rcases k with _ | _ | _ | k <;> first | rfl | omega)
        have eW1 : (if decide (0 < (hL p i ++ (hrs p (choicesC p)[i]).take q).length) = true then min (wE p (hL p i ++ (hrs p (choicesC p)[i]).take q) k).1 (prH p (hrs p (choicesC p)[i])[q] k).2 else (prH p (hrs p (choicesC p)[i])[q] k).2) = (wE p ((hL p i ++ (hrs p (choicesC p)[i]).take q) ++ [(hrs p (choicesC p)[i])[q]]) k).1 := by rw [wE_snoc]; split <;> rfl
        have eW2 : (if decide (0 < (hL p i ++ (hrs p (choicesC p)[i]).take q).length) = true then max (wE p (hL p i ++ (hrs p (choicesC p)[i]).take q) k).2 (prH p (hrs p (choicesC p)[i])[q] k).2 else (prH p (hrs p (choicesC p)[i])[q] k).2) = (wE p ((hL p i ++ (hrs p (choicesC p)[i]).take q) ++ [(hrs p (choicesC p)[i])[q]]) k).2 := by rw [wE_snoc]; split <;> rfl
        refine aw_skip (aw_seq (aw_block ?_))
        refine aw_draw 21 mo (by kernel_rfl) ?_
        refine dr_ev rfl (ev_mv (v := .msl _ _ _ _) (lr _)) ?_
        refine dr_ev rfl (ev_mv (v := .raw _) (lr _)) ?_
        refine dr_ev rfl (ev_mv (v := .msl _ _ _ _) (lr _)) ?_
        refine dr_ev rfl (ev_mv (v := .raw _) (lr _)) ?_
        refine dr_ev rfl (ev_index_msl sl43 (lr _) (lr _) rfl (by omega)) ?_
        refine dr_ev rfl (ev_less (ev_load_agg (lr _) rfl ty23 hble) (Less.eq hag)) ?_
        refine dr_ev rfl (ev_mv (v := .sl _ _) (lr _)) ?_
        refine dr_ev rfl (ev_mv (v := .raw _) (lr _)) ?_
        refine dr_ev rfl (ev_mv (v := .raw _) (lr _)) ?_
        refine dr_ev rfl (ev_index_map sl122 (lr _) (lr _) rfl (by omega)) ?_
        refine dr_ev rfl (ev_index_box_i (k := k) ar125 (lr _) (lr _) rfl (by omega)) ?_
        refine dr_ev rfl (ev_load_i (lr _) ty3 hix) ?_
        refine dr_ev rfl (ev_mv (v := .sl _ _) (lr _)) ?_
        refine dr_ev rfl (ev_mv (v := .raw _) (lr _)) ?_
        refine dr_ev rfl (ev_mv (v := .raw _) (lr _)) ?_
        refine dr_ev rfl (ev_index_map sl122 (lr _) (lr _) rfl (by omega)) ?_
        refine dr_ev rfl (ev_index_box_i (k := k) ar125 (lr _) (lr _) rfl (by omega)) ?_
        refine dr_ev rfl (ev_load_i (lr _) ty3 hix) ?_
        refine dr_ev rfl (ev_mv (v := .raw _) (lr _)) ?_
        refine dr_ev rfl (ev_call en103 (lr _) (rjoin_pure _ _ _ _ _) ⟨lr _, lr _, lr _, lr _, trivial⟩) ?_
        refine dr_ev rfl (ev_index_msl sl43 (lr _) (lr _) rfl (by omega)) ?_
        refine dr_end ?_
        refine sq_store rfl (lr _) (lr _) rfl rfl ty23 rfl hble ?_
        refine sq_nil (aw_region ?_)
        refine mvr (lr _) rfl ?_
        refine sq_ev rfl (ev_add (lr _) (lr _) (wr (by omega) (by omega))) ?_
        refine asr (lr _) rfl ?_
        refine sq_nil ?_
        exact ⟨⟨k + 1, by omega⟩, by simp only; omega, Sub.fin 2 ⟨lr _, lr _, lr _, lr _, lr _, lr _, lr _, lr _, trivial⟩ (enC_step hk3 eW1 eW2) (by simp [slotsIn, objsIn, sget, keepS, AObj.inB, AV.inB, AV.inL, AV.inE, inE_map, inE_ints, inL_en, inE_sc, -List.map_append, -List.map_take, -List.map_map]) (by simp [slotsIn, objsIn, sget, keepS, AObj.inB, AV.inB, AV.inL, AV.inE, inE_map, inE_ints, inL_en, inE_sc, -List.map_append, -List.map_take, -List.map_map]) (by simp [he0])⟩
      · skip
        have c3' := c3
        try simp only [qq] at c3'
        obtain rfl : k = 3 := by omega
        refine aw_exit (aw_region ?_)
        refine asr (lr _) rfl ?_
        refine sq_nil (aw_region ?_)
        refine mvr (lr _) rfl ?_
        refine sq_ev rfl (ev_add (lr _) (lr _) (wr (by omega) (by omega))) ?_
        refine asr (lr _) rfl ?_
        refine sq_nil ?_
        exact ⟨⟨q + 1, by omega⟩, by simp only; omega, Sub.fin 2 ⟨lr _, less_b eF, lr _, lr _, lr _, lr _, lr _, trivial⟩ (congrArg (fun hs => [_, AObj.cells (enC (wE p hs))]) eQ.symm) (by simp [slotsIn, objsIn, sget, keepS, AObj.inB, AV.inB, AV.inL, AV.inE, inE_map, inE_ints, inL_en, inE_sc, -List.map_append, -List.map_take, -List.map_map]) (by simp [slotsIn, objsIn, sget, keepS, AObj.inB, AV.inB, AV.inL, AV.inE, inE_map, inE_ints, inL_en, inE_sc, -List.map_append, -List.map_take, -List.map_map]) (by simp [he0])⟩
    · skip
      have c2' := c2
      try simp only [qq] at c2'
      obtain rfl : q = (hrs p (choicesC p)[i]).length := by omega
      refine aw_exit (aw_region ?_)
      refine mvr (lr _) rfl ?_
      refine sq_ev rfl (ev_add (lr _) (lr _) (wr (by omega) (by omega))) ?_
      refine asr (lr _) rfl ?_
      refine sq_nil ?_
      exact ⟨⟨i + 1, by omega⟩, by simp only; omega, Sub.fin 2 ⟨lr _, less_b (by rw [eX]), lr _, lr _, lr _, trivial⟩ (congrArg (fun hs => [_, AObj.cells (enC (wE p hs))]) eX.symm) (by simp [slotsIn, objsIn, sget, keepS, AObj.inB, AV.inB, AV.inL, AV.inE, inE_map, inE_ints, inL_en, inE_sc, -List.map_append, -List.map_take, -List.map_map]) (by simp [slotsIn, objsIn, sget, keepS, AObj.inB, AV.inB, AV.inL, AV.inE, inE_map, inE_ints, inL_en, inE_sc, -List.map_append, -List.map_take, -List.map_map]) (by simp [he0])⟩
  · skip
    have c1' := c1
    try simp only [qq] at c1'
    obtain rfl : i = (choicesC p).length := by omega
    refine aw_exit (aw_seq ?_)
    refine aw_sub (sub_freeze (j := 1) (n := 3) (cap := 3) (sz := 2) (es := ([wE p (hL p (choicesC p).length) 0, wE p (hL p (choicesC p).length) 1, wE p (hL p (choicesC p).length) 2]).map (fun x => [I x.1, I x.2])) (rest := []) (sl' := [(4, .sl 2 (([wE p (hL p (choicesC p).length) 0, wE p (hL p (choicesC p).length) 1, wE p (hL p (choicesC p).length) 2]).map (fun x => [I x.1, I x.2])))]) rfl rfl (fun q hq => by obtain ⟨x, _, rfl⟩ := List.mem_map.1 hq; rfl) (fun q hq => by rw [List.mem_singleton] at hq; subst hq; exact Fz.frozen) (FzH.same _ (by decide) (FzH.dead _ rfl (FzH.nil _)))) ?_
    refine aw_region ?_
    refine mvs rfl (lr _) ?_
    refine ass rfl (lr _) ?_
    refine sq_nil (aw_ret ?_)
    exact retQ_pure (v := .sl _ _) rfl rfl (lr _)
end Go.Proofs.YtjghdbdiejaacaaGreatDoor
