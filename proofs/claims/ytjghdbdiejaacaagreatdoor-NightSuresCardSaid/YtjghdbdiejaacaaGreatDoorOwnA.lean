/-
  A part of the proof: conditions: none beyond each theorem's own.
-/
import Derived.Test.YtjghdbdiejaacaaGreatDoorLogicC
import Derived.KernelRfl
import Derived.Lib.LaidTab
import Derived.Lib.ItoaNum
import Derived.Test.YtjghdbdiejaacaaGreatDoorProg
import Derived.Test.YtjghdbdiejaacaaGreatDoorSpecA
import Derived.Test.YtjghdbdiejaacaaGreatDoorWalkF
import Derived.Test.YtjghdbdiejaacaaGreatDoorWalkG
import Derived.Test.YtjghdbdiejaacaaGreatDoorLogicD
import Derived.Test.YtjghdbdiejaacaaGreatDoorLogicA
import Derived.Test.YtjghdbdiejaacaaGreatDoorLogicB
import Derived.Test.YtjghdbdiejaacaaGreatDoorShelf
import Derived.Test.YtjghdbdiejaacaaGreatDoorWalkA
import Derived.Test.YtjghdbdiejaacaaGreatDoorWalkB
import Derived.Test.YtjghdbdiejaacaaGreatDoorWalkC
import Derived.Test.YtjghdbdiejaacaaGreatDoorWalkD
import Derived.Test.YtjghdbdiejaacaaGreatDoorWalkE
import Derived.Test.YtjghdbdiejaacaaGreatDoorRow
set_option linter.all false
namespace Ni
theorem has_yes {l : List Int} {n : Int} {k : Nat} (h : k < l.length) (e : l[k] = n) : has l n = true := by
  simp only [has, decide_eq_true_eq]; exact e ▸ List.getElem_mem h
theorem has_no {l : List Int} {n : Int} {k : Nat} (hn : ¬ (k : Int) < l.length) (h : ∀ i, (h : i < l.length) → i < k → l[i] ≠ n) : has l n = false := by
  simp only [has, decide_eq_false_iff_not]
  intro hm
  obtain ⟨j, hj, e⟩ := List.getElem_of_mem hm
  exact h j hj (by omega) e
theorem ssum_take {f : Nat → Int} {c : Nat → Bool} {l : List Nat} {k : Nat} (h : k < l.length) : ssum f c (l.take (k + 1)) = ssum f c (l.take k) + (if c l[k] = true then f l[k] else 0) := by
  unfold ssum
  rw [List.take_succ_eq_append_getElem h, List.filter_append, List.map_append, List.sum_append]
  by_cases hc : c l[k] = true <;> simp [hc]
theorem ssum_bd {f : Nat → Int} {c : Nat → Bool} : ∀ {l : List Nat}, (∀ x ∈ l, 0 ≤ f x ∧ f x ≤ 10000) → 0 ≤ ssum f c l ∧ ssum f c l ≤ 10000 * l.length
  | [], _ => by simp [ssum]
  | x :: l, h => by
    have ih := ssum_bd (c := c) (l := l) (fun y hy => h y (List.mem_cons_of_mem _ hy))
    have hx := h x (by simp)
    have e : ssum f c (x :: l) = (if c x = true then f x else 0) + ssum f c l := by
      unfold ssum
      by_cases hc : c x = true <;> simp [hc]
    rw [e, List.length_cons]
    split <;> omega
theorem ssum_bd_take {f : Nat → Int} {c : Nat → Bool} {l : List Nat} (h : ∀ x ∈ l, 0 ≤ f x ∧ f x ≤ 10000) (hl : l.length ≤ 1000) (k : Nat) : 0 ≤ ssum f c (l.take k) ∧ ssum f c (l.take k) ≤ 10000000 := by
  have := ssum_bd (c := c) (l := l.take k) (fun x hx => h x (List.mem_of_mem_take hx))
  have := List.length_take_le' k l
  omega
theorem lo_bd {p : Pl} {l : List Nat} (gp : GP p) (cv : CV p l) (part a b : Int) (k : Nat) : 0 ≤ lo p (l.take k) part a b ∧ lo p (l.take k) part a b ≤ 10000000 := ssum_bd_take (fun x hx => gp.least (cv.rng x hx)) cv.len k
theorem hi_bd {p : Pl} {l : List Nat} (gp : GP p) (cv : CV p l) (part a b : Int) (k : Nat) : 0 ≤ hi p (l.take k) part a b ∧ hi p (l.take k) part a b ≤ 10000000 := ssum_bd_take (fun x hx => gp.most (cv.rng x hx)) cv.len k
theorem lo_take {p : Pl} {l : List Nat} {k : Nat} (h : k < l.length) (part a b : Int) : lo p (l.take (k + 1)) part a b = lo p (l.take k) part a b + (if inP p part a b l[k] = true then (scn p l[k]).least else 0) := ssum_take h
theorem hi_take {p : Pl} {l : List Nat} {k : Nat} (h : k < l.length) (part a b : Int) : hi p (l.take (k + 1)) part a b = hi p (l.take k) part a b + (if inP p part a b l[k] = true then (scn p l[k]).most else 0) := ssum_take h
theorem fm_zero {α : Type} (f : Nat → List α) : fm 0 f = [] := rfl
theorem hC_len (p : Pl) (l : List Nat) (a b : Int) (k : Nat) : (hC p l a b k).length ≤ 1 := by unfold hC; split <;> simp
theorem wid_le {a b : Int} (h : 0 ≤ a) (k : b ≤ 10000) : wid a b ≤ 10001 := by unfold wid; omega
theorem hB_len {p : Pl} (gp : GP p) (l : List Nat) (a : Int) (j : Nat) : (hB p l a j).length ≤ 10001 := by
  unfold hB; split
  · have := fm_len (hC_len p l a (p.s1l + j)) (wid p.dl p.dh)
    have := wid_le gp.dl.1 gp.dh.2
    omega
  · simp
theorem hA_len {p : Pl} (gp : GP p) (l : List Nat) (i : Nat) : (hA p l i).length ≤ 100020001 := by
  unfold hA; split
  · have := fm_len (hB_len gp l (p.s0l + i)) (wid p.s1l p.s1h)
    have := wid_le gp.s1l.1 gp.s1h.2
    omega
  · simp
theorem hAs_len {p : Pl} (gp : GP p) (l : List Nat) {i : Nat} (h : i ≤ wid p.s0l p.s0h) : (fm i (hA p l)).length ≤ 1000300030001 := by
  have := fm_len (hA_len gp l) i
  have := wid_le gp.s0l.1 gp.s0h.2
  omega
theorem hBs_len {p : Pl} (gp : GP p) (l : List Nat) (a : Int) {j : Nat} (h : j ≤ wid p.s1l p.s1h) : (fm j (hB p l a)).length ≤ 100020001 := by
  have := fm_len (hB_len gp l a) j
  have := wid_le gp.s1l.1 gp.s1h.2
  omega
theorem hCs_len {p : Pl} (gp : GP p) (l : List Nat) (a b : Int) {k : Nat} (h : k ≤ wid p.dl p.dh) : (fm k (hC p l a b)).length ≤ 10001 := by
  have := fm_len (hC_len p l a b) k
  have := wid_le gp.dl.1 gp.dh.2
  omega
theorem hB_eq {p : Pl} {l : List Nat} {a : Int} {j k : Nat} (hk0 : 0 < k → inn (p.s1l + j - a) (lo p l 1 0 10) (hi p l 1 0 10) = true) (h : k = wid p.dl p.dh ∨ inn (p.s1l + j - a) (lo p l 1 0 10) (hi p l 1 0 10) = false) :
    hB p l a j = fm k (hC p l a (p.s1l + j)) := by
  unfold hB
  cases hc : inn (p.s1l + j - a) (lo p l 1 0 10) (hi p l 1 0 10) with
  | true =>
    rw [hc] at h
    rcases h with h | h
    · rw [if_pos rfl, h]
    · cases h
  | false =>
    rw [hc] at hk0
    have : k = 0 := by
      rcases Nat.eq_zero_or_pos k with h0 | h0
      · exact h0
      · have := hk0 h0; cases this
    subst this; rfl
theorem hA_eq {p : Pl} {l : List Nat} {i k : Nat} (hk0 : 0 < k → inn (p.s0l + i - p.beg) (lo p l 0 0 10) (hi p l 0 0 10) = true) (h : k = wid p.s1l p.s1h ∨ inn (p.s0l + i - p.beg) (lo p l 0 0 10) (hi p l 0 0 10) = false) :
    hA p l i = fm k (hB p l (p.s0l + i)) := by
  unfold hA
  cases hc : inn (p.s0l + i - p.beg) (lo p l 0 0 10) (hi p l 0 0 10) with
  | true =>
    rw [hc] at h
    rcases h with h | h
    · rw [if_pos rfl, h]
    · cases h
  | false =>
    rw [hc] at hk0
    have : k = 0 := by
      rcases Nat.eq_zero_or_pos k with h0 | h0
      · exact h0
      · have := hk0 h0; cases this
    subst this; rfl
theorem nxt_nil {now : List Nat} (h : now.length = 0) : nxt now = 0 := by have := List.length_eq_zero_iff.1 h; subst this; rfl
theorem nxt_last {now : List Nat} (h : now.length - 1 < now.length) : nxt now = now[now.length - 1] + 1 := by
  unfold nxt
  rw [List.getLast?_eq_getElem?, List.getElem?_eq_getElem h]
theorem lsts_part {n m : Nat} (now : List Nat) {k : Nat} (hn : n ≤ 16) (h : k ≤ n - nxt now) : (fm k fun i => lsts n m (now ++ [nxt now + i])).length ≤ 65536 := by
  have := fm_pow (d := n - nxt now) (f := fun i => lsts n m (now ++ [nxt now + i])) (fun i hi => by
    have := lsts_len n m (now ++ [nxt now + i])
    rw [nxt_app] at this
    rwa [show n - (nxt now + i + 1) = n - nxt now - (i + 1) by omega] at this) k h
  have h3 : 2 ^ (n - nxt now) ≤ 2 ^ 16 := Nat.pow_le_pow_right (by decide) (by omega)
  exact Nat.le_trans (Nat.le_trans (Nat.le_add_right _ _) this) h3
end Ni
namespace Ni
theorem fm_full {α : Type} {f : Nat → List α} {B : Nat} (h : ∀ i, (f i).length ≤ B) : ∀ n, (fm n f).length = n * B ↔ ∀ i, i < n → (f i).length = B
  | 0 => by simp [fm]
  | n + 1 => by
    have ih := fm_full h n
    have h1 := fm_len h n
    have h2 := h n
    rw [fm_succ, List.length_append, Nat.succ_mul]
    constructor
    · intro e i hi
      rcases Nat.lt_or_eq_of_le (Nat.le_of_lt_succ hi) with k | k
      · exact ih.1 (by omega) i k
      · subst k; omega
    · intro e
      have := ih.2 fun i hi => e i (by omega)
      have := e n (by omega)
      omega
def allFit (p : Pl) (l : List Nat) : Prop := ∀ i, i < wid p.s0l p.s0h → inn (p.s0l + i - p.beg) (lo p l 0 0 10) (hi p l 0 0 10) = true ∧ ∀ j, j < wid p.s1l p.s1h → inn (p.s1l + j - (p.s0l + i)) (lo p l 1 0 10) (hi p l 1 0 10) = true ∧
  ∀ k, k < wid p.dl p.dh → inn (p.dl + k - (p.s1l + j)) (lo p l 2 0 10) (hi p l 2 0 10) = true
theorem hrs_full {p : Pl} {l : List Nat} (wp : WP p) : (hrs p l).length = wid p.s0l p.s0h * (wid p.s1l p.s1h * wid p.dl p.dh) ↔ allFit p l := by
  have w0 : 0 < wid p.s0l p.s0h := by have := wp.s0; unfold wid; omega
  have w1 : 0 < wid p.s1l p.s1h := by have := wp.s1; unfold wid; omega
  have w2 : 0 < wid p.dl p.dh := by have := wp.d; unfold wid; omega
  have bC : ∀ a b k, (hC p l a b k).length ≤ 1 := hC_len p l
  have bB : ∀ a j, (hB p l a j).length ≤ wid p.dl p.dh := fun a j => by
    unfold hB; split
    · have := fm_len (bC a (p.s1l + j)) (wid p.dl p.dh); omega
    · simp
  have bA : ∀ i, (hA p l i).length ≤ wid p.s1l p.s1h * wid p.dl p.dh := fun i => by
    unfold hA; split
    · exact fm_len (bB (p.s0l + i)) _
    · simp
  have eC : ∀ a b k, (hC p l a b k).length = 1 ↔ inn (p.dl + k - b) (lo p l 2 0 10) (hi p l 2 0 10) = true := fun a b k => by
    unfold hC; split
    · rename_i h; simp [h]
    · rename_i h; simp [h]
  have eB : ∀ a j, (hB p l a j).length = wid p.dl p.dh ↔ inn (p.s1l + j - a) (lo p l 1 0 10) (hi p l 1 0 10) = true ∧ ∀ k, k < wid p.dl p.dh → inn (p.dl + k - (p.s1l + j)) (lo p l 2 0 10) (hi p l 2 0 10) = true := fun a j => by
    unfold hB; split
    · rename_i h
      have := fm_full (bC a (p.s1l + j)) (wid p.dl p.dh)
      rw [Nat.mul_one] at this
      rw [this]
      exact ⟨fun g => ⟨h, fun k hk => (eC _ _ _).1 (g k hk)⟩, fun g k hk => (eC _ _ _).2 (g.2 k hk)⟩
    · rename_i h
      constructor
      · intro e; simp at e; omega
      · intro e; exact absurd e.1 h
  have eA : ∀ i, (hA p l i).length = wid p.s1l p.s1h * wid p.dl p.dh ↔ inn (p.s0l + i - p.beg) (lo p l 0 0 10) (hi p l 0 0 10) = true ∧ ∀ j, j < wid p.s1l p.s1h → inn (p.s1l + j - (p.s0l + i)) (lo p l 1 0 10) (hi p l 1 0 10) = true ∧ ∀ k, k < wid p.dl p.dh → inn (p.dl + k - (p.s1l + j)) (lo p l 2 0 10) (hi p l 2 0 10) = true := fun i => by
    unfold hA; split
    · rename_i h
      rw [fm_full (bB (p.s0l + i))]
      exact ⟨fun g => ⟨h, fun k hk => (eB _ _).1 (g k hk)⟩, fun g k hk => (eB _ _).2 (g.2 k hk)⟩
    · rename_i h
      constructor
      · intro e
        have : 0 < wid p.s1l p.s1h * wid p.dl p.dh := Nat.mul_pos w1 w2
        simp at e; omega
      · intro e; exact absurd e.1 h
  unfold hrs allFit
  rw [fm_full bA]
  exact ⟨fun g i hi => (eA i).1 (g i hi), fun g i hi => (eA i).2 (g i hi)⟩
theorem allFit_iff {p : Pl} {l : List Nat} (wp : WP p) (cv : CV p l) : allFit p l ↔ (pl p l 0 ≤ p.s0l - p.beg ∧ p.s0h - p.beg ≤ ph p l 0) ∧ (pl p l 1 ≤ p.s1l - p.s0h ∧ p.s1h - p.s0l ≤ ph p l 1) ∧ (pl p l 2 ≤ p.dl - p.s1h ∧ p.dh - p.s1l ≤ ph p l 2) := by
  have e0 : pl p l 0 = lo p l 0 0 10 := pl_lo wp cv 0
  have e1 : pl p l 1 = lo p l 1 0 10 := pl_lo wp cv 1
  have e2 : pl p l 2 = lo p l 2 0 10 := pl_lo wp cv 2
  have f0 : ph p l 0 = hi p l 0 0 10 := ph_hi wp cv 0
  have f1 : ph p l 1 = hi p l 1 0 10 := ph_hi wp cv 1
  have f2 : ph p l 2 = hi p l 2 0 10 := ph_hi wp cv 2
  have h0 := wp.s0; have h1 := wp.s1; have h2 := wp.d
  unfold allFit wid
  simp only [inn, Bool.and_eq_true, decide_eq_true_eq]
  constructor
  · intro g
    obtain ⟨a1, a2⟩ := g 0 (by omega)
    obtain ⟨b1, b2⟩ := g (p.s0h - p.s0l).toNat (by omega)
    obtain ⟨a3, a4⟩ := a2 0 (by omega)
    obtain ⟨a5, a6⟩ := a2 (p.s1h - p.s1l).toNat (by omega)
    obtain ⟨b3, b4⟩ := b2 0 (by omega)
    have a7 := a4 0 (by omega)
    have a8 := a4 (p.dh - p.dl).toNat (by omega)
    have a9 := a6 0 (by omega)
    omega
  · rintro ⟨⟨g1, g2⟩, ⟨g3, g4⟩, g5, g6⟩ i hi
    refine ⟨by omega, fun j hj => ⟨by omega, fun k hk => by omega⟩⟩
end Ni
namespace Ni
theorem lsts_pre {n : Nat} : ∀ {m : Nat} {now l : List Nat}, l ∈ lsts n m now → ∃ r, l = now ++ r
  | 0, now, l, h => by simp only [lsts, List.mem_singleton] at h; exact ⟨[], by simp [h]⟩
  | m + 1, now, l, h => by
    simp only [lsts] at h
    obtain ⟨i, _, h⟩ := mem_fm.1 h
    obtain ⟨r, hr⟩ := lsts_pre h
    exact ⟨(nxt now + i) :: r, by rw [hr]; simp⟩
theorem fm_pairwise {α : Type} {R : α → α → Prop} {n : Nat} {f : Nat → List α} (h1 : ∀ i, i < n → (f i).Pairwise R) (h2 : ∀ i j, i < j → j < n → ∀ a ∈ f i, ∀ b ∈ f j, R a b) : (fm n f).Pairwise R := by
  induction n with
  | zero => exact List.Pairwise.nil
  | succ n ih =>
    rw [fm_succ, List.pairwise_append]
    refine ⟨ih (fun i hi => h1 i (by omega)) (fun i j hij hj => h2 i j hij (by omega)), h1 n (by omega), fun a ha b hb => ?_⟩
    obtain ⟨i, hi, ha⟩ := mem_fm.1 ha
    exact h2 i n hi (by omega) a ha b hb
theorem aA_len2 {p : Pl} {i : Nat} {l : List Nat} (h : l ∈ aA p i) : l.length = p.scenes.length - i := by
  have := (lsts_mem (by simp) l (List.mem_filter.1 h).1).1
  simpa using this
end Ni
namespace Ni
def lexB : List Int → List Int → Bool
  | x :: a, y :: b => if x = y then lexB a b else decide (x < y)
  | _, _ => false
def soonB (a b : List Int) : Bool := if a.length ≠ b.length then decide (b.length < a.length) else lexB a b
theorem lexB_at {u v : Int} {x y : List Int} (h : u ≠ v) : ∀ c : List Int, lexB (c ++ u :: x) (c ++ v :: y) = decide (u < v)
  | [] => by simp [lexB, h]
  | z :: c => by simp [lexB, lexB_at h c]
theorem lsts_lexB {n : Nat} : ∀ (m : Nat) (now : List Nat), (lsts n m now).Pairwise fun a b => lexB (up a) (up b) = true
  | 0, now => by simp [lsts]
  | m + 1, now => by
    simp only [lsts]
    refine fm_pairwise (fun i _ => lsts_lexB m _) fun i j hij _ a ha b hb => ?_
    obtain ⟨x, rfl⟩ := lsts_pre ha
    obtain ⟨y, rfl⟩ := lsts_pre hb
    have := lexB_at (u := ((nxt now + i : Nat) : Int)) (v := ((nxt now + j : Nat) : Int)) (x := up x) (y := up y) (by omega) (up now)
    have e1 : up (now ++ [nxt now + i] ++ x) = up now ++ ((nxt now + i : Nat) : Int) :: up x := by simp [up]
    have e2 : up (now ++ [nxt now + j] ++ y) = up now ++ ((nxt now + j : Nat) : Int) :: up y := by simp [up]
    rw [e1, e2, this]; exact decide_eq_true (by omega)
theorem allC_orderB (p : Pl) : (allC p).Pairwise fun a b => soonB (up a) (up b) = true := by
  refine fm_pairwise (fun i _ => ?_) fun i j hij hj a ha b hb => ?_
  · unfold aA
    refine List.Pairwise.filter _ ?_
    unfold aL
    refine List.Pairwise.imp_of_mem ?_ (lsts_lexB _ _)
    intro a b ha hb hab
    have h1 := (lsts_mem (by simp) a ha).1
    have h2 := (lsts_mem (by simp) b hb).1
    unfold soonB
    rw [if_neg (by simp [up]; omega)]
    exact hab
  · have h1 := aA_len2 ha
    have h2 := aA_len2 hb
    unfold soonB
    rw [if_pos (by simp [up]; omega)]
    simp [up]; omega
end Ni
namespace Go.Proofs.YtjghdbdiejaacaaGreatDoor
open Go Go.Ab Ni
section
variable [Tabs] {c : Ctx} {ops : Array Oper} {Q : AExit → St → Prop} {i : Nat} {rest : List Oper} {s : St} {d : Option Tmp} {x y z : Operand} {t : TypeId} {p : String} {af : Array Edge} {v : Value} {j u n : Nat} {want : Bool} {l : List (List AV)}
theorem pf (hd : dOK c.nt d = true) (hx : Less (s.op x) (.raw (.bool false))) (h : Less (s.op z) (.raw v)) (k : SeqWP c ops Q (i + 1) rest (s.put d (.raw v))) : SeqWP c ops Q i (⟨d, .pick x y z, t, p, af, none⟩ :: rest) s := sq_ev hd (ev_pickF hx h) k
theorem ysl (hj : gslot ops j = some u) (ht : Nat.blt u c.nt = true) (hb : Less (sget s.sl u) (.raw (.bool want))) (hd : dOK c.nt d = true) (h : Less (s.op x) (.sl n l)) (k : SeqWP c ops Q (i + 1) rest (s.put d (.sl n l))) : SeqWP c ops Q i (⟨d, .move x, t, p, af, some (j, want)⟩ :: rest) s := sq_yes hj ht hb hd (ev_mv h) k
theorem xtr {m : List AV} {w : AV} (hd : dOK c.nt d = true) (hx : Less (s.op x) (.tup m)) (hv : m[n]? = some w) (k : SeqWP c ops Q (i + 1) rest (s.put d w)) : SeqWP c ops Q i (⟨d, .extract x n, t, p, af, none⟩ :: rest) s := sq_ev hd (ev_extract hx hv) k
theorem mvs (hd : dOK c.nt d = true) (h : Less (s.op x) (.sl n l)) (k : SeqWP c ops Q (i + 1) rest (s.put d (.sl n l))) : SeqWP c ops Q i (⟨d, .move x, t, p, af, none⟩ :: rest) s := sq_ev hd (ev_mv h) k
theorem ass (hd : dOK c.nt d = true) (h : Less (s.op x) (.sl n l)) (k : SeqWP c ops Q (i + 1) rest (s.put d (.sl n l))) : SeqWP c ops Q i (⟨d, .assign x, t, p, af, none⟩ :: rest) s := sq_ev hd (ev_as h) k
theorem ymr (hj : gslot ops j = some u) (ht : Nat.blt u c.nt = true) (hb : Less (sget s.sl u) (.raw (.bool want))) (hd : dOK c.nt d = true) (h : Less (s.op x) (.raw v)) (k : SeqWP c ops Q (i + 1) rest (s.put d (.raw v))) : SeqWP c ops Q i (⟨d, .move x, t, p, af, some (j, want)⟩ :: rest) s := sq_yes hj ht hb hd (ev_mv h) k
end
theorem en35 : Ent Tryz.prog 35 := Ent.of Tryz.func35 (by kernel_rfl) rfl
theorem en62 : Ent Tryz.prog 62 := Ent.of Tryz.func62 (by kernel_rfl) rfl
theorem en89 : Ent Tryz.prog 89 := Ent.of Tryz.func89 (by kernel_rfl) rfl
theorem en90 : Ent Tryz.prog 90 := Ent.of Tryz.func90 (by kernel_rfl) rfl
theorem en91 : Ent Tryz.prog 91 := Ent.of Tryz.func91 (by kernel_rfl) rfl
set_option maxHeartbeats 400000 in
theorem in_pure (n lo hi : Int) : APure Tryz.prog 89 [I n, I lo, I hi] (B (inn n lo hi)) := by
 refine apure_of (rs := [.tmp 6]) Tryz.func89 rfl rfl (Nat.le_of_ble_eq_true rfl) (by simp [AV.pureL, AV.pureB, AV.pureE, pureE_map]) (rfl) fun e0 he0 => ?_
 refine aw_seq (aw_region ?_)
 refine asr (lr _) rfl ?_
 refine sq_nil (aw_seq (aw_region ?_))
 refine mvr (lr _) rfl ?_
 refine mvr (lr _) rfl ?_
 refine sq_ev rfl (ev_geq (lr _) (lr _)) ?_
 refine mvr (lr _) rfl ?_
 refine sq_split 10 (lr _) (fun g1 => ?_) (fun g1 => ?_)
 ·
  have g1' := g1
  try simp only [qq] at g1'
  refine sq_yes rfl rfl (less_b g1) rfl (ev_mv (v := .raw _) (lr _)) ?_
  refine sq_yes rfl rfl (less_b g1) rfl (ev_mv (v := .raw _) (lr _)) ?_
  refine sq_yes rfl rfl (less_b g1) rfl (ev_leq (lr _) (lr _)) ?_
  refine sq_ev rfl (ev_pickT (v := .raw _) (less_b g1) (lr _)) ?_
  refine asr (lr _) rfl ?_
  refine sq_nil (aw_ret ?_)
  exact retQ_pure (v := .raw _) rfl rfl (Less.eq (by simp [inn, *]))
 ·
  have g1' := g1
  try simp only [qq] at g1'
  refine sq_no rfl rfl (less_b g1) rfl rfl ?_
  refine sq_no rfl rfl (less_b g1) rfl rfl ?_
  refine sq_no rfl rfl (less_b g1) rfl rfl ?_
  refine sq_ev rfl (ev_pickF (v := .raw _) (less_b g1) (lr _)) ?_
  refine asr (lr _) rfl ?_
  refine sq_nil (aw_ret ?_)
  exact retQ_pure (v := .raw _) rfl rfl (Less.eq (by simp [inn, *]))
set_option maxHeartbeats 400000 in
theorem window_pure (lo hi : Int) : APure Tryz.prog 90 [.agg [I lo, I hi]] (B (wnd lo hi)) := by
 refine apure_of (rs := [.tmp 2]) Tryz.func90 rfl rfl (Nat.le_of_ble_eq_true rfl) (by simp [AV.pureL, AV.pureB, AV.pureE, pureE_map]) (rfl) fun e0 he0 => ?_
 refine aw_seq (aw_region ?_)
 refine sq_box rfl (lr _) rfl ?_
 refine asr (lr _) rfl ?_
 refine sq_nil (aw_seq (aw_region ?_))
 refine sq_ev rfl (ev_fieldAddr fo23_0 (lr _)) ?_
 refine sq_ev rfl (ev_load (lr _) rfl ty3 rfl) ?_
 refine sq_ev rfl (ev_call en89 (lr _) (in_pure _ _ _) ⟨lr _, lr _, lr _, trivial⟩) ?_
 refine mvr (lr _) rfl ?_
 refine sq_split 6 (lr _) (fun g1 => ?_) (fun g1 => ?_)
 ·
  have g1' := g1
  try simp only [qq] at g1'
  refine sq_yes rfl rfl (less_b g1) rfl (ev_fieldAddr fo23_1 (lr _)) ?_
  refine sq_yes rfl rfl (less_b g1) rfl (ev_load (lr _) rfl ty3 rfl) ?_
  refine sq_yes rfl rfl (less_b g1) rfl (ev_fieldAddr fo23_0 (lr _)) ?_
  refine sq_yes rfl rfl (less_b g1) rfl (ev_load (lr _) rfl ty3 rfl) ?_
  refine sq_yes rfl rfl (less_b g1) rfl (ev_call en89 (lr _) (in_pure _ _ _) ⟨lr _, lr _, lr _, trivial⟩) ?_
  refine sq_ev rfl (ev_pickT (v := .raw _) (less_b g1) (lr _)) ?_
  refine mvr (lr _) rfl ?_
  refine sq_split 13 (lr _) (fun g2 => ?_) (fun g2 => ?_)
  ·
   have g2' := g2
   try simp only [qq] at g2'
   simp only [inn, Bool.and_eq_true, decide_eq_true_eq] at g1' g2'
   refine sq_yes rfl rfl (less_b g2) rfl (ev_fieldAddr fo23_1 (lr _)) ?_
   refine sq_yes rfl rfl (less_b g2) rfl (ev_load (lr _) rfl ty3 rfl) ?_
   refine sq_yes rfl rfl (less_b g2) rfl (ev_fieldAddr fo23_0 (lr _)) ?_
   refine sq_yes rfl rfl (less_b g2) rfl (ev_load (lr _) rfl ty3 rfl) ?_
   refine sq_yes rfl rfl (less_b g2) rfl (ev_sub (lr _) (lr _) (wr (by omega) (by omega))) ?_
   refine sq_yes rfl rfl (less_b g2) rfl (ev_leq (lr _) (lr _)) ?_
   refine sq_ev rfl (ev_pickT (v := .raw _) (less_b g2) (lr _)) ?_
   refine asr (lr _) rfl ?_
   refine sq_nil (aw_ret ?_)
   exact retQ_pure (v := .raw _) rfl rfl (Less.eq (by simp [wnd, *]))
  ·
   have g2' := g2
   try simp only [qq] at g2'
   refine sq_no rfl rfl (less_b g2) rfl rfl ?_
   refine sq_no rfl rfl (less_b g2) rfl rfl ?_
   refine sq_no rfl rfl (less_b g2) rfl rfl ?_
   refine sq_no rfl rfl (less_b g2) rfl rfl ?_
   refine sq_no rfl rfl (less_b g2) rfl rfl ?_
   refine sq_no rfl rfl (less_b g2) rfl rfl ?_
   refine sq_ev rfl (ev_pickF (v := .raw _) (less_b g2) (lr _)) ?_
   refine asr (lr _) rfl ?_
   refine sq_nil (aw_ret ?_)
   exact retQ_pure (v := .raw _) rfl rfl (Less.eq (by simp [wnd, *]))
 ·
  have g1' := g1
  try simp only [qq] at g1'
  refine sq_no rfl rfl (less_b g1) rfl rfl ?_
  refine sq_no rfl rfl (less_b g1) rfl rfl ?_
  refine sq_no rfl rfl (less_b g1) rfl rfl ?_
  refine sq_no rfl rfl (less_b g1) rfl rfl ?_
  refine sq_no rfl rfl (less_b g1) rfl rfl ?_
  refine sq_ev rfl (ev_pickF (v := .raw _) (less_b g1) (lr _)) ?_
  refine mvr (lr _) rfl ?_
  refine sq_no rfl rfl (lr _) rfl rfl ?_
  refine sq_no rfl rfl (lr _) rfl rfl ?_
  refine sq_no rfl rfl (lr _) rfl rfl ?_
  refine sq_no rfl rfl (lr _) rfl rfl ?_
  refine sq_no rfl rfl (lr _) rfl rfl ?_
  refine sq_no rfl rfl (lr _) rfl rfl ?_
  refine pf rfl (lr _) (lr _) ?_
  refine asr (lr _) rfl ?_
  refine sq_nil (aw_ret ?_)
  exact retQ_pure (v := .raw _) rfl rfl (Less.eq (by simp [wnd, *]))
set_option maxHeartbeats 2000000 in
theorem scenes_pure (p : Pl) (hl : p.scenes.length ≤ 1000000) : APure Tryz.prog 91 [plan p] (B (decide (ScOK p.scenes))) := by
 refine apure_of (rs := [.tmp 2]) Tryz.func91 rfl rfl (Nat.le_of_ble_eq_true rfl) (by simp [AV.pureL, AV.pureB, AV.pureE, pureE_map]) (rfl) fun e0 he0 => ?_
 refine aw_seq (aw_region ?_)
 refine sq_box rfl (lr _) rfl ?_
 refine asr (lr _) rfl ?_
 refine sq_nil (aw_seq (aw_region ?_))
 refine asr (lr _) rfl ?_
 refine sq_nil (aw_seq (aw_seq (aw_region ?_)))
 refine asr (lr _) rfl ?_
 refine sq_nil (aw_block ?_)
 refine aw_loopk (ι := { k : Nat // k ≤ p.scenes.length ∧ ∀ i, (h : i < p.scenes.length) → i < k → scBad p.scenes i h = false }) [1] (fun i => [(3, I (loosies (p.scenes.take i.1))), (4, I i.1)]) (fun H i => H) (fun i => p.scenes.length - i.1) (⟨0, Nat.zero_le _, by omega⟩) ⟨lr _, lr _, lr _, trivial⟩ rfl ?_
 rintro ⟨k, hk, hok⟩
 dsimp only [keepS, St.put, sget, slotsOf, List.map_cons, List.map_nil, List.cons_append, List.nil_append, List.length_cons, List.length_nil, Nat.reduceBEq, Nat.reduceAdd, cond_true, cond_false]
 have hlo := loosies_le (p.scenes.take k)
 have hlt := List.length_take_le k p.scenes
 refine aw_seq (aw_seq (aw_region ?_))
 refine mvr (lr _) rfl ?_
 refine sq_ev rfl (ev_fieldAddr fo27_3 (lr _)) ?_
 refine sq_ev rfl (ev_load (lr _) rfl ty25 rfl) ?_
 refine sq_ev rfl (ev_len_map sl25 (lr _)) ?_
 refine sq_ev rfl (ev_lss (lr _) (lr _)) ?_
 refine sq_nil ?_
 refine aw_cond (lr _) (fun c1 => ?_) (fun c1 => ?_)
 ·
  have c1' := c1
  try simp only [qq] at c1'
  refine aw_skip (aw_seq (aw_block (aw_seq (aw_region ?_))))
  refine sq_ev rfl (ev_fieldAddr fo27_3 (lr _)) ?_
  refine sq_ev rfl (ev_load (lr _) rfl ty25 rfl) ?_
  refine mvr (lr _) rfl ?_
  refine sq_ev rfl (ev_index_map sl25 (lr _) (lr _) rfl (by omega)) ?_
  refine sq_ev rfl (ev_load_agg_i (lr _) ty84 (Nat.le_of_ble_eq_true rfl)) ?_
  refine sq_alloc rfl z84 ?_
  refine sq_store rfl (lr _) (lr _) rfl rfl ty84 rfl rfl ?_
  refine sq_nil (aw_seq (aw_seq ?_))
  refine aw_draw 50 mo (by kernel_rfl) ?_
  refine dr_ev rfl (ev_fieldAddr fo84_0 (lr _)) ?_
  refine dr_ev rfl (ev_load (lr _) rfl ty3 rfl) ?_
  refine dr_ev rfl (ev_call en89 (lr _) (in_pure _ _ _) ⟨lr _, lr _, lr _, trivial⟩) ?_
  refine dr_ev rfl (ev_not (lr _)) ?_
  refine dr_ev rfl (ev_mv (v := .raw _) (lr _)) ?_
  refine dr_split 22 (lr _) (fun g2 => ?_) (fun g2 => ?_)
  ·
   have g2' := g2
   try simp only [qq] at g2'
   refine dr_no rfl rfl (less_b g2) rfl rfl ?_
   refine dr_no rfl rfl (less_b g2) rfl rfl ?_
   refine dr_no rfl rfl (less_b g2) rfl rfl ?_
   refine dr_no rfl rfl (lr _) rfl rfl ?_
   refine dr_no rfl rfl (lr _) rfl rfl ?_
   refine dr_no rfl rfl (lr _) rfl rfl ?_
   refine dr_no rfl rfl (lr _) rfl rfl ?_
   refine dr_no rfl rfl (lr _) rfl rfl ?_
   refine dr_no rfl rfl (lr _) rfl rfl ?_
   refine dr_no rfl rfl (lr _) rfl rfl ?_
   refine dr_no rfl rfl (lr _) rfl rfl ?_
   refine dr_no rfl rfl (lr _) rfl rfl ?_
   refine dr_no rfl rfl (lr _) rfl rfl ?_
   refine dr_no rfl rfl (less_b g2) rfl rfl ?_
   refine dr_ev rfl (ev_pickT (v := .raw _) (less_b g2) (lr _)) ?_
   refine dr_ev rfl (ev_mv (v := .raw _) (lr _)) ?_
   refine dr_no rfl rfl (lr _) rfl rfl ?_
   refine dr_no rfl rfl (lr _) rfl rfl ?_
   refine dr_no rfl rfl (lr _) rfl rfl ?_
   refine dr_no rfl rfl (lr _) rfl rfl ?_
   refine dr_ev rfl (ev_pickT (v := .raw _) (lr _) (lr _)) ?_
   refine dr_ev rfl (ev_mv (v := .raw _) (lr _)) ?_
   refine dr_no rfl rfl (lr _) rfl rfl ?_
   refine dr_no rfl rfl (lr _) rfl rfl ?_
   refine dr_no rfl rfl (lr _) rfl rfl ?_
   refine dr_no rfl rfl (lr _) rfl rfl ?_
   refine dr_no rfl rfl (lr _) rfl rfl ?_
   refine dr_no rfl rfl (lr _) rfl rfl ?_
   refine dr_ev rfl (ev_pickT (v := .raw _) (lr _) (lr _)) ?_
   refine dr_ev rfl (ev_mv (v := .raw _) (lr _)) ?_
   refine dr_no rfl rfl (lr _) rfl rfl ?_
   refine dr_no rfl rfl (lr _) rfl rfl ?_
   refine dr_no rfl rfl (lr _) rfl rfl ?_
   refine dr_no rfl rfl (lr _) rfl rfl ?_
   refine dr_no rfl rfl (lr _) rfl rfl ?_
   refine dr_no rfl rfl (lr _) rfl rfl ?_
   refine dr_no rfl rfl (lr _) rfl rfl ?_
   refine dr_no rfl rfl (lr _) rfl rfl ?_
   refine dr_ev rfl (ev_pickT (v := .raw _) (lr _) (lr _)) ?_
   refine dr_ev rfl (ev_mv (v := .raw _) (lr _)) ?_
   refine dr_no rfl rfl (lr _) rfl rfl ?_
   refine dr_no rfl rfl (lr _) rfl rfl ?_
   refine dr_no rfl rfl (lr _) rfl rfl ?_
   refine dr_no rfl rfl (lr _) rfl rfl ?_
   refine dr_ev rfl (ev_pickT (v := .raw _) (lr _) (lr _)) ?_
   refine dr_end (sq_nil ?_)
   refine aw_true (lr _) ?_
   refine aw_seq (aw_region ?_)
   refine asr (lr _) rfl ?_
   refine sq_nil (aw_ret ?_)
   exact retQ_pure (v := .raw _) rfl rfl (Less.eq (by rw [scOK_bad (i := k) (by omega) (by simp [scBad, *])]))
  ·
   have g2' := g2
   try simp only [qq] at g2'
   refine dr_yes rfl rfl (less_b g2) rfl (ev_mv (v := .raw _) (lr _)) ?_
   refine dr_yes rfl rfl (less_b g2) rfl (ev_gtr (lr _) (lr _)) ?_
   refine dr_yes rfl rfl (less_b g2) rfl (ev_mv (v := .raw _) (lr _)) ?_
   refine dr_split 25 (lr _) (fun g3 => ?_) (fun g3 => ?_)
   ·
    have g3' := g3
    try simp only [qq] at g3'
    have g3n : 0 < k := by omega
    refine dr_yes rfl rfl (less_b g3) rfl (ev_fieldAddr fo84_0 (lr _)) ?_
    refine dr_yes rfl rfl (less_b g3) rfl (ev_load (lr _) rfl ty3 rfl) ?_
    refine dr_yes rfl rfl (less_b g3) rfl (ev_fieldAddr fo27_3 (lr _)) ?_
    refine dr_yes rfl rfl (less_b g3) rfl (ev_load (lr _) rfl ty25 rfl) ?_
    refine dr_yes rfl rfl (less_b g3) rfl (ev_mv (v := .raw _) (lr _)) ?_
    refine dr_yes rfl rfl (less_b g3) rfl (ev_sub (lr _) (lr _) (wr (by omega) (by omega))) ?_
    refine dr_yes rfl rfl (less_b g3) rfl (ev_index_map sl25 (lr _) (lr _) (show ((k : Int) - 1) = ((k - 1 : Nat) : Int) by omega) (by omega)) ?_
    refine dr_yes rfl rfl (less_b g3) rfl (ev_fieldAddr_i fo84_0 (lr _)) ?_
    refine dr_yes rfl rfl (less_b g3) rfl (ev_load_i (lr _) ty3 rfl) ?_
    refine dr_yes rfl rfl (less_b g3) rfl (ev_lss (lr _) (lr _)) ?_
    refine dr_yes rfl rfl (less_b g2) rfl (ev_pickT (v := .raw _) (less_b g3) (lr _)) ?_
    refine dr_ev rfl (ev_pickF (v := .raw _) (less_b g2) (lr _)) ?_
    refine dr_ev rfl (ev_mv (v := .raw _) (lr _)) ?_
    refine dr_split 38 (lr _) (fun g4 => ?_) (fun g4 => ?_)
    ·
     have g4' := g4
     try simp only [qq] at g4'
     refine dr_no rfl rfl (less_b g4) rfl rfl ?_
     refine dr_no rfl rfl (less_b g4) rfl rfl ?_
     refine dr_no rfl rfl (less_b g4) rfl rfl ?_
     refine dr_no rfl rfl (less_b g4) rfl rfl ?_
     refine dr_ev rfl (ev_pickT (v := .raw _) (less_b g4) (lr _)) ?_
     refine dr_ev rfl (ev_mv (v := .raw _) (lr _)) ?_
     refine dr_no rfl rfl (lr _) rfl rfl ?_
     refine dr_no rfl rfl (lr _) rfl rfl ?_
     refine dr_no rfl rfl (lr _) rfl rfl ?_
     refine dr_no rfl rfl (lr _) rfl rfl ?_
     refine dr_no rfl rfl (lr _) rfl rfl ?_
     refine dr_no rfl rfl (lr _) rfl rfl ?_
     refine dr_ev rfl (ev_pickT (v := .raw _) (lr _) (lr _)) ?_
     refine dr_ev rfl (ev_mv (v := .raw _) (lr _)) ?_
     refine dr_no rfl rfl (lr _) rfl rfl ?_
     refine dr_no rfl rfl (lr _) rfl rfl ?_
     refine dr_no rfl rfl (lr _) rfl rfl ?_
     refine dr_no rfl rfl (lr _) rfl rfl ?_
     refine dr_no rfl rfl (lr _) rfl rfl ?_
     refine dr_no rfl rfl (lr _) rfl rfl ?_
     refine dr_no rfl rfl (lr _) rfl rfl ?_
     refine dr_no rfl rfl (lr _) rfl rfl ?_
     refine dr_ev rfl (ev_pickT (v := .raw _) (lr _) (lr _)) ?_
     refine dr_ev rfl (ev_mv (v := .raw _) (lr _)) ?_
     refine dr_no rfl rfl (lr _) rfl rfl ?_
     refine dr_no rfl rfl (lr _) rfl rfl ?_
     refine dr_no rfl rfl (lr _) rfl rfl ?_
     refine dr_no rfl rfl (lr _) rfl rfl ?_
     refine dr_ev rfl (ev_pickT (v := .raw _) (lr _) (lr _)) ?_
     refine dr_end (sq_nil ?_)
     refine aw_true (lr _) ?_
     refine aw_seq (aw_region ?_)
     refine asr (lr _) rfl ?_
     refine sq_nil (aw_ret ?_)
     exact retQ_pure (v := .raw _) rfl rfl (Less.eq (by rw [scOK_bad (i := k) (by omega) (by simp [scBad, *])]))
    ·
     have g4' := g4
     try simp only [qq] at g4'
     refine dr_yes rfl rfl (less_b g4) rfl (ev_fieldAddr fo84_1 (lr _)) ?_
     refine dr_yes rfl rfl (less_b g4) rfl (ev_load (lr _) rfl ty3 rfl) ?_
     refine dr_yes rfl rfl (less_b g4) rfl (ev_call en89 (lr _) (in_pure _ _ _) ⟨lr _, lr _, lr _, trivial⟩) ?_
     refine dr_yes rfl rfl (less_b g4) rfl (ev_not (lr _)) ?_
     refine dr_ev rfl (ev_pickF (v := .raw _) (less_b g4) (lr _)) ?_
     refine dr_ev rfl (ev_mv (v := .raw _) (lr _)) ?_
     refine dr_split 44 (lr _) (fun g5 => ?_) (fun g5 => ?_)
     ·
      have g5' := g5
      try simp only [qq] at g5'
      refine dr_no rfl rfl (less_b g5) rfl rfl ?_
      refine dr_no rfl rfl (less_b g5) rfl rfl ?_
      refine dr_no rfl rfl (less_b g5) rfl rfl ?_
      refine dr_no rfl rfl (less_b g5) rfl rfl ?_
      refine dr_no rfl rfl (less_b g5) rfl rfl ?_
      refine dr_no rfl rfl (less_b g5) rfl rfl ?_
      refine dr_ev rfl (ev_pickT (v := .raw _) (less_b g5) (lr _)) ?_
      refine dr_ev rfl (ev_mv (v := .raw _) (lr _)) ?_
      refine dr_no rfl rfl (lr _) rfl rfl ?_
      refine dr_no rfl rfl (lr _) rfl rfl ?_
      refine dr_no rfl rfl (lr _) rfl rfl ?_
      refine dr_no rfl rfl (lr _) rfl rfl ?_
      refine dr_no rfl rfl (lr _) rfl rfl ?_
      refine dr_no rfl rfl (lr _) rfl rfl ?_
      refine dr_no rfl rfl (lr _) rfl rfl ?_
      refine dr_no rfl rfl (lr _) rfl rfl ?_
      refine dr_ev rfl (ev_pickT (v := .raw _) (lr _) (lr _)) ?_
      refine dr_ev rfl (ev_mv (v := .raw _) (lr _)) ?_
      refine dr_no rfl rfl (lr _) rfl rfl ?_
      refine dr_no rfl rfl (lr _) rfl rfl ?_
      refine dr_no rfl rfl (lr _) rfl rfl ?_
      refine dr_no rfl rfl (lr _) rfl rfl ?_
      refine dr_ev rfl (ev_pickT (v := .raw _) (lr _) (lr _)) ?_
      refine dr_end (sq_nil ?_)
      refine aw_true (lr _) ?_
      refine aw_seq (aw_region ?_)
      refine asr (lr _) rfl ?_
      refine sq_nil (aw_ret ?_)
      exact retQ_pure (v := .raw _) rfl rfl (Less.eq (by rw [scOK_bad (i := k) (by omega) (by simp [scBad, *])]))
     ·
      have g5' := g5
      try simp only [qq] at g5'
      refine dr_yes rfl rfl (less_b g5) rfl (ev_fieldAddr fo84_2 (lr _)) ?_
      refine dr_yes rfl rfl (less_b g5) rfl (ev_load (lr _) rfl ty3 rfl) ?_
      refine dr_yes rfl rfl (less_b g5) rfl (ev_fieldAddr fo84_1 (lr _)) ?_
      refine dr_yes rfl rfl (less_b g5) rfl (ev_load (lr _) rfl ty3 rfl) ?_
      refine dr_yes rfl rfl (less_b g5) rfl (ev_call en89 (lr _) (in_pure _ _ _) ⟨lr _, lr _, lr _, trivial⟩) ?_
      refine dr_yes rfl rfl (less_b g5) rfl (ev_not (lr _)) ?_
      refine dr_ev rfl (ev_pickF (v := .raw _) (less_b g5) (lr _)) ?_
      refine dr_ev rfl (ev_mv (v := .raw _) (lr _)) ?_
      refine dr_split 52 (lr _) (fun g6 => ?_) (fun g6 => ?_)
      ·
       have g6' := g6
       try simp only [qq] at g6'
       refine dr_no rfl rfl (less_b g6) rfl rfl ?_
       refine dr_no rfl rfl (less_b g6) rfl rfl ?_
       refine dr_no rfl rfl (less_b g6) rfl rfl ?_
       refine dr_no rfl rfl (less_b g6) rfl rfl ?_
       refine dr_no rfl rfl (less_b g6) rfl rfl ?_
       refine dr_no rfl rfl (less_b g6) rfl rfl ?_
       refine dr_no rfl rfl (less_b g6) rfl rfl ?_
       refine dr_no rfl rfl (less_b g6) rfl rfl ?_
       refine dr_ev rfl (ev_pickT (v := .raw _) (less_b g6) (lr _)) ?_
       refine dr_ev rfl (ev_mv (v := .raw _) (lr _)) ?_
       refine dr_no rfl rfl (lr _) rfl rfl ?_
       refine dr_no rfl rfl (lr _) rfl rfl ?_
       refine dr_no rfl rfl (lr _) rfl rfl ?_
       refine dr_no rfl rfl (lr _) rfl rfl ?_
       refine dr_ev rfl (ev_pickT (v := .raw _) (lr _) (lr _)) ?_
       refine dr_end (sq_nil ?_)
       refine aw_true (lr _) ?_
       refine aw_seq (aw_region ?_)
       refine asr (lr _) rfl ?_
       refine sq_nil (aw_ret ?_)
       exact retQ_pure (v := .raw _) rfl rfl (Less.eq (by rw [scOK_bad (i := k) (by omega) (by simp [scBad, *])]))
      ·
       have g6' := g6
       try simp only [qq] at g6'
       refine dr_yes rfl rfl (less_b g6) rfl (ev_fieldAddr fo84_4 (lr _)) ?_
       refine dr_yes rfl rfl (less_b g6) rfl (ev_load (lr _) rfl ty3 rfl) ?_
       refine dr_yes rfl rfl (less_b g6) rfl (ev_fieldAddr fo27_3 (lr _)) ?_
       refine dr_yes rfl rfl (less_b g6) rfl (ev_load (lr _) rfl ty25 rfl) ?_
       refine dr_yes rfl rfl (less_b g6) rfl (ev_len_map sl25 (lr _)) ?_
       refine dr_yes rfl rfl (less_b g6) rfl (ev_sub (lr _) (lr _) (wr (by omega) (by omega))) ?_
       refine dr_yes rfl rfl (less_b g6) rfl (ev_call en89 (lr _) (in_pure _ _ _) ⟨lr _, lr _, lr _, trivial⟩) ?_
       refine dr_yes rfl rfl (less_b g6) rfl (ev_not (lr _)) ?_
       refine dr_ev rfl (ev_pickF (v := .raw _) (less_b g6) (lr _)) ?_
       refine dr_ev rfl (ev_mv (v := .raw _) (lr _)) ?_
       refine dr_split 62 (lr _) (fun g7 => ?_) (fun g7 => ?_)
       ·
        have g7' := g7
        try simp only [qq] at g7'
        refine dr_no rfl rfl (less_b g7) rfl rfl ?_
        refine dr_no rfl rfl (less_b g7) rfl rfl ?_
        refine dr_no rfl rfl (less_b g7) rfl rfl ?_
        refine dr_no rfl rfl (less_b g7) rfl rfl ?_
        refine dr_ev rfl (ev_pickT (v := .raw _) (less_b g7) (lr _)) ?_
        refine dr_end (sq_nil ?_)
        refine aw_true (lr _) ?_
        refine aw_seq (aw_region ?_)
        refine asr (lr _) rfl ?_
        refine sq_nil (aw_ret ?_)
        exact retQ_pure (v := .raw _) rfl rfl (Less.eq (by rw [scOK_bad (i := k) (by omega) (by simp [scBad, *])]))
       ·
        have g7' := g7
        try simp only [qq] at g7'
        refine dr_yes rfl rfl (less_b g7) rfl (ev_fieldAddr fo84_4 (lr _)) ?_
        refine dr_yes rfl rfl (less_b g7) rfl (ev_load (lr _) rfl ty3 rfl) ?_
        refine dr_yes rfl rfl (less_b g7) rfl (ev_mv (v := .raw _) (lr _)) ?_
        refine dr_yes rfl rfl (less_b g7) rfl (ev_eql (lr _) (lr _)) ?_
        refine dr_ev rfl (ev_pickF (v := .raw _) (less_b g7) (lr _)) ?_
        refine dr_end (sq_nil ?_)
        refine aw_cond (lr _) (fun c8 => ?_) (fun c8 => ?_)
        ·
         have c8' := c8
         try simp only [qq] at c8'
         refine aw_seq (aw_region ?_)
         refine asr (lr _) rfl ?_
         refine sq_nil (aw_ret ?_)
         exact retQ_pure (v := .raw _) rfl rfl (Less.eq (by rw [scOK_bad (i := k) (by omega) (by simp [scBad, *])]))
        ·
         have c8' := c8
         try simp only [qq] at c8'
         refine aw_skip (aw_seq (aw_region ?_))
         refine sq_ev rfl (ev_fieldAddr fo84_3 (lr _)) ?_
         refine sq_ev rfl (ev_load (lr _) rfl ty4 rfl) ?_
         refine sq_nil ?_
         refine aw_cond (lr _) (fun c9 => ?_) (fun c9 => ?_)
         ·
          have c9' := c9
          try simp only [qq] at c9'
          refine aw_region ?_
          refine mvr (lr _) rfl ?_
          refine sq_ev rfl (ev_add (lr _) (lr _) (wr (by omega) (by omega))) ?_
          refine asr (lr _) rfl ?_
          refine sq_nil (aw_region ?_)
          refine mvr (lr _) rfl ?_
          refine sq_ev rfl (ev_add (lr _) (lr _) (wr (by omega) (by omega))) ?_
          refine asr (lr _) rfl ?_
          refine sq_nil ?_
          have hstep := loosies_take (l := p.scenes) (k := k) (by omega)
          have hgood : scBad p.scenes k (by omega) = false := by simp [scBad, *]
          exact ⟨⟨k + 1, by omega, fun i h hi => (by by_cases e : i = k; (subst e; exact hgood); exact hok i h (by omega))⟩, by simp only; omega, Sub.fin 1 ⟨less_int (by rw [hstep]; simp [*]), lr _, lr _, trivial⟩ rfl (by simp [slotsIn, objsIn, sget, keepS, AObj.inB, AV.inB, AV.inL, AV.inE, inE_map]) (by simp [slotsIn, objsIn, sget, keepS, AObj.inB, AV.inB, AV.inL, AV.inE, inE_map]) (by simp [he0])⟩
         ·
          have c9' := c9
          try simp only [qq] at c9'
          refine aw_skip (aw_region ?_)
          refine mvr (lr _) rfl ?_
          refine sq_ev rfl (ev_add (lr _) (lr _) (wr (by omega) (by omega))) ?_
          refine asr (lr _) rfl ?_
          refine sq_nil ?_
          have hstep := loosies_take (l := p.scenes) (k := k) (by omega)
          have hgood : scBad p.scenes k (by omega) = false := by simp [scBad, *]
          exact ⟨⟨k + 1, by omega, fun i h hi => (by by_cases e : i = k; (subst e; exact hgood); exact hok i h (by omega))⟩, by simp only; omega, Sub.fin 1 ⟨less_int (by rw [hstep]; simp [*]), lr _, lr _, trivial⟩ rfl (by simp [slotsIn, objsIn, sget, keepS, AObj.inB, AV.inB, AV.inL, AV.inE, inE_map]) (by simp [slotsIn, objsIn, sget, keepS, AObj.inB, AV.inB, AV.inL, AV.inE, inE_map]) (by simp [he0])⟩
   ·
    have g3' := g3
    try simp only [qq] at g3'
    have g3n : ¬ (0 < k) := by omega
    refine dr_no rfl rfl (less_b g3) rfl rfl ?_
    refine dr_no rfl rfl (less_b g3) rfl rfl ?_
    refine dr_no rfl rfl (less_b g3) rfl rfl ?_
    refine dr_no rfl rfl (less_b g3) rfl rfl ?_
    refine dr_no rfl rfl (less_b g3) rfl rfl ?_
    refine dr_no rfl rfl (less_b g3) rfl rfl ?_
    refine dr_no rfl rfl (less_b g3) rfl rfl ?_
    refine dr_no rfl rfl (less_b g3) rfl rfl ?_
    refine dr_no rfl rfl (less_b g3) rfl rfl ?_
    refine dr_no rfl rfl (less_b g3) rfl rfl ?_
    refine dr_yes rfl rfl (less_b g2) rfl (ev_pickF (v := .raw _) (less_b g3) (lr _)) ?_
    refine dr_ev rfl (ev_pickF (v := .raw _) (less_b g2) (lr _)) ?_
    refine dr_ev rfl (ev_mv (v := .raw _) (lr _)) ?_
    refine dr_yes rfl rfl (lr _) rfl (ev_fieldAddr fo84_1 (lr _)) ?_
    refine dr_yes rfl rfl (lr _) rfl (ev_load (lr _) rfl ty3 rfl) ?_
    refine dr_yes rfl rfl (lr _) rfl (ev_call en89 (lr _) (in_pure _ _ _) ⟨lr _, lr _, lr _, trivial⟩) ?_
    refine dr_yes rfl rfl (lr _) rfl (ev_not (lr _)) ?_
    refine dr_ev rfl (ev_pickF (v := .raw _) (lr _) (lr _)) ?_
    refine dr_ev rfl (ev_mv (v := .raw _) (lr _)) ?_
    refine dr_split 44 (lr _) (fun g10 => ?_) (fun g10 => ?_)
    ·
     have g10' := g10
     try simp only [qq] at g10'
     refine dr_no rfl rfl (less_b g10) rfl rfl ?_
     refine dr_no rfl rfl (less_b g10) rfl rfl ?_
     refine dr_no rfl rfl (less_b g10) rfl rfl ?_
     refine dr_no rfl rfl (less_b g10) rfl rfl ?_
     refine dr_no rfl rfl (less_b g10) rfl rfl ?_
     refine dr_no rfl rfl (less_b g10) rfl rfl ?_
     refine dr_ev rfl (ev_pickT (v := .raw _) (less_b g10) (lr _)) ?_
     refine dr_ev rfl (ev_mv (v := .raw _) (lr _)) ?_
     refine dr_no rfl rfl (lr _) rfl rfl ?_
     refine dr_no rfl rfl (lr _) rfl rfl ?_
     refine dr_no rfl rfl (lr _) rfl rfl ?_
     refine dr_no rfl rfl (lr _) rfl rfl ?_
     refine dr_no rfl rfl (lr _) rfl rfl ?_
     refine dr_no rfl rfl (lr _) rfl rfl ?_
     refine dr_no rfl rfl (lr _) rfl rfl ?_
     refine dr_no rfl rfl (lr _) rfl rfl ?_
     refine dr_ev rfl (ev_pickT (v := .raw _) (lr _) (lr _)) ?_
     refine dr_ev rfl (ev_mv (v := .raw _) (lr _)) ?_
     refine dr_no rfl rfl (lr _) rfl rfl ?_
     refine dr_no rfl rfl (lr _) rfl rfl ?_
     refine dr_no rfl rfl (lr _) rfl rfl ?_
     refine dr_no rfl rfl (lr _) rfl rfl ?_
     refine dr_ev rfl (ev_pickT (v := .raw _) (lr _) (lr _)) ?_
     refine dr_end (sq_nil ?_)
     refine aw_true (lr _) ?_
     refine aw_seq (aw_region ?_)
     refine asr (lr _) rfl ?_
     refine sq_nil (aw_ret ?_)
     exact retQ_pure (v := .raw _) rfl rfl (Less.eq (by rw [scOK_bad (i := k) (by omega) (by simp [scBad, *])]))
    ·
     have g10' := g10
     try simp only [qq] at g10'
     refine dr_yes rfl rfl (less_b g10) rfl (ev_fieldAddr fo84_2 (lr _)) ?_
     refine dr_yes rfl rfl (less_b g10) rfl (ev_load (lr _) rfl ty3 rfl) ?_
     refine dr_yes rfl rfl (less_b g10) rfl (ev_fieldAddr fo84_1 (lr _)) ?_
     refine dr_yes rfl rfl (less_b g10) rfl (ev_load (lr _) rfl ty3 rfl) ?_
     refine dr_yes rfl rfl (less_b g10) rfl (ev_call en89 (lr _) (in_pure _ _ _) ⟨lr _, lr _, lr _, trivial⟩) ?_
     refine dr_yes rfl rfl (less_b g10) rfl (ev_not (lr _)) ?_
     refine dr_ev rfl (ev_pickF (v := .raw _) (less_b g10) (lr _)) ?_
     refine dr_ev rfl (ev_mv (v := .raw _) (lr _)) ?_
     refine dr_split 52 (lr _) (fun g11 => ?_) (fun g11 => ?_)
     ·
      have g11' := g11
      try simp only [qq] at g11'
      refine dr_no rfl rfl (less_b g11) rfl rfl ?_
      refine dr_no rfl rfl (less_b g11) rfl rfl ?_
      refine dr_no rfl rfl (less_b g11) rfl rfl ?_
      refine dr_no rfl rfl (less_b g11) rfl rfl ?_
      refine dr_no rfl rfl (less_b g11) rfl rfl ?_
      refine dr_no rfl rfl (less_b g11) rfl rfl ?_
      refine dr_no rfl rfl (less_b g11) rfl rfl ?_
      refine dr_no rfl rfl (less_b g11) rfl rfl ?_
      refine dr_ev rfl (ev_pickT (v := .raw _) (less_b g11) (lr _)) ?_
      refine dr_ev rfl (ev_mv (v := .raw _) (lr _)) ?_
      refine dr_no rfl rfl (lr _) rfl rfl ?_
      refine dr_no rfl rfl (lr _) rfl rfl ?_
      refine dr_no rfl rfl (lr _) rfl rfl ?_
      refine dr_no rfl rfl (lr _) rfl rfl ?_
      refine dr_ev rfl (ev_pickT (v := .raw _) (lr _) (lr _)) ?_
      refine dr_end (sq_nil ?_)
      refine aw_true (lr _) ?_
      refine aw_seq (aw_region ?_)
      refine asr (lr _) rfl ?_
      refine sq_nil (aw_ret ?_)
      exact retQ_pure (v := .raw _) rfl rfl (Less.eq (by rw [scOK_bad (i := k) (by omega) (by simp [scBad, *])]))
     ·
      have g11' := g11
      try simp only [qq] at g11'
      refine dr_yes rfl rfl (less_b g11) rfl (ev_fieldAddr fo84_4 (lr _)) ?_
      refine dr_yes rfl rfl (less_b g11) rfl (ev_load (lr _) rfl ty3 rfl) ?_
      refine dr_yes rfl rfl (less_b g11) rfl (ev_fieldAddr fo27_3 (lr _)) ?_
      refine dr_yes rfl rfl (less_b g11) rfl (ev_load (lr _) rfl ty25 rfl) ?_
      refine dr_yes rfl rfl (less_b g11) rfl (ev_len_map sl25 (lr _)) ?_
      refine dr_yes rfl rfl (less_b g11) rfl (ev_sub (lr _) (lr _) (wr (by omega) (by omega))) ?_
      refine dr_yes rfl rfl (less_b g11) rfl (ev_call en89 (lr _) (in_pure _ _ _) ⟨lr _, lr _, lr _, trivial⟩) ?_
      refine dr_yes rfl rfl (less_b g11) rfl (ev_not (lr _)) ?_
      refine dr_ev rfl (ev_pickF (v := .raw _) (less_b g11) (lr _)) ?_
      refine dr_ev rfl (ev_mv (v := .raw _) (lr _)) ?_
      refine dr_split 62 (lr _) (fun g12 => ?_) (fun g12 => ?_)
      ·
       have g12' := g12
       try simp only [qq] at g12'
       refine dr_no rfl rfl (less_b g12) rfl rfl ?_
       refine dr_no rfl rfl (less_b g12) rfl rfl ?_
       refine dr_no rfl rfl (less_b g12) rfl rfl ?_
       refine dr_no rfl rfl (less_b g12) rfl rfl ?_
       refine dr_ev rfl (ev_pickT (v := .raw _) (less_b g12) (lr _)) ?_
       refine dr_end (sq_nil ?_)
       refine aw_true (lr _) ?_
       refine aw_seq (aw_region ?_)
       refine asr (lr _) rfl ?_
       refine sq_nil (aw_ret ?_)
       exact retQ_pure (v := .raw _) rfl rfl (Less.eq (by rw [scOK_bad (i := k) (by omega) (by simp [scBad, *])]))
      ·
       have g12' := g12
       try simp only [qq] at g12'
       refine dr_yes rfl rfl (less_b g12) rfl (ev_fieldAddr fo84_4 (lr _)) ?_
       refine dr_yes rfl rfl (less_b g12) rfl (ev_load (lr _) rfl ty3 rfl) ?_
       refine dr_yes rfl rfl (less_b g12) rfl (ev_mv (v := .raw _) (lr _)) ?_
       refine dr_yes rfl rfl (less_b g12) rfl (ev_eql (lr _) (lr _)) ?_
       refine dr_ev rfl (ev_pickF (v := .raw _) (less_b g12) (lr _)) ?_
       refine dr_end (sq_nil ?_)
       refine aw_cond (lr _) (fun c13 => ?_) (fun c13 => ?_)
       ·
        have c13' := c13
        try simp only [qq] at c13'
        refine aw_seq (aw_region ?_)
        refine asr (lr _) rfl ?_
        refine sq_nil (aw_ret ?_)
        exact retQ_pure (v := .raw _) rfl rfl (Less.eq (by rw [scOK_bad (i := k) (by omega) (by simp [scBad, *])]))
       ·
        have c13' := c13
        try simp only [qq] at c13'
        refine aw_skip (aw_seq (aw_region ?_))
        refine sq_ev rfl (ev_fieldAddr fo84_3 (lr _)) ?_
        refine sq_ev rfl (ev_load (lr _) rfl ty4 rfl) ?_
        refine sq_nil ?_
        refine aw_cond (lr _) (fun c14 => ?_) (fun c14 => ?_)
        ·
         have c14' := c14
         try simp only [qq] at c14'
         refine aw_region ?_
         refine mvr (lr _) rfl ?_
         refine sq_ev rfl (ev_add (lr _) (lr _) (wr (by omega) (by omega))) ?_
         refine asr (lr _) rfl ?_
         refine sq_nil (aw_region ?_)
         refine mvr (lr _) rfl ?_
         refine sq_ev rfl (ev_add (lr _) (lr _) (wr (by omega) (by omega))) ?_
         refine asr (lr _) rfl ?_
         refine sq_nil ?_
         have hstep := loosies_take (l := p.scenes) (k := k) (by omega)
         have hgood : scBad p.scenes k (by omega) = false := by simp [scBad, *]
         exact ⟨⟨k + 1, by omega, fun i h hi => (by by_cases e : i = k; (subst e; exact hgood); exact hok i h (by omega))⟩, by simp only; omega, Sub.fin 1 ⟨less_int (by rw [hstep]; simp [*]), lr _, lr _, trivial⟩ rfl (by simp [slotsIn, objsIn, sget, keepS, AObj.inB, AV.inB, AV.inL, AV.inE, inE_map]) (by simp [slotsIn, objsIn, sget, keepS, AObj.inB, AV.inB, AV.inL, AV.inE, inE_map]) (by simp [he0])⟩
        ·
         have c14' := c14
         try simp only [qq] at c14'
         refine aw_skip (aw_region ?_)
         refine mvr (lr _) rfl ?_
         refine sq_ev rfl (ev_add (lr _) (lr _) (wr (by omega) (by omega))) ?_
         refine asr (lr _) rfl ?_
         refine sq_nil ?_
         have hstep := loosies_take (l := p.scenes) (k := k) (by omega)
         have hgood : scBad p.scenes k (by omega) = false := by simp [scBad, *]
         exact ⟨⟨k + 1, by omega, fun i h hi => (by by_cases e : i = k; (subst e; exact hgood); exact hok i h (by omega))⟩, by simp only; omega, Sub.fin 1 ⟨less_int (by rw [hstep]; simp [*]), lr _, lr _, trivial⟩ rfl (by simp [slotsIn, objsIn, sget, keepS, AObj.inB, AV.inB, AV.inL, AV.inE, inE_map]) (by simp [slotsIn, objsIn, sget, keepS, AObj.inB, AV.inB, AV.inL, AV.inE, inE_map]) (by simp [he0])⟩
 ·
  have c1' := c1
  try simp only [qq] at c1'
  refine aw_exit (aw_seq (aw_region ?_))
  refine mvr (lr _) rfl ?_
  refine sq_ev rfl (ev_leq (lr _) (lr _)) ?_
  refine asr (lr _) rfl ?_
  refine sq_nil (aw_ret ?_)
  exact retQ_pure (v := .raw _) rfl rfl (Less.eq (by rw [scOK_end hk c1' hok]))
set_option maxHeartbeats 1000000 in
theorem plan_pure (p : Pl) (hl : p.scenes.length ≤ 1000000) : APure Tryz.prog 24 [plan p] (B (PlOK p)) := by
 refine apure_of (rs := [.tmp 2]) Tryz.func24 rfl rfl (Nat.le_of_ble_eq_true rfl) (by simp [AV.pureL, AV.pureB, AV.pureE, pureE_map]) (rfl) fun e0 he0 => ?_
 refine aw_seq (aw_region ?_)
 refine sq_box rfl (lr _) rfl ?_
 refine asr (lr _) rfl ?_
 refine sq_nil (aw_seq (aw_region ?_))
 refine sq_ev rfl (ev_fieldAddr fo27_0 (lr _)) ?_
 refine sq_ev rfl (ev_load (lr _) rfl ty3 rfl) ?_
 refine sq_ev rfl (ev_call en89 (lr _) (in_pure _ _ _) ⟨lr _, lr _, lr _, trivial⟩) ?_
 refine mvr (lr _) rfl ?_
 refine sq_split 6 (lr _) (fun g1 => ?_) (fun g1 => ?_)
 ·
  have g1' := g1
  try simp only [qq] at g1'
  refine sq_yes rfl rfl (less_b g1) rfl (ev_fieldAddr fo27_1 (lr _)) ?_
  refine sq_yes rfl rfl (less_b g1) rfl (ev_index_box ar24 (lr _) (lr _) rfl (by decide)) ?_
  refine sq_yes rfl rfl (less_b g1) rfl (ev_load_agg (lr _) rfl ty23 rfl) ?_
  refine sq_yes rfl rfl (less_b g1) rfl (ev_call en90 (lr _) (window_pure _ _) ⟨lr _, trivial⟩) ?_
  refine sq_ev rfl (ev_pickT (v := .raw _) (less_b g1) (lr _)) ?_
  refine mvr (lr _) rfl ?_
  refine sq_split 12 (lr _) (fun g2 => ?_) (fun g2 => ?_)
  ·
   have g2' := g2
   try simp only [qq] at g2'
   refine sq_yes rfl rfl (less_b g2) rfl (ev_fieldAddr fo27_1 (lr _)) ?_
   refine sq_yes rfl rfl (less_b g2) rfl (ev_index_box ar24 (lr _) (lr _) rfl (by decide)) ?_
   refine sq_yes rfl rfl (less_b g2) rfl (ev_load_agg (lr _) rfl ty23 rfl) ?_
   refine sq_yes rfl rfl (less_b g2) rfl (ev_call en90 (lr _) (window_pure _ _) ⟨lr _, trivial⟩) ?_
   refine sq_ev rfl (ev_pickT (v := .raw _) (less_b g2) (lr _)) ?_
   refine mvr (lr _) rfl ?_
   refine sq_split 18 (lr _) (fun g3 => ?_) (fun g3 => ?_)
   ·
    have g3' := g3
    try simp only [qq] at g3'
    refine sq_yes rfl rfl (less_b g3) rfl (ev_fieldAddr fo27_2 (lr _)) ?_
    refine sq_yes rfl rfl (less_b g3) rfl (ev_load_agg (lr _) rfl ty23 rfl) ?_
    refine sq_yes rfl rfl (less_b g3) rfl (ev_call en90 (lr _) (window_pure _ _) ⟨lr _, trivial⟩) ?_
    refine sq_ev rfl (ev_pickT (v := .raw _) (less_b g3) (lr _)) ?_
    refine mvr (lr _) rfl ?_
    refine sq_split 23 (lr _) (fun g4 => ?_) (fun g4 => ?_)
    ·
     have g4' := g4
     try simp only [qq] at g4'
     refine sq_yes rfl rfl (less_b g4) rfl (ev_fieldAddr fo27_3 (lr _)) ?_
     refine sq_yes rfl rfl (less_b g4) rfl (ev_load (lr _) rfl ty25 rfl) ?_
     refine sq_yes rfl rfl (less_b g4) rfl (ev_len_map sl25 (lr _)) ?_
     refine sq_yes rfl rfl (less_b g4) rfl (ev_call en89 (lr _) (in_pure _ _ _) ⟨lr _, lr _, lr _, trivial⟩) ?_
     refine sq_ev rfl (ev_pickT (v := .raw _) (less_b g4) (lr _)) ?_
     refine mvr (lr _) rfl ?_
     refine sq_split 29 (lr _) (fun g5 => ?_) (fun g5 => ?_)
     ·
      have g5' := g5
      try simp only [qq] at g5'
      refine sq_yes rfl rfl (less_b g5) rfl (ev_load_agg (lr _) rfl ty27 rfl) ?_
      refine sq_yes rfl rfl (less_b g5) rfl (ev_call en91 (lr _) (scenes_pure _ hl) ⟨lr _, trivial⟩) ?_
      refine sq_ev rfl (ev_pickT (v := .raw _) (less_b g5) (lr _)) ?_
      refine asr (lr _) rfl ?_
      refine sq_nil (aw_ret ?_)
      exact retQ_pure (v := .raw _) rfl rfl (Less.eq (by simp [PlOK, *]))
     ·
      have g5' := g5
      try simp only [qq] at g5'
      refine sq_no rfl rfl (less_b g5) rfl rfl ?_
      refine sq_no rfl rfl (less_b g5) rfl rfl ?_
      refine sq_ev rfl (ev_pickF (v := .raw _) (less_b g5) (lr _)) ?_
      refine asr (lr _) rfl ?_
      refine sq_nil (aw_ret ?_)
      exact retQ_pure (v := .raw _) rfl rfl (Less.eq (by simp [PlOK, *]))
    ·
     have g4' := g4
     try simp only [qq] at g4'
     refine sq_no rfl rfl (less_b g4) rfl rfl ?_
     refine sq_no rfl rfl (less_b g4) rfl rfl ?_
     refine sq_no rfl rfl (less_b g4) rfl rfl ?_
     refine sq_no rfl rfl (less_b g4) rfl rfl ?_
     refine sq_ev rfl (ev_pickF (v := .raw _) (less_b g4) (lr _)) ?_
     refine mvr (lr _) rfl ?_
     refine sq_no rfl rfl (lr _) rfl rfl ?_
     refine sq_no rfl rfl (lr _) rfl rfl ?_
     refine pf rfl (lr _) (lr _) ?_
     refine asr (lr _) rfl ?_
     refine sq_nil (aw_ret ?_)
     exact retQ_pure (v := .raw _) rfl rfl (Less.eq (by simp [PlOK, *]))
   ·
    have g3' := g3
    try simp only [qq] at g3'
    refine sq_no rfl rfl (less_b g3) rfl rfl ?_
    refine sq_no rfl rfl (less_b g3) rfl rfl ?_
    refine sq_no rfl rfl (less_b g3) rfl rfl ?_
    refine sq_ev rfl (ev_pickF (v := .raw _) (less_b g3) (lr _)) ?_
    refine mvr (lr _) rfl ?_
    refine sq_no rfl rfl (lr _) rfl rfl ?_
    refine sq_no rfl rfl (lr _) rfl rfl ?_
    refine sq_no rfl rfl (lr _) rfl rfl ?_
    refine sq_no rfl rfl (lr _) rfl rfl ?_
    refine pf rfl (lr _) (lr _) ?_
    refine mvr (lr _) rfl ?_
    refine sq_no rfl rfl (lr _) rfl rfl ?_
    refine sq_no rfl rfl (lr _) rfl rfl ?_
    refine pf rfl (lr _) (lr _) ?_
    refine asr (lr _) rfl ?_
    refine sq_nil (aw_ret ?_)
    exact retQ_pure (v := .raw _) rfl rfl (Less.eq (by simp [PlOK, *]))
  ·
   have g2' := g2
   try simp only [qq] at g2'
   refine sq_no rfl rfl (less_b g2) rfl rfl ?_
   refine sq_no rfl rfl (less_b g2) rfl rfl ?_
   refine sq_no rfl rfl (less_b g2) rfl rfl ?_
   refine sq_no rfl rfl (less_b g2) rfl rfl ?_
   refine sq_ev rfl (ev_pickF (v := .raw _) (less_b g2) (lr _)) ?_
   refine mvr (lr _) rfl ?_
   refine sq_no rfl rfl (lr _) rfl rfl ?_
   refine sq_no rfl rfl (lr _) rfl rfl ?_
   refine sq_no rfl rfl (lr _) rfl rfl ?_
   refine pf rfl (lr _) (lr _) ?_
   refine mvr (lr _) rfl ?_
   refine sq_no rfl rfl (lr _) rfl rfl ?_
   refine sq_no rfl rfl (lr _) rfl rfl ?_
   refine sq_no rfl rfl (lr _) rfl rfl ?_
   refine sq_no rfl rfl (lr _) rfl rfl ?_
   refine pf rfl (lr _) (lr _) ?_
   refine mvr (lr _) rfl ?_
   refine sq_no rfl rfl (lr _) rfl rfl ?_
   refine sq_no rfl rfl (lr _) rfl rfl ?_
   refine pf rfl (lr _) (lr _) ?_
   refine asr (lr _) rfl ?_
   refine sq_nil (aw_ret ?_)
   exact retQ_pure (v := .raw _) rfl rfl (Less.eq (by simp [PlOK, *]))
 ·
  have g1' := g1
  try simp only [qq] at g1'
  refine sq_no rfl rfl (less_b g1) rfl rfl ?_
  refine sq_no rfl rfl (less_b g1) rfl rfl ?_
  refine sq_no rfl rfl (less_b g1) rfl rfl ?_
  refine sq_no rfl rfl (less_b g1) rfl rfl ?_
  refine sq_ev rfl (ev_pickF (v := .raw _) (less_b g1) (lr _)) ?_
  refine mvr (lr _) rfl ?_
  refine sq_no rfl rfl (lr _) rfl rfl ?_
  refine sq_no rfl rfl (lr _) rfl rfl ?_
  refine sq_no rfl rfl (lr _) rfl rfl ?_
  refine sq_no rfl rfl (lr _) rfl rfl ?_
  refine pf rfl (lr _) (lr _) ?_
  refine mvr (lr _) rfl ?_
  refine sq_no rfl rfl (lr _) rfl rfl ?_
  refine sq_no rfl rfl (lr _) rfl rfl ?_
  refine sq_no rfl rfl (lr _) rfl rfl ?_
  refine pf rfl (lr _) (lr _) ?_
  refine mvr (lr _) rfl ?_
  refine sq_no rfl rfl (lr _) rfl rfl ?_
  refine sq_no rfl rfl (lr _) rfl rfl ?_
  refine sq_no rfl rfl (lr _) rfl rfl ?_
  refine sq_no rfl rfl (lr _) rfl rfl ?_
  refine pf rfl (lr _) (lr _) ?_
  refine mvr (lr _) rfl ?_
  refine sq_no rfl rfl (lr _) rfl rfl ?_
  refine sq_no rfl rfl (lr _) rfl rfl ?_
  refine pf rfl (lr _) (lr _) ?_
  refine asr (lr _) rfl ?_
  refine sq_nil (aw_ret ?_)
  exact retQ_pure (v := .raw _) rfl rfl (Less.eq (by simp [PlOK, *]))
set_option maxHeartbeats 400000 in
theorem scene_pure (p : Pl) (n : Int) (hl : p.scenes.length ≤ 1000000) : APure Tryz.prog 35 [plan p, I n] (B (isSc p n)) := by
 refine apure_of (rs := [.tmp 4]) Tryz.func35 rfl rfl (Nat.le_of_ble_eq_true rfl) (by simp [AV.pureL, AV.pureB, AV.pureE, pureE_map]) (rfl) fun e0 he0 => ?_
 refine aw_seq (aw_region ?_)
 refine sq_box rfl (lr _) rfl ?_
 refine asr (lr _) rfl ?_
 refine sq_nil (aw_seq (aw_region ?_))
 refine mvr (lr _) rfl ?_
 refine sq_ev rfl (ev_fieldAddr fo27_3 (lr _)) ?_
 refine sq_ev rfl (ev_load (lr _) rfl ty25 rfl) ?_
 refine sq_ev rfl (ev_len_map sl25 (lr _)) ?_
 refine sq_ev rfl (ev_sub (lr _) (lr _) (wr (by omega) (by omega))) ?_
 refine sq_ev rfl (ev_call en89 (lr _) (in_pure _ _ _) ⟨lr _, lr _, lr _, trivial⟩) ?_
 refine asr (lr _) rfl ?_
 refine sq_nil (aw_ret ?_)
 exact retQ_pure (v := .raw _) rfl rfl (Less.eq (by simp [isSc]))
set_option maxHeartbeats 400000 in
theorem has_pure (l : List Int) (n : Int) (hl : l.length ≤ 1000000) : APure Tryz.prog 62 [ints l, I n] (B (has l n)) := by
 refine apure_of (rs := [.tmp 4]) Tryz.func62 rfl rfl (Nat.le_of_ble_eq_true rfl) (by simp [AV.pureL, AV.pureB, AV.pureE, pureE_map]) (rfl) fun e0 he0 => ?_
 refine aw_seq (aw_region ?_)
 refine asr (lr _) rfl ?_
 refine sq_nil (aw_seq (aw_seq (aw_region ?_)))
 refine asr (lr _) rfl ?_
 refine sq_nil (aw_block ?_)
 refine aw_loopk (ι := { k : Nat // k ≤ l.length ∧ ∀ j, (h : j < l.length) → j < k → l[j] ≠ n }) [0, 1] (fun i => [(5, I i.1)]) (fun H i => H) (fun i => l.length - i.1) (⟨0, Nat.zero_le _, by omega⟩) ⟨lr _, lr _, lr _, trivial⟩ rfl ?_
 rintro ⟨k, hk, hok⟩
 dsimp only [keepS, St.put, sget, slotsOf, List.map_cons, List.map_nil, List.cons_append, List.nil_append, List.length_cons, List.length_nil, Nat.reduceBEq, Nat.reduceAdd, cond_true, cond_false]
 refine aw_seq (aw_seq (aw_region ?_))
 refine mvr (lr _) rfl ?_
 refine mvs rfl (lr _) ?_
 refine sq_ev rfl (ev_len_map sl34 (lr _)) ?_
 refine sq_ev rfl (ev_lss (lr _) (lr _)) ?_
 refine sq_nil ?_
 refine aw_cond (lr _) (fun c1 => ?_) (fun c1 => ?_)
 ·
  have c1' := c1
  try simp only [qq] at c1'
  refine aw_skip (aw_seq (aw_block (aw_seq (aw_region ?_))))
  refine mvs rfl (lr _) ?_
  refine mvr (lr _) rfl ?_
  refine sq_ev rfl (ev_index_map sl34 (lr _) (lr _) rfl (by omega)) ?_
  refine sq_ev rfl (ev_load_i (lr _) ty3 rfl) ?_
  refine mvr (lr _) rfl ?_
  refine sq_ev rfl (ev_eql (lr _) (lr _)) ?_
  refine sq_nil ?_
  refine aw_cond (lr _) (fun c2 => ?_) (fun c2 => ?_)
  ·
   have c2' := c2
   try simp only [qq] at c2'
   refine aw_seq (aw_region ?_)
   refine asr (lr _) rfl ?_
   refine sq_nil (aw_ret ?_)
   exact retQ_pure (v := .raw _) rfl rfl (Less.eq (by rw [has_yes (k := k) (by omega) c2']))
  ·
   have c2' := c2
   try simp only [qq] at c2'
   refine aw_skip (aw_region ?_)
   refine mvr (lr _) rfl ?_
   refine sq_ev rfl (ev_add (lr _) (lr _) (wr (by omega) (by omega))) ?_
   refine asr (lr _) rfl ?_
   refine sq_nil ?_
   exact ⟨⟨k + 1, by omega, fun j h hj => (by by_cases e : j = k; (subst e; exact c2'); exact hok j h (by omega))⟩, by simp only; omega, Sub.slots ⟨lr _, lr _, lr _, trivial⟩⟩
 ·
  have c1' := c1
  try simp only [qq] at c1'
  refine aw_exit (aw_seq (aw_region ?_))
  refine asr (lr _) rfl ?_
  refine sq_nil (aw_ret ?_)
  exact retQ_pure (v := .raw _) rfl rfl (Less.eq (by rw [has_no c1' hok]))
set_option maxHeartbeats 1000000 in
theorem rising_pure (p : Pl) (l : List Int) (hp : p.scenes.length ≤ 1000000) (hl : l.length ≤ 1000000) : APure Tryz.prog 77 [plan p, ints l] (B (Ris p l)) := by
 refine apure_of (rs := [.tmp 4]) Tryz.func77 rfl rfl (Nat.le_of_ble_eq_true rfl) (by simp [AV.pureL, AV.pureB, AV.pureE, pureE_map]) (rfl) fun e0 he0 => ?_
 refine aw_seq (aw_region ?_)
 refine sq_box rfl (lr _) rfl ?_
 refine asr (lr _) rfl ?_
 refine sq_nil (aw_seq (aw_seq (aw_region ?_)))
 refine asr (lr _) rfl ?_
 refine sq_nil (aw_block ?_)
 refine aw_loopk (ι := { k : Nat // k ≤ l.length ∧ ∀ i, (h : i < l.length) → i < k → risBad p l i h = false }) [1, 2] (fun i => [(5, I i.1)]) (fun H i => H) (fun i => l.length - i.1) (⟨0, Nat.zero_le _, by omega⟩) ⟨lr _, lr _, lr _, trivial⟩ rfl ?_
 rintro ⟨k, hk, hok⟩
 dsimp only [keepS, St.put, sget, slotsOf, List.map_cons, List.map_nil, List.cons_append, List.nil_append, List.length_cons, List.length_nil, Nat.reduceBEq, Nat.reduceAdd, cond_true, cond_false]
 refine aw_seq (aw_seq (aw_region ?_))
 refine mvr (lr _) rfl ?_
 refine mvs rfl (lr _) ?_
 refine sq_ev rfl (ev_len_map sl34 (lr _)) ?_
 refine sq_ev rfl (ev_lss (lr _) (lr _)) ?_
 refine sq_nil ?_
 refine aw_cond (lr _) (fun c1 => ?_) (fun c1 => ?_)
 ·
  have c1' := c1
  try simp only [qq] at c1'
  refine aw_skip (aw_seq (aw_block (aw_seq ?_)))
  refine aw_draw 23 mo (by kernel_rfl) ?_
  refine dr_ev rfl (ev_load_agg (lr _) rfl ty27 rfl) ?_
  refine dr_ev rfl (ev_mv (v := .sl _ _) (lr _)) ?_
  refine dr_ev rfl (ev_mv (v := .raw _) (lr _)) ?_
  refine dr_ev rfl (ev_index_map sl34 (lr _) (lr _) rfl (by omega)) ?_
  refine dr_ev rfl (ev_load_i (lr _) ty3 rfl) ?_
  refine dr_ev rfl (ev_call en35 (lr _) (scene_pure _ _ hp) ⟨lr _, lr _, trivial⟩) ?_
  refine dr_ev rfl (ev_not (lr _)) ?_
  refine dr_ev rfl (ev_mv (v := .raw _) (lr _)) ?_
  refine dr_split 19 (lr _) (fun g2 => ?_) (fun g2 => ?_)
  ·
   have g2' := g2
   try simp only [qq] at g2'
   refine dr_no rfl rfl (less_b g2) rfl rfl ?_
   refine dr_no rfl rfl (less_b g2) rfl rfl ?_
   refine dr_no rfl rfl (less_b g2) rfl rfl ?_
   refine dr_no rfl rfl (lr _) rfl rfl ?_
   refine dr_no rfl rfl (lr _) rfl rfl ?_
   refine dr_no rfl rfl (lr _) rfl rfl ?_
   refine dr_no rfl rfl (lr _) rfl rfl ?_
   refine dr_no rfl rfl (lr _) rfl rfl ?_
   refine dr_no rfl rfl (lr _) rfl rfl ?_
   refine dr_no rfl rfl (lr _) rfl rfl ?_
   refine dr_no rfl rfl (lr _) rfl rfl ?_
   refine dr_no rfl rfl (lr _) rfl rfl ?_
   refine dr_no rfl rfl (lr _) rfl rfl ?_
   refine dr_no rfl rfl (less_b g2) rfl rfl ?_
   refine dr_ev rfl (ev_pickT (v := .raw _) (less_b g2) (lr _)) ?_
   refine dr_end (sq_nil ?_)
   refine aw_true (lr _) ?_
   refine aw_seq (aw_region ?_)
   refine asr (lr _) rfl ?_
   refine sq_nil (aw_ret ?_)
   exact retQ_pure (v := .raw _) rfl rfl (Less.eq (by rw [Ris, okAll_bad (i := k) (by omega) (by first | (simp [risBad, *]; done) | (simp_all [risBad]; done))]))
  ·
   have g2' := g2
   try simp only [qq] at g2'
   refine dr_yes rfl rfl (less_b g2) rfl (ev_mv (v := .raw _) (lr _)) ?_
   refine dr_yes rfl rfl (less_b g2) rfl (ev_gtr (lr _) (lr _)) ?_
   refine dr_yes rfl rfl (less_b g2) rfl (ev_mv (v := .raw _) (lr _)) ?_
   refine dr_split 22 (lr _) (fun g3 => ?_) (fun g3 => ?_)
   ·
    have g3' := g3
    try simp only [qq] at g3'
    have g3n : 0 < k := by omega
    refine dr_yes rfl rfl (less_b g3) rfl (ev_mv (v := .sl _ _) (lr _)) ?_
    refine dr_yes rfl rfl (less_b g3) rfl (ev_mv (v := .raw _) (lr _)) ?_
    refine dr_yes rfl rfl (less_b g3) rfl (ev_index_map sl34 (lr _) (lr _) rfl (by omega)) ?_
    refine dr_yes rfl rfl (less_b g3) rfl (ev_load_i (lr _) ty3 rfl) ?_
    refine dr_yes rfl rfl (less_b g3) rfl (ev_mv (v := .sl _ _) (lr _)) ?_
    refine dr_yes rfl rfl (less_b g3) rfl (ev_mv (v := .raw _) (lr _)) ?_
    refine dr_yes rfl rfl (less_b g3) rfl (ev_sub (lr _) (lr _) (wr (by omega) (by omega))) ?_
    refine dr_yes rfl rfl (less_b g3) rfl (ev_index_map sl34 (lr _) (lr _) (show ((k : Int) - 1) = ((k - 1 : Nat) : Int) by omega) (by omega)) ?_
    refine dr_yes rfl rfl (less_b g3) rfl (ev_load_i (lr _) ty3 rfl) ?_
    refine dr_yes rfl rfl (less_b g3) rfl (ev_leq (lr _) (lr _)) ?_
    refine dr_yes rfl rfl (less_b g2) rfl (ev_pickT (v := .raw _) (less_b g3) (lr _)) ?_
    refine dr_ev rfl (ev_pickF (v := .raw _) (less_b g2) (lr _)) ?_
    refine dr_end (sq_nil ?_)
    refine aw_cond (lr _) (fun c4 => ?_) (fun c4 => ?_)
    ·
     have c4' := c4
     try simp only [qq] at c4'
     refine aw_seq (aw_region ?_)
     refine asr (lr _) rfl ?_
     refine sq_nil (aw_ret ?_)
     exact retQ_pure (v := .raw _) rfl rfl (Less.eq (by rw [Ris, okAll_bad (i := k) (by omega) (by first | (simp [risBad, *]; done) | (simp_all [risBad]; done))]))
    ·
     have c4' := c4
     try simp only [qq] at c4'
     refine aw_skip (aw_region ?_)
     refine mvr (lr _) rfl ?_
     refine sq_ev rfl (ev_add (lr _) (lr _) (wr (by omega) (by omega))) ?_
     refine asr (lr _) rfl ?_
     refine sq_nil ?_
     have hgood : risBad p l k (by omega) = false := by first | (simp [risBad, *]; done) | (simp_all [risBad]; done)
     exact ⟨⟨k + 1, by omega, fun i h hi => (by by_cases e : i = k; (subst e; exact hgood); exact hok i h (by omega))⟩, by simp only; omega, Sub.fin 1 ⟨lr _, lr _, lr _, trivial⟩ rfl (by simp [slotsIn, objsIn, sget, keepS, AObj.inB, AV.inB, AV.inL, AV.inE, inE_map]) (by simp [slotsIn, objsIn, sget, keepS, AObj.inB, AV.inB, AV.inL, AV.inE, inE_map]) (by simp [he0])⟩
   ·
    have g3' := g3
    try simp only [qq] at g3'
    have g3n : ¬ (0 < k) := by omega
    refine dr_no rfl rfl (less_b g3) rfl rfl ?_
    refine dr_no rfl rfl (less_b g3) rfl rfl ?_
    refine dr_no rfl rfl (less_b g3) rfl rfl ?_
    refine dr_no rfl rfl (less_b g3) rfl rfl ?_
    refine dr_no rfl rfl (less_b g3) rfl rfl ?_
    refine dr_no rfl rfl (less_b g3) rfl rfl ?_
    refine dr_no rfl rfl (less_b g3) rfl rfl ?_
    refine dr_no rfl rfl (less_b g3) rfl rfl ?_
    refine dr_no rfl rfl (less_b g3) rfl rfl ?_
    refine dr_no rfl rfl (less_b g3) rfl rfl ?_
    refine dr_yes rfl rfl (less_b g2) rfl (ev_pickF (v := .raw _) (less_b g3) (lr _)) ?_
    refine dr_ev rfl (ev_pickF (v := .raw _) (less_b g2) (lr _)) ?_
    refine dr_end (sq_nil ?_)
    refine aw_false (lr _) ?_
    refine aw_skip (aw_region ?_)
    refine mvr (lr _) rfl ?_
    refine sq_ev rfl (ev_add (lr _) (lr _) (wr (by omega) (by omega))) ?_
    refine asr (lr _) rfl ?_
    refine sq_nil ?_
    have hgood : risBad p l k (by omega) = false := by first | (simp [risBad, *]; done) | (simp_all [risBad]; done)
    exact ⟨⟨k + 1, by omega, fun i h hi => (by by_cases e : i = k; (subst e; exact hgood); exact hok i h (by omega))⟩, by simp only; omega, Sub.fin 1 ⟨lr _, lr _, lr _, trivial⟩ rfl (by simp [slotsIn, objsIn, sget, keepS, AObj.inB, AV.inB, AV.inL, AV.inE, inE_map]) (by simp [slotsIn, objsIn, sget, keepS, AObj.inB, AV.inB, AV.inL, AV.inE, inE_map]) (by simp [he0])⟩
 ·
  have c1' := c1
  try simp only [qq] at c1'
  refine aw_exit (aw_seq (aw_region ?_))
  refine asr (lr _) rfl ?_
  refine sq_nil (aw_ret ?_)
  exact retQ_pure (v := .raw _) rfl rfl (Less.eq (by rw [Ris, okAll_end hk c1' hok]))
set_option maxHeartbeats 2000000 in
theorem choice_pure (p : Pl) (l : List Int) (hp : p.scenes.length ≤ 1000000) (hl : l.length ≤ 1000000) : APure Tryz.prog 78 [plan p, ints l] (B (isCh p l)) := by
 refine apure_of (rs := [.tmp 4]) Tryz.func78 rfl rfl (Nat.le_of_ble_eq_true rfl) (by simp [AV.pureL, AV.pureB, AV.pureE, pureE_map]) (rfl) fun e0 he0 => ?_
 refine aw_seq (aw_region ?_)
 refine sq_box rfl (lr _) rfl ?_
 refine asr (lr _) rfl ?_
 refine sq_nil (aw_seq (aw_seq (aw_region ?_)))
 refine asr (lr _) rfl ?_
 refine sq_nil (aw_block ?_)
 refine aw_loopk (ι := { k : Nat // k ≤ p.scenes.length ∧ ∀ i, (h : i < p.scenes.length) → i < k → chBad p l i h = false }) [1, 2] (fun i => [(5, I i.1)]) (fun H i => H) (fun i => p.scenes.length - i.1) (⟨0, Nat.zero_le _, by omega⟩) ⟨lr _, lr _, lr _, trivial⟩ rfl ?_
 rintro ⟨k, hk, hok⟩
 dsimp only [keepS, St.put, sget, slotsOf, List.map_cons, List.map_nil, List.cons_append, List.nil_append, List.length_cons, List.length_nil, Nat.reduceBEq, Nat.reduceAdd, cond_true, cond_false]
 refine aw_seq (aw_seq (aw_region ?_))
 refine mvr (lr _) rfl ?_
 refine sq_ev rfl (ev_fieldAddr fo27_3 (lr _)) ?_
 refine sq_ev rfl (ev_load (lr _) rfl ty25 rfl) ?_
 refine sq_ev rfl (ev_len_map sl25 (lr _)) ?_
 refine sq_ev rfl (ev_lss (lr _) (lr _)) ?_
 refine sq_nil ?_
 refine aw_cond (lr _) (fun c1 => ?_) (fun c1 => ?_)
 ·
  have c1' := c1
  try simp only [qq] at c1'
  refine aw_skip (aw_seq (aw_block (aw_seq (aw_region ?_))))
  refine sq_ev rfl (ev_fieldAddr fo27_3 (lr _)) ?_
  refine sq_ev rfl (ev_load (lr _) rfl ty25 rfl) ?_
  refine mvr (lr _) rfl ?_
  refine sq_ev rfl (ev_index_map sl25 (lr _) (lr _) rfl (by omega)) ?_
  refine sq_ev rfl (ev_load_agg_i (lr _) ty84 (Nat.le_of_ble_eq_true rfl)) ?_
  refine sq_alloc rfl z84 ?_
  refine sq_store rfl (lr _) (lr _) rfl rfl ty84 rfl rfl ?_
  refine sq_nil (aw_seq (aw_region ?_))
  refine mvs rfl (lr _) ?_
  refine mvr (lr _) rfl ?_
  refine sq_ev rfl (ev_call en62 (lr _) (has_pure _ _ hl) ⟨lr _, lr _, trivial⟩) ?_
  refine sq_ev rfl (ev_not (lr _)) ?_
  refine mvr (lr _) rfl ?_
  refine sq_split 23 (lr _) (fun g2 => ?_) (fun g2 => ?_)
  ·
   have g2' := g2
   try simp only [qq] at g2'
   refine sq_yes rfl rfl (less_b g2) rfl (ev_fieldAddr fo84_3 (lr _)) ?_
   refine sq_yes rfl rfl (less_b g2) rfl (ev_load (lr _) rfl ty4 rfl) ?_
   refine sq_yes rfl rfl (less_b g2) rfl (ev_not (lr _)) ?_
   refine sq_ev rfl (ev_pickT (v := .raw _) (less_b g2) (lr _)) ?_
   refine mvr (lr _) rfl ?_
   refine sq_split 28 (lr _) (fun g3 => ?_) (fun g3 => ?_)
   ·
    have g3' := g3
    try simp only [qq] at g3'
    refine sq_no rfl rfl (less_b g3) rfl rfl ?_
    refine sq_no rfl rfl (less_b g3) rfl rfl ?_
    refine sq_no rfl rfl (less_b g3) rfl rfl ?_
    refine sq_no rfl rfl (less_b g3) rfl rfl ?_
    refine sq_no rfl rfl (lr _) rfl rfl ?_
    refine sq_no rfl rfl (lr _) rfl rfl ?_
    refine sq_no rfl rfl (lr _) rfl rfl ?_
    refine sq_no rfl rfl (less_b g3) rfl rfl ?_
    refine sq_no rfl rfl (less_b g3) rfl rfl ?_
    refine sq_no rfl rfl (lr _) rfl rfl ?_
    refine sq_no rfl rfl (lr _) rfl rfl ?_
    refine sq_no rfl rfl (lr _) rfl rfl ?_
    refine sq_no rfl rfl (lr _) rfl rfl ?_
    refine sq_no rfl rfl (lr _) rfl rfl ?_
    refine sq_no rfl rfl (less_b g3) rfl rfl ?_
    refine sq_ev rfl (ev_pickT (v := .raw _) (less_b g3) (lr _)) ?_
    refine sq_nil ?_
    refine aw_true (lr _) ?_
    refine aw_seq (aw_region ?_)
    refine asr (lr _) rfl ?_
    refine sq_nil (aw_ret ?_)
    exact retQ_pure (v := .raw _) rfl rfl (Less.eq (by rw [isCh, okAll_bad (i := k) (by omega) (by first | (simp [chBad, *]; done) | (simp_all [chBad]; done))]))
   ·
    have g3' := g3
    try simp only [qq] at g3'
    refine sq_yes rfl rfl (less_b g3) rfl (ev_mv (v := .sl _ _) (lr _)) ?_
    refine sq_yes rfl rfl (less_b g3) rfl (ev_mv (v := .raw _) (lr _)) ?_
    refine sq_yes rfl rfl (less_b g3) rfl (ev_call en62 (lr _) (has_pure _ _ hl) ⟨lr _, lr _, trivial⟩) ?_
    refine sq_yes rfl rfl (less_b g3) rfl (ev_mv (v := .raw _) (lr _)) ?_
    refine sq_split 32 (lr _) (fun g4 => ?_) (fun g4 => ?_)
    ·
     have g4' := g4
     try simp only [qq] at g4'
     refine sq_yes rfl rfl (less_b g4) rfl (ev_fieldAddr fo84_4 (lr _)) ?_
     refine sq_yes rfl rfl (less_b g4) rfl (ev_load (lr _) rfl ty3 rfl) ?_
     refine sq_yes rfl rfl (less_b g4) rfl (ev_geq (lr _) (lr _)) ?_
     refine sq_yes rfl rfl (less_b g3) rfl (ev_pickT (v := .raw _) (less_b g4) (lr _)) ?_
     refine sq_yes rfl rfl (less_b g3) rfl (ev_mv (v := .raw _) (lr _)) ?_
     refine sq_split 37 (lr _) (fun g5 => ?_) (fun g5 => ?_)
     ·
      have g5' := g5
      try simp only [qq] at g5'
      refine sq_yes rfl rfl (less_b g5) rfl (ev_mv (v := .sl _ _) (lr _)) ?_
      refine sq_yes rfl rfl (less_b g5) rfl (ev_fieldAddr fo84_4 (lr _)) ?_
      refine sq_yes rfl rfl (less_b g5) rfl (ev_load (lr _) rfl ty3 rfl) ?_
      refine sq_yes rfl rfl (less_b g5) rfl (ev_call en62 (lr _) (has_pure _ _ hl) ⟨lr _, lr _, trivial⟩) ?_
      refine sq_yes rfl rfl (less_b g5) rfl (ev_not (lr _)) ?_
      refine sq_yes rfl rfl (less_b g3) rfl (ev_pickT (v := .raw _) (less_b g5) (lr _)) ?_
      refine sq_ev rfl (ev_pickF (v := .raw _) (less_b g3) (lr _)) ?_
      refine sq_nil ?_
      refine aw_cond (lr _) (fun c6 => ?_) (fun c6 => ?_)
      ·
       have c6' := c6
       try simp only [qq] at c6'
       refine aw_seq (aw_region ?_)
       refine asr (lr _) rfl ?_
       refine sq_nil (aw_ret ?_)
       exact retQ_pure (v := .raw _) rfl rfl (Less.eq (by rw [isCh, okAll_bad (i := k) (by omega) (by first | (simp [chBad, *]; done) | (simp_all [chBad]; done))]))
      ·
       have c6' := c6
       try simp only [qq] at c6'
       refine aw_skip (aw_region ?_)
       refine mvr (lr _) rfl ?_
       refine sq_ev rfl (ev_add (lr _) (lr _) (wr (by omega) (by omega))) ?_
       refine asr (lr _) rfl ?_
       refine sq_nil ?_
       have hgood : chBad p l k (by omega) = false := by first | (simp [chBad, *]; done) | (simp_all [chBad]; done)
       exact ⟨⟨k + 1, by omega, fun i h hi => (by by_cases e : i = k; (subst e; exact hgood); exact hok i h (by omega))⟩, by simp only; omega, Sub.fin 1 ⟨lr _, lr _, lr _, trivial⟩ rfl (by simp [slotsIn, objsIn, sget, keepS, AObj.inB, AV.inB, AV.inL, AV.inE, inE_map]) (by simp [slotsIn, objsIn, sget, keepS, AObj.inB, AV.inB, AV.inL, AV.inE, inE_map]) (by simp [he0])⟩
     ·
      have g5' := g5
      try simp only [qq] at g5'
      refine sq_no rfl rfl (less_b g5) rfl rfl ?_
      refine sq_no rfl rfl (less_b g5) rfl rfl ?_
      refine sq_no rfl rfl (less_b g5) rfl rfl ?_
      refine sq_no rfl rfl (less_b g5) rfl rfl ?_
      refine sq_no rfl rfl (less_b g5) rfl rfl ?_
      refine sq_yes rfl rfl (less_b g3) rfl (ev_pickF (v := .raw _) (less_b g5) (lr _)) ?_
      refine sq_ev rfl (ev_pickF (v := .raw _) (less_b g3) (lr _)) ?_
      refine sq_nil ?_
      refine aw_false (lr _) ?_
      refine aw_skip (aw_region ?_)
      refine mvr (lr _) rfl ?_
      refine sq_ev rfl (ev_add (lr _) (lr _) (wr (by omega) (by omega))) ?_
      refine asr (lr _) rfl ?_
      refine sq_nil ?_
      have hgood : chBad p l k (by omega) = false := by first | (simp [chBad, *]; done) | (simp_all [chBad]; done)
      exact ⟨⟨k + 1, by omega, fun i h hi => (by by_cases e : i = k; (subst e; exact hgood); exact hok i h (by omega))⟩, by simp only; omega, Sub.fin 1 ⟨lr _, lr _, lr _, trivial⟩ rfl (by simp [slotsIn, objsIn, sget, keepS, AObj.inB, AV.inB, AV.inL, AV.inE, inE_map]) (by simp [slotsIn, objsIn, sget, keepS, AObj.inB, AV.inB, AV.inL, AV.inE, inE_map]) (by simp [he0])⟩
    ·
     have g4' := g4
     try simp only [qq] at g4'
     refine sq_no rfl rfl (less_b g4) rfl rfl ?_
     refine sq_no rfl rfl (less_b g4) rfl rfl ?_
     refine sq_no rfl rfl (less_b g4) rfl rfl ?_
     refine sq_yes rfl rfl (less_b g3) rfl (ev_pickF (v := .raw _) (less_b g4) (lr _)) ?_
     refine sq_yes rfl rfl (less_b g3) rfl (ev_mv (v := .raw _) (lr _)) ?_
     refine sq_no rfl rfl (lr _) rfl rfl ?_
     refine sq_no rfl rfl (lr _) rfl rfl ?_
     refine sq_no rfl rfl (lr _) rfl rfl ?_
     refine sq_no rfl rfl (lr _) rfl rfl ?_
     refine sq_no rfl rfl (lr _) rfl rfl ?_
     refine sq_yes rfl rfl (less_b g3) rfl (ev_pickF (v := .raw _) (lr _) (lr _)) ?_
     refine sq_ev rfl (ev_pickF (v := .raw _) (less_b g3) (lr _)) ?_
     refine sq_nil ?_
     refine aw_false (lr _) ?_
     refine aw_skip (aw_region ?_)
     refine mvr (lr _) rfl ?_
     refine sq_ev rfl (ev_add (lr _) (lr _) (wr (by omega) (by omega))) ?_
     refine asr (lr _) rfl ?_
     refine sq_nil ?_
     have hgood : chBad p l k (by omega) = false := by first | (simp [chBad, *]; done) | (simp_all [chBad]; done)
     exact ⟨⟨k + 1, by omega, fun i h hi => (by by_cases e : i = k; (subst e; exact hgood); exact hok i h (by omega))⟩, by simp only; omega, Sub.fin 1 ⟨lr _, lr _, lr _, trivial⟩ rfl (by simp [slotsIn, objsIn, sget, keepS, AObj.inB, AV.inB, AV.inL, AV.inE, inE_map]) (by simp [slotsIn, objsIn, sget, keepS, AObj.inB, AV.inB, AV.inL, AV.inE, inE_map]) (by simp [he0])⟩
  ·
   have g2' := g2
   try simp only [qq] at g2'
   refine sq_no rfl rfl (less_b g2) rfl rfl ?_
   refine sq_no rfl rfl (less_b g2) rfl rfl ?_
   refine sq_no rfl rfl (less_b g2) rfl rfl ?_
   refine sq_ev rfl (ev_pickF (v := .raw _) (less_b g2) (lr _)) ?_
   refine mvr (lr _) rfl ?_
   refine ysl rfl rfl (lr _) rfl (lr _) ?_
   refine ymr rfl rfl (lr _) rfl (lr _) ?_
   refine sq_yes rfl rfl (lr _) rfl (ev_call en62 (lr _) (has_pure _ _ hl) ⟨lr _, lr _, trivial⟩) ?_
   refine ymr rfl rfl (lr _) rfl (lr _) ?_
   refine sq_split 32 (lr _) (fun g7 => ?_) (fun g7 => ?_)
   ·
    have g7' := g7
    try simp only [qq] at g7'
    refine sq_yes rfl rfl (less_b g7) rfl (ev_fieldAddr fo84_4 (lr _)) ?_
    refine sq_yes rfl rfl (less_b g7) rfl (ev_load (lr _) rfl ty3 rfl) ?_
    refine sq_yes rfl rfl (less_b g7) rfl (ev_geq (lr _) (lr _)) ?_
    refine sq_yes rfl rfl (lr _) rfl (ev_pickT (v := .raw _) (less_b g7) (lr _)) ?_
    refine ymr rfl rfl (lr _) rfl (lr _) ?_
    refine sq_split 37 (lr _) (fun g8 => ?_) (fun g8 => ?_)
    ·
     have g8' := g8
     try simp only [qq] at g8'
     refine sq_yes rfl rfl (less_b g8) rfl (ev_mv (v := .sl _ _) (lr _)) ?_
     refine sq_yes rfl rfl (less_b g8) rfl (ev_fieldAddr fo84_4 (lr _)) ?_
     refine sq_yes rfl rfl (less_b g8) rfl (ev_load (lr _) rfl ty3 rfl) ?_
     refine sq_yes rfl rfl (less_b g8) rfl (ev_call en62 (lr _) (has_pure _ _ hl) ⟨lr _, lr _, trivial⟩) ?_
     refine sq_yes rfl rfl (less_b g8) rfl (ev_not (lr _)) ?_
     refine sq_yes rfl rfl (lr _) rfl (ev_pickT (v := .raw _) (less_b g8) (lr _)) ?_
     refine pf rfl (lr _) (lr _) ?_
     refine sq_nil ?_
     refine aw_cond (lr _) (fun c9 => ?_) (fun c9 => ?_)
     ·
      have c9' := c9
      try simp only [qq] at c9'
      refine aw_seq (aw_region ?_)
      refine asr (lr _) rfl ?_
      refine sq_nil (aw_ret ?_)
      exact retQ_pure (v := .raw _) rfl rfl (Less.eq (by rw [isCh, okAll_bad (i := k) (by omega) (by first | (simp [chBad, *]; done) | (simp_all [chBad]; done))]))
     ·
      have c9' := c9
      try simp only [qq] at c9'
      refine aw_skip (aw_region ?_)
      refine mvr (lr _) rfl ?_
      refine sq_ev rfl (ev_add (lr _) (lr _) (wr (by omega) (by omega))) ?_
      refine asr (lr _) rfl ?_
      refine sq_nil ?_
      have hgood : chBad p l k (by omega) = false := by first | (simp [chBad, *]; done) | (simp_all [chBad]; done)
      exact ⟨⟨k + 1, by omega, fun i h hi => (by by_cases e : i = k; (subst e; exact hgood); exact hok i h (by omega))⟩, by simp only; omega, Sub.fin 1 ⟨lr _, lr _, lr _, trivial⟩ rfl (by simp [slotsIn, objsIn, sget, keepS, AObj.inB, AV.inB, AV.inL, AV.inE, inE_map]) (by simp [slotsIn, objsIn, sget, keepS, AObj.inB, AV.inB, AV.inL, AV.inE, inE_map]) (by simp [he0])⟩
    ·
     have g8' := g8
     try simp only [qq] at g8'
     refine sq_no rfl rfl (less_b g8) rfl rfl ?_
     refine sq_no rfl rfl (less_b g8) rfl rfl ?_
     refine sq_no rfl rfl (less_b g8) rfl rfl ?_
     refine sq_no rfl rfl (less_b g8) rfl rfl ?_
     refine sq_no rfl rfl (less_b g8) rfl rfl ?_
     refine sq_yes rfl rfl (lr _) rfl (ev_pickF (v := .raw _) (less_b g8) (lr _)) ?_
     refine pf rfl (lr _) (lr _) ?_
     refine sq_nil ?_
     refine aw_false (lr _) ?_
     refine aw_skip (aw_region ?_)
     refine mvr (lr _) rfl ?_
     refine sq_ev rfl (ev_add (lr _) (lr _) (wr (by omega) (by omega))) ?_
     refine asr (lr _) rfl ?_
     refine sq_nil ?_
     have hgood : chBad p l k (by omega) = false := by first | (simp [chBad, *]; done) | (simp_all [chBad]; done)
     exact ⟨⟨k + 1, by omega, fun i h hi => (by by_cases e : i = k; (subst e; exact hgood); exact hok i h (by omega))⟩, by simp only; omega, Sub.fin 1 ⟨lr _, lr _, lr _, trivial⟩ rfl (by simp [slotsIn, objsIn, sget, keepS, AObj.inB, AV.inB, AV.inL, AV.inE, inE_map]) (by simp [slotsIn, objsIn, sget, keepS, AObj.inB, AV.inB, AV.inL, AV.inE, inE_map]) (by simp [he0])⟩
   ·
    have g7' := g7
    try simp only [qq] at g7'
    refine sq_no rfl rfl (less_b g7) rfl rfl ?_
    refine sq_no rfl rfl (less_b g7) rfl rfl ?_
    refine sq_no rfl rfl (less_b g7) rfl rfl ?_
    refine sq_yes rfl rfl (lr _) rfl (ev_pickF (v := .raw _) (less_b g7) (lr _)) ?_
    refine ymr rfl rfl (lr _) rfl (lr _) ?_
    refine sq_no rfl rfl (lr _) rfl rfl ?_
    refine sq_no rfl rfl (lr _) rfl rfl ?_
    refine sq_no rfl rfl (lr _) rfl rfl ?_
    refine sq_no rfl rfl (lr _) rfl rfl ?_
    refine sq_no rfl rfl (lr _) rfl rfl ?_
    refine sq_yes rfl rfl (lr _) rfl (ev_pickF (v := .raw _) (lr _) (lr _)) ?_
    refine pf rfl (lr _) (lr _) ?_
    refine sq_nil ?_
    refine aw_false (lr _) ?_
    refine aw_skip (aw_region ?_)
    refine mvr (lr _) rfl ?_
    refine sq_ev rfl (ev_add (lr _) (lr _) (wr (by omega) (by omega))) ?_
    refine asr (lr _) rfl ?_
    refine sq_nil ?_
    have hgood : chBad p l k (by omega) = false := by first | (simp [chBad, *]; done) | (simp_all [chBad]; done)
    exact ⟨⟨k + 1, by omega, fun i h hi => (by by_cases e : i = k; (subst e; exact hgood); exact hok i h (by omega))⟩, by simp only; omega, Sub.fin 1 ⟨lr _, lr _, lr _, trivial⟩ rfl (by simp [slotsIn, objsIn, sget, keepS, AObj.inB, AV.inB, AV.inL, AV.inE, inE_map]) (by simp [slotsIn, objsIn, sget, keepS, AObj.inB, AV.inB, AV.inL, AV.inE, inE_map]) (by simp [he0])⟩
 ·
  have c1' := c1
  try simp only [qq] at c1'
  refine aw_exit (aw_seq (aw_region ?_))
  refine asr (lr _) rfl ?_
  refine sq_nil (aw_ret ?_)
  exact retQ_pure (v := .raw _) rfl rfl (Less.eq (by rw [isCh, okAll_end hk c1' hok]))
end Go.Proofs.YtjghdbdiejaacaaGreatDoor
namespace Go.Proofs.YtjghdbdiejaacaaGreatDoor
open Go Go.Ab Ni
abbrev wpart (p : Pl) (l : List Nat) (k : Nat) : List AV :=
  [I (if 0 < k then lo p l 0 0 10 else 0), I (if 0 < k then hi p l 0 0 10 else 0), I (if 1 < k then lo p l 1 0 10 else 0), I (if 1 < k then hi p l 1 0 10 else 0), I (if 2 < k then lo p l 2 0 10 else 0), I (if 2 < k then hi p l 2 0 10 else 0)]
abbrev wcells (p : Pl) (l : List Nat) : List AV := [I (lo p l 0 0 10), I (hi p l 0 0 10), I (lo p l 1 0 10), I (hi p l 1 0 10), I (lo p l 2 0 10), I (hi p l 2 0 10)]
theorem en104 : Ent Tryz.prog 104 := Ent.of Tryz.func104 (by kernel_rfl) rfl
set_option maxHeartbeats 1000000 in
theorem long_pure (p : Pl) (l : List Nat) (part a b : Int) (gp : GP p) (cv : CV p l) : APure Tryz.prog 104 [plan p, nats l, I part, I a, I b] (.agg (spanC (lo p l part a b) (hi p l part a b))) := by
 refine apure_of (rs := [.cell 10 23]) Tryz.func104 rfl rfl (Nat.le_of_ble_eq_true rfl) (by simp [AV.pureL, AV.pureB, AV.pureE, pureE_map]) (rfl) fun e0 he0 => ?_
 refine aw_seq (aw_region ?_)
 refine sq_box rfl (lr _) rfl ?_
 refine sq_alloc rfl z23 ?_
 refine sq_nil (aw_seq (aw_region ?_))
 refine sq_alloc rfl z23 ?_
 refine sq_nil (aw_seq (aw_seq (aw_region ?_)))
 refine asr (lr _) rfl ?_
 refine sq_nil (aw_block ?_)
 refine aw_loopk (ι := { k : Nat // k ≤ l.length }) [1, 2, 3, 4, 5, 10, 11] (fun i => [(12, I i.1)]) (fun H i => H.set 2 (.cells (spanC (lo p (l.take i.1) part a b) (hi p (l.take i.1) part a b)))) (fun i => l.length - i.1) (⟨0, Nat.zero_le _⟩) ⟨lr _, lr _, lr _, lr _, lr _, lr _, lr _, lr _, trivial⟩ rfl ?_
 rintro ⟨k, hk⟩
 dsimp only [keepS, St.put, sget, slotsOf, List.map_cons, List.map_nil, List.cons_append, List.nil_append, List.length_cons, List.length_nil, Nat.reduceBEq, Nat.reduceAdd, cond_true, cond_false]
 have hl1 := cv.len
 have hl2 := gp.len
 have hb1 := lo_bd gp cv part a b k
 have hb2 := hi_bd gp cv part a b k
 refine aw_seq (aw_seq (aw_region ?_))
 refine mvr (lr _) rfl ?_
 refine mvs rfl (lr _) ?_
 refine sq_ev rfl (ev_len_map sl34 (lr _)) ?_
 refine sq_ev rfl (ev_lss (lr _) (lr _)) ?_
 refine sq_nil ?_
 refine aw_cond (lr _) (fun c1 => ?_) (fun c1 => ?_)
 ·
  have c1' := c1
  try simp only [qq] at c1'
  have hk' : k < l.length := by omega
  have hlt := cv.rng _ (List.getElem_mem hk')
  have hv1 := gp.least hlt
  have hv2 := gp.most hlt
  rw [scn_eq hlt] at hv1 hv2
  have he := scn_eq hlt
  refine aw_skip (aw_seq (aw_block (aw_seq ?_)))
  refine aw_draw 9 mo (by kernel_rfl) ?_
  refine dr_ev rfl (ev_fieldAddr fo27_3 (lr _)) ?_
  refine dr_ev rfl (ev_load (lr _) rfl ty25 rfl) ?_
  refine dr_ev rfl (ev_mv (v := .sl _ _) (lr _)) ?_
  refine dr_ev rfl (ev_mv (v := .raw _) (lr _)) ?_
  refine dr_ev rfl (ev_index_map sl34 (lr _) (lr _) rfl (by omega)) ?_
  refine dr_ev rfl (ev_load_i (lr _) ty3 rfl) ?_
  refine dr_ev rfl (ev_index_map sl25 (lr _) (lr _) rfl (by omega)) ?_
  refine dr_ev rfl (ev_load_agg_i (lr _) ty84 (Nat.le_of_ble_eq_true rfl)) ?_
  refine dr_alloc rfl z84 ?_
  refine dr_end ?_
  refine sq_store rfl (lr _) (lr _) rfl rfl ty84 rfl rfl ?_
  refine sq_nil (aw_seq (aw_region ?_))
  refine sq_ev rfl (ev_fieldAddr fo84_0 (lr _)) ?_
  refine sq_ev rfl (ev_load (lr _) rfl ty3 rfl) ?_
  refine mvr (lr _) rfl ?_
  refine sq_ev rfl (ev_eql (lr _) (lr _)) ?_
  refine mvr (lr _) rfl ?_
  refine sq_split 32 (lr _) (fun g2 => ?_) (fun g2 => ?_)
  ·
   have g2' := g2
   try simp only [qq] at g2'
   refine sq_yes rfl rfl (less_b g2) rfl (ev_mv (v := .sl _ _) (lr _)) ?_
   refine sq_yes rfl rfl (less_b g2) rfl (ev_mv (v := .raw _) (lr _)) ?_
   refine sq_yes rfl rfl (less_b g2) rfl (ev_index_map sl34 (lr _) (lr _) rfl (by omega)) ?_
   refine sq_yes rfl rfl (less_b g2) rfl (ev_load_i (lr _) ty3 rfl) ?_
   refine sq_yes rfl rfl (less_b g2) rfl (ev_mv (v := .raw _) (lr _)) ?_
   refine sq_yes rfl rfl (less_b g2) rfl (ev_geq (lr _) (lr _)) ?_
   refine sq_ev rfl (ev_pickT (v := .raw _) (less_b g2) (lr _)) ?_
   refine mvr (lr _) rfl ?_
   refine sq_split 40 (lr _) (fun g3 => ?_) (fun g3 => ?_)
   ·
    have g3' := g3
    try simp only [qq] at g3'
    refine sq_yes rfl rfl (less_b g3) rfl (ev_mv (v := .sl _ _) (lr _)) ?_
    refine sq_yes rfl rfl (less_b g3) rfl (ev_mv (v := .raw _) (lr _)) ?_
    refine sq_yes rfl rfl (less_b g3) rfl (ev_index_map sl34 (lr _) (lr _) rfl (by omega)) ?_
    refine sq_yes rfl rfl (less_b g3) rfl (ev_load_i (lr _) ty3 rfl) ?_
    refine sq_yes rfl rfl (less_b g3) rfl (ev_mv (v := .raw _) (lr _)) ?_
    refine sq_yes rfl rfl (less_b g3) rfl (ev_leq (lr _) (lr _)) ?_
    refine sq_ev rfl (ev_pickT (v := .raw _) (less_b g3) (lr _)) ?_
    refine sq_nil ?_
    refine aw_cond (lr _) (fun c4 => ?_) (fun c4 => ?_)
    ·
     have c4' := c4
     try simp only [qq] at c4'
     refine aw_region ?_
     refine sq_ev rfl (ev_fieldAddr fo23_0 (lr _)) ?_
     refine sq_ev rfl (ev_load (lr _) rfl ty3 rfl) ?_
     refine sq_ev rfl (ev_fieldAddr fo84_1 (lr _)) ?_
     refine sq_ev rfl (ev_load (lr _) rfl ty3 rfl) ?_
     refine sq_ev rfl (ev_add (lr _) (lr _) (wr (by omega) (by omega))) ?_
     refine sq_ev rfl (ev_fieldAddr fo23_1 (lr _)) ?_
     refine sq_ev rfl (ev_load (lr _) rfl ty3 rfl) ?_
     refine sq_ev rfl (ev_fieldAddr fo84_2 (lr _)) ?_
     refine sq_ev rfl (ev_load (lr _) rfl ty3 rfl) ?_
     refine sq_ev rfl (ev_add (lr _) (lr _) (wr (by omega) (by omega))) ?_
     refine sq_ev rfl (ev_build bi23 rfl) ?_
     refine sq_store rfl (lr _) (lr _) rfl rfl ty23 rfl rfl ?_
     refine sq_nil (aw_region ?_)
     refine mvr (lr _) rfl ?_
     refine sq_ev rfl (ev_add (lr _) (lr _) (wr (by omega) (by omega))) ?_
     refine asr (lr _) rfl ?_
     refine sq_nil ?_
     exact ⟨⟨k + 1, by omega⟩, by simp only; omega, Sub.fin 3 ⟨lr _, lr _, lr _, lr _, lr _, lr _, lr _, lr _, trivial⟩ (by have e1 := lo_take (p := p) hk' part a b; have e2 := hi_take (p := p) hk' part a b; simp [inP, *] at e1 e2; rw [e1, e2]; rfl) (by simp [slotsIn, objsIn, sget, keepS, AObj.inB, AV.inB, AV.inL, AV.inE, inE_map]) (by simp [slotsIn, objsIn, sget, keepS, AObj.inB, AV.inB, AV.inL, AV.inE, inE_map]) (by simp [he0])⟩
    ·
     have c4' := c4
     try simp only [qq] at c4'
     refine aw_skip (aw_region ?_)
     refine mvr (lr _) rfl ?_
     refine sq_ev rfl (ev_add (lr _) (lr _) (wr (by omega) (by omega))) ?_
     refine asr (lr _) rfl ?_
     refine sq_nil ?_
     exact ⟨⟨k + 1, by omega⟩, by simp only; omega, Sub.fin 3 ⟨lr _, lr _, lr _, lr _, lr _, lr _, lr _, lr _, trivial⟩ (by have e1 := lo_take (p := p) hk' part a b; have e2 := hi_take (p := p) hk' part a b; simp [inP, *] at e1 e2; rw [e1, e2]; rfl) (by simp [slotsIn, objsIn, sget, keepS, AObj.inB, AV.inB, AV.inL, AV.inE, inE_map]) (by simp [slotsIn, objsIn, sget, keepS, AObj.inB, AV.inB, AV.inL, AV.inE, inE_map]) (by simp [he0])⟩
   ·
    have g3' := g3
    try simp only [qq] at g3'
    refine sq_no rfl rfl (less_b g3) rfl rfl ?_
    refine sq_no rfl rfl (less_b g3) rfl rfl ?_
    refine sq_no rfl rfl (less_b g3) rfl rfl ?_
    refine sq_no rfl rfl (less_b g3) rfl rfl ?_
    refine sq_no rfl rfl (less_b g3) rfl rfl ?_
    refine sq_no rfl rfl (less_b g3) rfl rfl ?_
    refine sq_ev rfl (ev_pickF (v := .raw _) (less_b g3) (lr _)) ?_
    refine sq_nil ?_
    refine aw_false (lr _) ?_
    refine aw_skip (aw_region ?_)
    refine mvr (lr _) rfl ?_
    refine sq_ev rfl (ev_add (lr _) (lr _) (wr (by omega) (by omega))) ?_
    refine asr (lr _) rfl ?_
    refine sq_nil ?_
    exact ⟨⟨k + 1, by omega⟩, by simp only; omega, Sub.fin 3 ⟨lr _, lr _, lr _, lr _, lr _, lr _, lr _, lr _, trivial⟩ (by have e1 := lo_take (p := p) hk' part a b; have e2 := hi_take (p := p) hk' part a b; simp [inP, *] at e1 e2; rw [e1, e2]; rfl) (by simp [slotsIn, objsIn, sget, keepS, AObj.inB, AV.inB, AV.inL, AV.inE, inE_map]) (by simp [slotsIn, objsIn, sget, keepS, AObj.inB, AV.inB, AV.inL, AV.inE, inE_map]) (by simp [he0])⟩
  ·
   have g2' := g2
   try simp only [qq] at g2'
   refine sq_no rfl rfl (less_b g2) rfl rfl ?_
   refine sq_no rfl rfl (less_b g2) rfl rfl ?_
   refine sq_no rfl rfl (less_b g2) rfl rfl ?_
   refine sq_no rfl rfl (less_b g2) rfl rfl ?_
   refine sq_no rfl rfl (less_b g2) rfl rfl ?_
   refine sq_no rfl rfl (less_b g2) rfl rfl ?_
   refine sq_ev rfl (ev_pickF (v := .raw _) (less_b g2) (lr _)) ?_
   refine mvr (lr _) rfl ?_
   refine sq_no rfl rfl (lr _) rfl rfl ?_
   refine sq_no rfl rfl (lr _) rfl rfl ?_
   refine sq_no rfl rfl (lr _) rfl rfl ?_
   refine sq_no rfl rfl (lr _) rfl rfl ?_
   refine sq_no rfl rfl (lr _) rfl rfl ?_
   refine sq_no rfl rfl (lr _) rfl rfl ?_
   refine pf rfl (lr _) (lr _) ?_
   refine sq_nil ?_
   refine aw_false (lr _) ?_
   refine aw_skip (aw_region ?_)
   refine mvr (lr _) rfl ?_
   refine sq_ev rfl (ev_add (lr _) (lr _) (wr (by omega) (by omega))) ?_
   refine asr (lr _) rfl ?_
   refine sq_nil ?_
   exact ⟨⟨k + 1, by omega⟩, by simp only; omega, Sub.fin 3 ⟨lr _, lr _, lr _, lr _, lr _, lr _, lr _, lr _, trivial⟩ (by have e1 := lo_take (p := p) hk' part a b; have e2 := hi_take (p := p) hk' part a b; simp [inP, *] at e1 e2; rw [e1, e2]; rfl) (by simp [slotsIn, objsIn, sget, keepS, AObj.inB, AV.inB, AV.inL, AV.inE, inE_map]) (by simp [slotsIn, objsIn, sget, keepS, AObj.inB, AV.inB, AV.inL, AV.inE, inE_map]) (by simp [he0])⟩
 ·
  have c1' := c1
  try simp only [qq] at c1'
  obtain rfl : k = l.length := by omega
  refine aw_exit (aw_seq (aw_region ?_))
  refine sq_ev rfl (ev_load_agg (lr _) rfl ty23 rfl) ?_
  refine sq_store rfl (lr _) (lr _) rfl rfl ty23 rfl rfl ?_
  refine sq_nil (aw_ret ?_)
  exact retQ_res (vs := [.agg _]) rfl rfl ⟨resVar_cell rfl rfl ty23 rfl, trivial⟩ (Less.eq (by simp [lo, hi]))
set_option maxHeartbeats 400000 in
theorem within_pure (n a b : Int) : APure Tryz.prog 111 [I n, .agg [I a, I b]] (B (inn n a b)) := by
 refine apure_of (rs := [.tmp 4]) Tryz.func111 rfl rfl (Nat.le_of_ble_eq_true rfl) (by simp [AV.pureL, AV.pureB, AV.pureE, pureE_map]) (rfl) fun e0 he0 => ?_
 refine aw_seq (aw_region ?_)
 refine sq_box rfl (lr _) rfl ?_
 refine asr (lr _) rfl ?_
 refine sq_nil (aw_seq (aw_region ?_))
 refine mvr (lr _) rfl ?_
 refine sq_ev rfl (ev_fieldAddr fo23_0 (lr _)) ?_
 refine sq_ev rfl (ev_load (lr _) rfl ty3 rfl) ?_
 refine sq_ev rfl (ev_fieldAddr fo23_1 (lr _)) ?_
 refine sq_ev rfl (ev_load (lr _) rfl ty3 rfl) ?_
 refine sq_ev rfl (ev_call en89 (lr _) (in_pure _ _ _) ⟨lr _, lr _, lr _, trivial⟩) ?_
 refine asr (lr _) rfl ?_
 refine sq_nil (aw_ret ?_)
 exact retQ_pure (v := .raw _) rfl rfl (Less.eq (by simp))
set_option maxHeartbeats 400000 in
theorem whole_pure (p : Pl) (l : List Nat) (gp : GP p) (cv : CV p l) : APure Tryz.prog 110 [plan p, nats l] (.agg (wcells p l)) := by
 refine apure_of (rs := [.cell 4 120]) Tryz.func110 rfl rfl (Nat.le_of_ble_eq_true rfl) (by simp [AV.pureL, AV.pureB, AV.pureE, pureE_map]) (rfl) fun e0 he0 => ?_
 refine aw_seq (aw_region ?_)
 refine sq_box rfl (lr _) rfl ?_
 refine sq_alloc rfl z120 ?_
 refine sq_nil (aw_seq (aw_region ?_))
 refine sq_alloc rfl z120 ?_
 refine sq_nil (aw_seq (aw_seq (aw_region ?_)))
 refine asr (lr _) rfl ?_
 refine sq_nil (aw_block ?_)
 refine aw_loopk (ι := { k : Nat // k ≤ 3 }) [1, 2, 4, 5] (fun i => [(6, I i.1)]) (fun H i => H.set 2 (.cells (wpart p l i.1))) (fun i => 3 - i.1) (⟨0, by omega⟩) ⟨lr _, lr _, lr _, lr _, lr _, trivial⟩ rfl ?_
 rintro ⟨k, hk⟩
 dsimp only [keepS, St.put, sget, slotsOf, List.map_cons, List.map_nil, List.cons_append, List.nil_append, List.length_cons, List.length_nil, Nat.reduceBEq, Nat.reduceAdd, cond_true, cond_false]
 refine aw_seq (aw_seq (aw_region ?_))
 refine mvr (lr _) rfl ?_
 refine sq_ev rfl (ev_lss (lr _) (lr _)) ?_
 refine sq_nil ?_
 refine aw_cond (lr _) (fun c1 => ?_) (fun c1 => ?_)
 ·
  have c1' := c1
  try simp only [qq] at c1'
  refine aw_skip (aw_seq (aw_block (aw_region ?_)))
  refine mvr (lr _) rfl ?_
  refine sq_ev rfl (ev_load_agg (lr _) rfl ty27 rfl) ?_
  refine mvs rfl (lr _) ?_
  refine mvr (lr _) rfl ?_
  refine sq_ev rfl (ev_call en104 (lr _) (long_pure _ _ _ _ _ gp cv) ⟨lr _, lr _, lr _, lr _, lr _, trivial⟩) ?_
  refine sq_ev rfl (ev_index_box ar120 (lr _) (lr _) rfl (by omega)) ?_
  refine sq_store rfl (lr _) (lr _) rfl rfl ty23 rfl (by rcases k with _ | _ | _ | k <;> first | rfl | omega) ?_
  refine sq_nil (aw_region ?_)
  refine mvr (lr _) rfl ?_
  refine sq_ev rfl (ev_add (lr _) (lr _) (wr (by omega) (by omega))) ?_
  refine asr (lr _) rfl ?_
  refine sq_nil ?_
  exact ⟨⟨k + 1, by omega⟩, by simp only; omega, Sub.fin 3 ⟨lr _, lr _, lr _, lr _, lr _, trivial⟩ (by rcases k with _ | _ | _ | k <;> first | rfl | omega) (by simp [slotsIn, objsIn, sget, keepS, AObj.inB, AV.inB, AV.inL, AV.inE, inE_map]) (by simp [slotsIn, objsIn, sget, keepS, AObj.inB, AV.inB, AV.inL, AV.inE, inE_map]) (by simp [he0])⟩
 ·
  have c1' := c1
  try simp only [qq] at c1'
  obtain rfl : k = 3 := by omega
  refine aw_exit (aw_seq (aw_region ?_))
  refine sq_ev rfl (ev_load_agg (lr _) rfl ty120 rfl) ?_
  refine sq_store rfl (lr _) (lr _) rfl rfl ty120 rfl rfl ?_
  refine sq_nil (aw_ret ?_)
  exact retQ_res (vs := [.agg _]) rfl rfl ⟨resVar_cell rfl rfl ty120 rfl, trivial⟩ (Less.eq (by simp))
end Go.Proofs.YtjghdbdiejaacaaGreatDoor
namespace Go.Proofs.YtjghdbdiejaacaaGreatDoor
open Go Go.Ab Ni
abbrev hourC (h : Int × Int × Int) : List AV := [I h.1, I h.2.1, I h.2.2]
theorem inE_hour (n : Nat) (l : List (Int × Int × Int)) : AV.inE n (l.map hourC) = true := inE_map fun x _ => by simp [AV.inL, AV.inB]
abbrev hourS (l : List (Int × Int × Int)) : AV := .sl 3 (l.map hourC)
theorem bi125 : bldInfo Tryz.prog 125 = some ([.raw (.int .i64 0), .raw (.int .i64 0), .raw (.int .i64 0)], false, [], 1) := by kernel_rfl
theorem en102 : Ent Tryz.prog 102 := Ent.of Tryz.func102 (by kernel_rfl) rfl
theorem en110 : Ent Tryz.prog 110 := Ent.of Tryz.func110 (by kernel_rfl) rfl
theorem en111 : Ent Tryz.prog 111 := Ent.of Tryz.func111 (by kernel_rfl) rfl
theorem sf122 : SlFact Tryz.prog 122 125 3 24 := SlFact.of (by kernel_rfl)
theorem sl122 : slElem Tryz.prog 122 = some (125, 3) := by kernel_rfl
set_option maxHeartbeats 4000000 in
theorem hours_pure (p : Pl) (l : List Nat) (gp : GP p) (cv : CV p l) : APure Tryz.prog 102 [plan p, nats l] (hourS (hrs p l)) := by
 refine apure_of (rs := [.tmp 4]) Tryz.func102 rfl rfl (Nat.le_of_ble_eq_true rfl) (by simp [AV.pureL, AV.pureB, AV.pureE, pureE_map]) (by simp [AV.pureL, AV.pureB, AV.pureE, pureE_map]) fun e0 he0 => ?_
 refine aw_seq (aw_region ?_)
 refine sq_box rfl (lr _) rfl ?_
 refine asr (lr _) rfl ?_
 refine sq_nil (aw_seq (aw_region ?_))
 refine sq_ev rfl (ev_load_agg (lr _) rfl ty27 rfl) ?_
 refine mvs rfl (lr _) ?_
 refine sq_ev rfl (ev_call en110 (lr _) (whole_pure _ _ gp cv) ⟨lr _, lr _, trivial⟩) ?_
 refine sq_alloc rfl z120 ?_
 refine sq_store rfl (lr _) (lr _) rfl rfl ty120 rfl rfl ?_
 refine sq_nil (aw_seq (aw_region ?_))
 refine asr (lr _) rfl ?_
 refine sq_nil (aw_seq (aw_seq (aw_region ?_)))
 refine sq_ev rfl (ev_fieldAddr fo27_1 (lr _)) ?_
 refine sq_ev rfl (ev_index_box ar24 (lr _) (lr _) rfl (by decide)) ?_
 refine sq_ev rfl (ev_fieldAddr fo23_0 (lr _)) ?_
 refine sq_ev rfl (ev_load (lr _) rfl ty3 rfl) ?_
 refine asr (lr _) rfl ?_
 refine sq_nil (aw_block ?_)
 refine aw_sub (sub_token 6 3 (lr _)) ?_
 refine aw_loopk (ι := { i : Nat // i ≤ wid p.s0l p.s0h }) [2, 5] (fun i => [(7, I (p.s0l + i.1)), (6, .own 2 3 ((fm i.1 (hA p l)).map hourC))]) (fun H i => H.set 2 (.tok ((fm i.1 (hA p l)).map hourC).length)) (fun i => wid p.s0l p.s0h - i.1) (⟨0, Nat.zero_le _⟩) ⟨(by exact less_int (by simp)), lr _, lr _, lr _, trivial⟩ rfl ?_
 rintro ⟨i, i1⟩
 dsimp only [keepS, St.put, sget, slotsOf, List.map_cons, List.map_nil, List.cons_append, List.nil_append, List.length_cons, List.length_nil, Nat.reduceBEq, Nat.reduceAdd, cond_true, cond_false]
 have g1 := gp.beg
 have g2 := gp.s0l
 have g3 := gp.s0h
 have g4 := gp.s1l
 have g5 := gp.s1h
 have g6 := gp.dl
 have g7 := gp.dh
 have q1 := hAs_len gp l i1
 have w1 : wid p.s0l p.s0h = (p.s0h - p.s0l + 1).toNat := rfl
 have w2 : wid p.s1l p.s1h = (p.s1h - p.s1l + 1).toNat := rfl
 have w3 : wid p.dl p.dh = (p.dh - p.dl + 1).toNat := rfl
 refine aw_seq (aw_seq (aw_region ?_))
 refine mvr (lr _) rfl ?_
 refine sq_ev rfl (ev_fieldAddr fo27_1 (lr _)) ?_
 refine sq_ev rfl (ev_index_box ar24 (lr _) (lr _) rfl (by decide)) ?_
 refine sq_ev rfl (ev_fieldAddr fo23_1 (lr _)) ?_
 refine sq_ev rfl (ev_load (lr _) rfl ty3 rfl) ?_
 refine sq_ev rfl (ev_leq (lr _) (lr _)) ?_
 refine sq_nil ?_
 refine aw_cond (lr _) (fun c1 => ?_) (fun c1 => ?_)
 ·
  have c1' := c1
  try simp only [qq] at c1'
  refine aw_skip (aw_seq (aw_block (aw_seq (aw_region ?_))))
  refine sq_ev rfl (ev_fieldAddr fo27_1 (lr _)) ?_
  refine sq_ev rfl (ev_index_box ar24 (lr _) (lr _) rfl (by decide)) ?_
  refine sq_ev rfl (ev_fieldAddr fo23_0 (lr _)) ?_
  refine sq_ev rfl (ev_load (lr _) rfl ty3 rfl) ?_
  refine asr (lr _) rfl ?_
  refine sq_nil (aw_block ?_)
  refine aw_loopk (ι := { j : Nat // j ≤ wid p.s1l p.s1h ∧ (0 < j → inn (p.s0l + i - p.beg) (lo p l 0 0 10) (hi p l 0 0 10) = true) }) [2, 5, 7] (fun j => [(8, I (p.s1l + j.1)), (6, .own 2 3 ((fm i (hA p l) ++ fm j.1 (hB p l (p.s0l + i))).map hourC))]) (fun H j => H.set 2 (.tok (((fm i (hA p l) ++ fm j.1 (hB p l (p.s0l + i)))).map hourC).length)) (fun j => wid p.s1l p.s1h - j.1) (⟨0, Nat.zero_le _, by omega⟩) ⟨(by exact less_int (by simp)), (by exact Less.eq (a := .own 2 3 ((fm i (hA p l)).map hourC)) (by simp [fm_zero])), lr _, lr _, lr _, trivial⟩ (by rw [fm_zero, List.append_nil]; rfl) ?_
  rintro ⟨j, j1, hj0⟩
  dsimp only [keepS, St.put, sget, slotsOf, List.map_cons, List.map_nil, List.cons_append, List.nil_append, List.length_cons, List.length_nil, Nat.reduceBEq, Nat.reduceAdd, cond_true, cond_false]
  have q2 := hBs_len gp l (p.s0l + i) j1
  refine aw_seq (aw_seq (aw_region ?_))
  refine mvr (lr _) rfl ?_
  refine sq_ev rfl (ev_fieldAddr fo27_1 (lr _)) ?_
  refine sq_ev rfl (ev_index_box ar24 (lr _) (lr _) rfl (by decide)) ?_
  refine sq_ev rfl (ev_fieldAddr fo23_1 (lr _)) ?_
  refine sq_ev rfl (ev_load (lr _) rfl ty3 rfl) ?_
  refine sq_ev rfl (ev_leq (lr _) (lr _)) ?_
  refine mvr (lr _) rfl ?_
  refine sq_split 35 (lr _) (fun g2 => ?_) (fun g2 => ?_)
  ·
   have g2' := g2
   try simp only [qq] at g2'
   refine sq_yes rfl rfl (less_b g2) rfl (ev_mv (v := .raw _) (lr _)) ?_
   refine sq_yes rfl rfl (less_b g2) rfl (ev_fieldAddr fo27_0 (lr _)) ?_
   refine sq_yes rfl rfl (less_b g2) rfl (ev_load (lr _) rfl ty3 rfl) ?_
   refine sq_yes rfl rfl (less_b g2) rfl (ev_sub (lr _) (lr _) (wr (by omega) (by omega))) ?_
   refine sq_yes rfl rfl (less_b g2) rfl (ev_index_box ar120 (lr _) (lr _) rfl (by decide)) ?_
   refine sq_yes rfl rfl (less_b g2) rfl (ev_load_agg (lr _) rfl ty23 rfl) ?_
   refine sq_yes rfl rfl (less_b g2) rfl (ev_call en111 (lr _) (within_pure _ _ _) ⟨lr _, lr _, trivial⟩) ?_
   refine sq_ev rfl (ev_pickT (v := .raw _) (less_b g2) (lr _)) ?_
   refine sq_nil ?_
   refine aw_cond (lr _) (fun c3 => ?_) (fun c3 => ?_)
   ·
    have c3' := c3
    try simp only [qq] at c3'
    refine aw_skip (aw_seq (aw_block (aw_seq (aw_region ?_))))
    refine sq_ev rfl (ev_fieldAddr fo27_2 (lr _)) ?_
    refine sq_ev rfl (ev_fieldAddr fo23_0 (lr _)) ?_
    refine sq_ev rfl (ev_load (lr _) rfl ty3 rfl) ?_
    refine asr (lr _) rfl ?_
    refine sq_nil (aw_block ?_)
    refine aw_loopk (ι := { k : Nat // k ≤ wid p.dl p.dh ∧ (0 < k → inn (p.s1l + j - (p.s0l + i)) (lo p l 1 0 10) (hi p l 1 0 10) = true) }) [2, 5, 7, 8] (fun k => [(9, I (p.dl + k.1)), (6, .own 2 3 ((fm i (hA p l) ++ fm j (hB p l (p.s0l + i)) ++ fm k.1 (hC p l (p.s0l + i) (p.s1l + j))).map hourC))]) (fun H k => H.set 2 (.tok (((fm i (hA p l) ++ fm j (hB p l (p.s0l + i)) ++ fm k.1 (hC p l (p.s0l + i) (p.s1l + j)))).map hourC).length)) (fun k => wid p.dl p.dh - k.1) (⟨0, Nat.zero_le _, by omega⟩) ⟨(by exact less_int (by simp)), (by exact Less.eq (a := .own 2 3 ((fm i (hA p l) ++ fm j (hB p l (p.s0l + i))).map hourC)) (by simp [fm_zero])), lr _, lr _, lr _, lr _, trivial⟩ (by rw [fm_zero, List.append_nil]; rfl) ?_
    rintro ⟨k, k1, hk0⟩
    dsimp only [keepS, St.put, sget, slotsOf, List.map_cons, List.map_nil, List.cons_append, List.nil_append, List.length_cons, List.length_nil, Nat.reduceBEq, Nat.reduceAdd, cond_true, cond_false]
    have q3 := hCs_len gp l (p.s0l + i) (p.s1l + j) k1
    refine aw_seq (aw_seq (aw_region ?_))
    refine mvr (lr _) rfl ?_
    refine sq_ev rfl (ev_fieldAddr fo27_2 (lr _)) ?_
    refine sq_ev rfl (ev_fieldAddr fo23_1 (lr _)) ?_
    refine sq_ev rfl (ev_load (lr _) rfl ty3 rfl) ?_
    refine sq_ev rfl (ev_leq (lr _) (lr _)) ?_
    refine mvr (lr _) rfl ?_
    refine sq_split 54 (lr _) (fun g4 => ?_) (fun g4 => ?_)
    ·
     have g4' := g4
     try simp only [qq] at g4'
     refine sq_yes rfl rfl (less_b g4) rfl (ev_mv (v := .raw _) (lr _)) ?_
     refine sq_yes rfl rfl (less_b g4) rfl (ev_mv (v := .raw _) (lr _)) ?_
     refine sq_yes rfl rfl (less_b g4) rfl (ev_sub (lr _) (lr _) (wr (by omega) (by omega))) ?_
     refine sq_yes rfl rfl (less_b g4) rfl (ev_index_box ar120 (lr _) (lr _) rfl (by decide)) ?_
     refine sq_yes rfl rfl (less_b g4) rfl (ev_load_agg (lr _) rfl ty23 rfl) ?_
     refine sq_yes rfl rfl (less_b g4) rfl (ev_call en111 (lr _) (within_pure _ _ _) ⟨lr _, lr _, trivial⟩) ?_
     refine sq_ev rfl (ev_pickT (v := .raw _) (less_b g4) (lr _)) ?_
     refine sq_nil ?_
     refine aw_cond (lr _) (fun c5 => ?_) (fun c5 => ?_)
     ·
      have c5' := c5
      try simp only [qq] at c5'
      refine aw_skip (aw_seq (aw_block (aw_seq (aw_region ?_))))
      refine mvr (lr _) rfl ?_
      refine mvr (lr _) rfl ?_
      refine sq_ev rfl (ev_sub (lr _) (lr _) (wr (by omega) (by omega))) ?_
      refine sq_ev rfl (ev_index_box ar120 (lr _) (lr _) rfl (by decide)) ?_
      refine sq_ev rfl (ev_load_agg (lr _) rfl ty23 rfl) ?_
      refine sq_ev rfl (ev_call en111 (lr _) (within_pure _ _ _) ⟨lr _, lr _, trivial⟩) ?_
      refine sq_nil ?_
      refine aw_cond (lr _) (fun c6 => ?_) (fun c6 => ?_)
      ·
       have c6' := c6
       try simp only [qq] at c6'
       have e3 : (fm i (hA p l) ++ fm j (hB p l (p.s0l + i)) ++ fm (k + 1) (hC p l (p.s0l + i) (p.s1l + j))).map hourC = (fm i (hA p l) ++ fm j (hB p l (p.s0l + i)) ++ fm k (hC p l (p.s0l + i) (p.s1l + j))).map hourC ++ [hourC (p.s0l + i, p.s1l + j, p.dl + k)] := by rw [fm_succ, hC, if_pos c6']; simp
       have e4 : ((fm i (hA p l) ++ fm j (hB p l (p.s0l + i)) ++ fm (k + 1) (hC p l (p.s0l + i) (p.s1l + j))).map hourC).length = ((fm i (hA p l) ++ fm j (hB p l (p.s0l + i)) ++ fm k (hC p l (p.s0l + i) (p.s1l + j))).map hourC ++ [hourC (p.s0l + i, p.s1l + j, p.dl + k)]).length := by rw [e3]
       refine aw_region ?_
       refine sq_ev rfl (ev_mv (v := .own _ _ _) (lr _)) ?_
       refine mvr (lr _) rfl ?_
       refine mvr (lr _) rfl ?_
       refine mvr (lr _) rfl ?_
       refine sq_ev rfl (ev_build bi125 rfl) ?_
       refine sq_ev rfl (ev_buildSlice (es := [[_, _, _]]) sf122 rfl rfl rfl rfl) ?_
       refine sq_append rfl sf122 Tryz.underlying122 rfl rfl (less_slx _ _) (Nat.succ_pos _) (by simp; omega) (by simp; omega) ?_
       refine sq_ev rfl (ev_as (v := .own _ _ _) (lr _)) ?_
       refine sq_nil (aw_region ?_)
       refine mvr (lr _) rfl ?_
       refine sq_ev rfl (ev_add (lr _) (lr _) (wr (by omega) (by omega))) ?_
       refine asr (lr _) rfl ?_
       refine sq_nil ?_
       exact ⟨⟨k + 1, by omega, fun _ => by assumption⟩, by simp only; omega, Sub.fin 3 ⟨less_int (by first | omega | (simp only; omega)), Less.eq (b := .own 2 3 ((fm i (hA p l) ++ fm j (hB p l (p.s0l + i)) ++ fm (k + 1) (hC p l (p.s0l + i) (p.s1l + j))).map hourC)) (by rw [e3]; rfl), lr _, lr _, lr _, lr _, trivial⟩ (congrArg (fun n => [_, _, AObj.tok n]) e4.symm) (by simp [slotsIn, objsIn, sget, keepS, AObj.inB, AV.inB, AV.inL, inE_hour, inE_map, -List.map_append]) (by simp [slotsIn, objsIn, sget, keepS, AObj.inB, AV.inB, AV.inL, inE_hour, inE_map, -List.map_append]) (by simp [he0])⟩
      ·
       have c6' := c6
       try simp only [qq] at c6'
       have e3 : (fm i (hA p l) ++ fm j (hB p l (p.s0l + i)) ++ fm (k + 1) (hC p l (p.s0l + i) (p.s1l + j))).map hourC = (fm i (hA p l) ++ fm j (hB p l (p.s0l + i)) ++ fm k (hC p l (p.s0l + i) (p.s1l + j))).map hourC := by rw [fm_succ, hC, if_neg (by simp [c6'])]; simp
       have e4 : ((fm i (hA p l) ++ fm j (hB p l (p.s0l + i)) ++ fm (k + 1) (hC p l (p.s0l + i) (p.s1l + j))).map hourC).length = ((fm i (hA p l) ++ fm j (hB p l (p.s0l + i)) ++ fm k (hC p l (p.s0l + i) (p.s1l + j))).map hourC).length := by rw [e3]
       refine aw_skip (aw_region ?_)
       refine mvr (lr _) rfl ?_
       refine sq_ev rfl (ev_add (lr _) (lr _) (wr (by omega) (by omega))) ?_
       refine asr (lr _) rfl ?_
       refine sq_nil ?_
       exact ⟨⟨k + 1, by omega, fun _ => by assumption⟩, by simp only; omega, Sub.fin 3 ⟨less_int (by first | omega | (simp only; omega)), Less.eq (b := .own 2 3 ((fm i (hA p l) ++ fm j (hB p l (p.s0l + i)) ++ fm (k + 1) (hC p l (p.s0l + i) (p.s1l + j))).map hourC)) (by rw [e3]; rfl), lr _, lr _, lr _, lr _, trivial⟩ (congrArg (fun n => [_, _, AObj.tok n]) e4.symm) (by simp [slotsIn, objsIn, sget, keepS, AObj.inB, AV.inB, AV.inL, inE_hour, inE_map, -List.map_append]) (by simp [slotsIn, objsIn, sget, keepS, AObj.inB, AV.inB, AV.inL, inE_hour, inE_map, -List.map_append]) (by simp [he0])⟩
     ·
      have c5' := c5
      try simp only [qq] at c5'
      refine aw_exit (aw_region ?_)
      refine mvr (lr _) rfl ?_
      refine sq_ev rfl (ev_add (lr _) (lr _) (wr (by omega) (by omega))) ?_
      refine asr (lr _) rfl ?_
      refine sq_nil ?_
      have e5 : fm i (hA p l) ++ fm (j + 1) (hB p l (p.s0l + i)) = fm i (hA p l) ++ fm j (hB p l (p.s0l + i)) ++ fm k (hC p l (p.s0l + i) (p.s1l + j)) := by rw [fm_succ, hB_eq hk0 (by first | (left; omega) | (right; assumption)), List.append_assoc]
      exact ⟨⟨j + 1, by omega, fun _ => by assumption⟩, by simp only; omega, Sub.fin 3 ⟨less_int (by first | omega | (simp only; omega)), Less.eq (b := .own 2 3 ((fm i (hA p l) ++ fm (j + 1) (hB p l (p.s0l + i))).map hourC)) (by rw [e5] <;> rfl), lr _, lr _, lr _, trivial⟩ (congrArg (fun n => [_, _, AObj.tok n]) (congrArg (fun L => (List.map hourC L).length) e5.symm)) (by simp [slotsIn, objsIn, sget, keepS, AObj.inB, AV.inB, AV.inL, inE_hour, inE_map, -List.map_append]) (by simp [slotsIn, objsIn, sget, keepS, AObj.inB, AV.inB, AV.inL, inE_hour, inE_map, -List.map_append]) (by simp [he0])⟩
    ·
     have g4' := g4
     try simp only [qq] at g4'
     refine sq_no rfl rfl (less_b g4) rfl rfl ?_
     refine sq_no rfl rfl (less_b g4) rfl rfl ?_
     refine sq_no rfl rfl (less_b g4) rfl rfl ?_
     refine sq_no rfl rfl (less_b g4) rfl rfl ?_
     refine sq_no rfl rfl (less_b g4) rfl rfl ?_
     refine sq_no rfl rfl (less_b g4) rfl rfl ?_
     refine sq_ev rfl (ev_pickF (v := .raw _) (less_b g4) (lr _)) ?_
     refine sq_nil ?_
     refine aw_false (lr _) ?_
     refine aw_exit (aw_region ?_)
     refine mvr (lr _) rfl ?_
     refine sq_ev rfl (ev_add (lr _) (lr _) (wr (by omega) (by omega))) ?_
     refine asr (lr _) rfl ?_
     refine sq_nil ?_
     have e5 : fm i (hA p l) ++ fm (j + 1) (hB p l (p.s0l + i)) = fm i (hA p l) ++ fm j (hB p l (p.s0l + i)) ++ fm k (hC p l (p.s0l + i) (p.s1l + j)) := by rw [fm_succ, hB_eq hk0 (by first | (left; omega) | (right; assumption)), List.append_assoc]
     exact ⟨⟨j + 1, by omega, fun _ => by assumption⟩, by simp only; omega, Sub.fin 3 ⟨less_int (by first | omega | (simp only; omega)), Less.eq (b := .own 2 3 ((fm i (hA p l) ++ fm (j + 1) (hB p l (p.s0l + i))).map hourC)) (by rw [e5] <;> rfl), lr _, lr _, lr _, trivial⟩ (congrArg (fun n => [_, _, AObj.tok n]) (congrArg (fun L => (List.map hourC L).length) e5.symm)) (by simp [slotsIn, objsIn, sget, keepS, AObj.inB, AV.inB, AV.inL, inE_hour, inE_map, -List.map_append]) (by simp [slotsIn, objsIn, sget, keepS, AObj.inB, AV.inB, AV.inL, inE_hour, inE_map, -List.map_append]) (by simp [he0])⟩
   ·
    have c3' := c3
    try simp only [qq] at c3'
    refine aw_exit (aw_region ?_)
    refine mvr (lr _) rfl ?_
    refine sq_ev rfl (ev_add (lr _) (lr _) (wr (by omega) (by omega))) ?_
    refine asr (lr _) rfl ?_
    refine sq_nil ?_
    have e6 : fm (i + 1) (hA p l) = fm i (hA p l) ++ fm j (hB p l (p.s0l + i)) := by rw [fm_succ, hA_eq hj0 (by first | (left; omega) | (right; assumption))]
    exact ⟨⟨i + 1, by omega⟩, by simp only; omega, Sub.fin 3 ⟨less_int (by first | omega | (simp only; omega)), Less.eq (b := .own 2 3 ((fm (i + 1) (hA p l)).map hourC)) (by rw [e6] <;> rfl), lr _, lr _, trivial⟩ (congrArg (fun n => [_, _, AObj.tok n]) (congrArg (fun L => (List.map hourC L).length) e6.symm)) (by simp [slotsIn, objsIn, sget, keepS, AObj.inB, AV.inB, AV.inL, inE_hour, inE_map, -List.map_append]) (by simp [slotsIn, objsIn, sget, keepS, AObj.inB, AV.inB, AV.inL, inE_hour, inE_map, -List.map_append]) (by simp [he0])⟩
  ·
   have g2' := g2
   try simp only [qq] at g2'
   refine sq_no rfl rfl (less_b g2) rfl rfl ?_
   refine sq_no rfl rfl (less_b g2) rfl rfl ?_
   refine sq_no rfl rfl (less_b g2) rfl rfl ?_
   refine sq_no rfl rfl (less_b g2) rfl rfl ?_
   refine sq_no rfl rfl (less_b g2) rfl rfl ?_
   refine sq_no rfl rfl (less_b g2) rfl rfl ?_
   refine sq_no rfl rfl (less_b g2) rfl rfl ?_
   refine sq_ev rfl (ev_pickF (v := .raw _) (less_b g2) (lr _)) ?_
   refine sq_nil ?_
   refine aw_false (lr _) ?_
   refine aw_exit (aw_region ?_)
   refine mvr (lr _) rfl ?_
   refine sq_ev rfl (ev_add (lr _) (lr _) (wr (by omega) (by omega))) ?_
   refine asr (lr _) rfl ?_
   refine sq_nil ?_
   have e6 : fm (i + 1) (hA p l) = fm i (hA p l) ++ fm j (hB p l (p.s0l + i)) := by rw [fm_succ, hA_eq hj0 (by first | (left; omega) | (right; assumption))]
   exact ⟨⟨i + 1, by omega⟩, by simp only; omega, Sub.fin 3 ⟨less_int (by first | omega | (simp only; omega)), Less.eq (b := .own 2 3 ((fm (i + 1) (hA p l)).map hourC)) (by rw [e6] <;> rfl), lr _, lr _, trivial⟩ (congrArg (fun n => [_, _, AObj.tok n]) (congrArg (fun L => (List.map hourC L).length) e6.symm)) (by simp [slotsIn, objsIn, sget, keepS, AObj.inB, AV.inB, AV.inL, inE_hour, inE_map, -List.map_append]) (by simp [slotsIn, objsIn, sget, keepS, AObj.inB, AV.inB, AV.inL, inE_hour, inE_map, -List.map_append]) (by simp [he0])⟩
 ·
  have c1' := c1
  try simp only [qq] at c1'
  obtain rfl : i = wid p.s0l p.s0h := by omega
  refine aw_exit (aw_seq (aw_region ?_))
  refine sq_ev rfl (ev_mv (v := .own _ _ _) (lr _)) ?_
  refine sq_ev rfl (ev_as (v := .own _ _ _) (lr _)) ?_
  refine sq_nil (aw_ret ?_)
  exact retQ_pure (v := .own _ _ _) rfl rfl (Less.trans (less_own _ _ _) (Less.eq (by rfl)))
end Go.Proofs.YtjghdbdiejaacaaGreatDoor
namespace Go.Proofs.YtjghdbdiejaacaaGreatDoor
open Go Go.Ab Ni
theorem en144 : Ent Tryz.prog 144 := Ent.of Tryz.func144 (by kernel_rfl) rfl
set_option maxHeartbeats 2000000 in
theorem lists_pure {p : Pl} (gp : GP p) (m : Nat) : ∀ (now : List Nat), (∀ x ∈ now, x < p.scenes.length) → now.length + m ≤ 16 → APure Tryz.prog 144 [plan p, nats now, I (now.length + m)] (natss (lsts p.scenes.length m now)) := by
 induction m using Nat.strongRecOn with
 | _ m ih =>
 intro now hn hlen
 refine apure_of (rs := [.tmp 6]) Tryz.func144 rfl rfl (Nat.le_of_ble_eq_true rfl) (by simp [AV.pureL, AV.pureB, AV.pureE, pureE_map]) (by simp [AV.pureL, AV.pureB, AV.pureE, pureE_map]) fun e0 he0 => ?_
 refine aw_seq (aw_region ?_)
 refine sq_box rfl (lr _) rfl ?_
 refine asr (lr _) rfl ?_
 refine sq_nil (aw_seq (aw_seq (aw_region ?_)))
 refine mvs rfl (lr _) ?_
 refine sq_ev rfl (ev_len_map sl34 (lr _)) ?_
 refine mvr (lr _) rfl ?_
 refine sq_ev rfl (ev_eql (lr _) (lr _)) ?_
 refine sq_nil ?_
 refine aw_cond (lr _) (fun c1 => ?_) (fun c1 => ?_)
 ·
  have c1' := c1
  try simp only [qq] at c1'
  obtain rfl : m = 0 := by omega
  refine aw_seq (aw_region ?_)
  refine mvs rfl (lr _) ?_
  refine sq_ev rfl (ev_buildSlice (es := [[_]]) sf30 rfl rfl rfl rfl) ?_
  refine sq_ev rfl (ev_as (v := .slx _ _) (lr _)) ?_
  refine sq_nil (aw_ret ?_)
  exact retQ_pure (v := .slx _ _) rfl rfl (less_slx _ _)
 ·
  have c1' := c1
  try simp only [qq] at c1'
  obtain ⟨m, rfl⟩ : ∃ m0, m = m0 + 1 := ⟨m - 1, by omega⟩
  have hnl := nxt_le hn
  have gl := gp.len
  refine aw_skip (aw_seq (aw_region ?_))
  refine asr (lr _) rfl ?_
  refine sq_nil (aw_seq (aw_seq (aw_region ?_)))
  refine mvs rfl (lr _) ?_
  refine sq_ev rfl (ev_len_map sl34 (lr _)) ?_
  refine sq_ev rfl (ev_gtr (lr _) (lr _)) ?_
  refine sq_nil ?_
  refine aw_cond (lr _) (fun c2 => ?_) (fun c2 => ?_)
  ·
   have c2' := c2
   try simp only [qq] at c2'
   have hnx := nxt_last (now := now) (by omega)
   refine aw_region ?_
   refine mvs rfl (lr _) ?_
   refine mvs rfl (lr _) ?_
   refine sq_ev rfl (ev_len_map sl34 (lr _)) ?_
   refine sq_ev rfl (ev_sub (lr _) (lr _) (wr (by omega) (by omega))) ?_
   refine sq_ev rfl (ev_index_map sl34 (lr _) (lr _) (show ((now.length : Int) - 1) = ((now.length - 1 : Nat) : Int) by omega) (by omega)) ?_
   refine sq_ev rfl (ev_load_i (lr _) ty3 rfl) ?_
   refine sq_ev rfl (ev_add (lr _) (lr _) (wr (by omega) (by omega))) ?_
   refine asr (lr _) rfl ?_
   refine sq_nil (aw_seq (aw_region ?_))
   refine asr (lr _) rfl ?_
   refine sq_nil (aw_seq (aw_seq (aw_region ?_)))
   refine mvr (lr _) rfl ?_
   refine asr (lr _) rfl ?_
   refine sq_nil (aw_block ?_)
   refine aw_sub (sub_token 8 1 (lr _)) ?_
   refine aw_loopk (ι := { k : Nat // k ≤ p.scenes.length - nxt now }) [1, 2, 3] (fun k => [(9, I (nxt now + k.1)), (8, .own 1 1 ((fm k.1 fun i => lsts p.scenes.length m (now ++ [nxt now + i])).map (fun x => [nats x])))]) (fun H k => H.set 1 (.tok ((fm k.1 fun i => lsts p.scenes.length m (now ++ [nxt now + i])).map (fun x => [nats x])).length)) (fun k => p.scenes.length - nxt now - k.1) (⟨0, Nat.zero_le _⟩) ⟨(by exact less_int (by first | omega | (simp only; omega))), lr _, lr _, lr _, lr _, trivial⟩ rfl ?_
   rintro ⟨k, k1⟩
   dsimp only [keepS, St.put, sget, slotsOf, List.map_cons, List.map_nil, List.cons_append, List.nil_append, List.length_cons, List.length_nil, Nat.reduceBEq, Nat.reduceAdd, cond_true, cond_false]
   have q1 := lsts_part (m := m) now gp.len k1
   have q2 := lsts_all (m := m) (now ++ [nxt now + k]) gp.len
   refine aw_seq (aw_seq (aw_region ?_))
   refine mvr (lr _) rfl ?_
   refine sq_ev rfl (ev_fieldAddr fo27_3 (lr _)) ?_
   refine sq_ev rfl (ev_load (lr _) rfl ty25 rfl) ?_
   refine sq_ev rfl (ev_len_map sl25 (lr _)) ?_
   refine sq_ev rfl (ev_lss (lr _) (lr _)) ?_
   refine sq_nil ?_
   refine aw_cond (lr _) (fun c3 => ?_) (fun c3 => ?_)
   ·
    have c3' := c3
    try simp only [qq] at c3'
    refine aw_skip (aw_seq (aw_block ?_))
    refine aw_drawc [] [3, 6, 9] _ mo (by kernel_rfl) (HSub.refl _) ?_
    refine dc_ev rfl (ev_mv (v := .own _ _ _) (lr _)) ?_
    refine dc_ev rfl (ev_load_agg (lr _) rfl ty27 rfl) ?_
    refine dc_ev rfl (ev_mv (v := .sl _ _) (lr _)) ?_
    refine dc_eff rfl rfl (eff_append_new rfl sf34 Tryz.underlying34 (less_nilx _) (lr _) (by simp; omega) (by simp; omega)) (by apply HL.sub; repeat' (first | exact HL.nil _ | apply HL.same | apply HL.tok)) ?_
    refine dc_ev rfl (ev_mv (v := .raw _) (lr _)) ?_
    refine dc_ev rfl (ev_buildSlice (es := [[_]]) sf34 rfl rfl rfl rfl) ?_
    refine dc_eff rfl rfl (eff_append rfl sf34 Tryz.underlying34 rfl rfl (less_slx _ _) (by simp; omega) (by simp; omega)) (by apply HL.sub; repeat' (first | exact HL.nil _ | apply HL.same | apply HL.tok)) ?_
    refine dc_ev rfl (ev_mv (v := .raw _) (lr _)) ?_
    refine dc_ev rfl (ev_call en144 (lr _) (ih m (by omega) (now ++ [nxt now + k]) (fun x hx => (by rcases List.mem_append.1 hx with h | h; exact hn x h; simp at h; omega)) (by simp; omega)) ⟨lr _, Less.trans (less_own _ _ _) (Less.eq (by simp)), less_int (by simp; omega), trivial⟩) ?_
    refine dc_eff rfl rfl (eff_append rfl sf30 Tryz.underlying30 rfl rfl (lr _) (by simp; omega) (by simp; omega)) (by apply HL.sub; repeat' (first | exact HL.nil _ | apply HL.same | apply HL.tok)) ?_
    refine dc_ev rfl (ev_as (v := .own _ _ _) (lr _)) ?_
    refine dc_nil (aw_region ?_)
    refine mvr (lr _) rfl ?_
    refine sq_ev rfl (ev_add (lr _) (lr _) (wr (by omega) (by omega))) ?_
    refine asr (lr _) rfl ?_
    refine sq_nil ?_
    have e1 : (fm (k + 1) fun i => lsts p.scenes.length m (now ++ [nxt now + i])).map (fun x => [nats x]) = ((fm k fun i => lsts p.scenes.length m (now ++ [nxt now + i])).map (fun x => [nats x])) ++ (lsts p.scenes.length m (now ++ [nxt now + k])).map (fun x => [nats x]) := by rw [fm_succ, List.map_append]
    have e2 : ((fm (k + 1) fun i => lsts p.scenes.length m (now ++ [nxt now + i])).map (fun x => [nats x])).length = ((fm k fun i => lsts p.scenes.length m (now ++ [nxt now + i])).map (fun x => [nats x]) ++ (lsts p.scenes.length m (now ++ [nxt now + k])).map (fun x => [nats x])).length := by rw [e1]
    exact ⟨⟨k + 1, by omega⟩, by simp only; omega, Sub.fin 2 ⟨less_int (by first | omega | (simp only; omega)), Less.eq (b := .own 1 1 ((fm (k + 1) fun i => lsts p.scenes.length m (now ++ [nxt now + i])).map (fun x => [nats x]))) (by rw [e1] <;> rfl), lr _, lr _, lr _, trivial⟩ (congrArg (fun n => [_, AObj.tok n]) e2.symm) (by simp [slotsIn, objsIn, sget, keepS, AObj.inB, AV.inB, AV.inL, AV.inE, inE_map, inE_nats, -List.map_append]) (by simp [slotsIn, objsIn, sget, keepS, AObj.inB, AV.inB, AV.inL, AV.inE, inE_map, inE_nats, -List.map_append]) (by simp [he0])⟩
   ·
    have c3' := c3
    try simp only [qq] at c3'
    obtain rfl : k = p.scenes.length - nxt now := by omega
    refine aw_exit (aw_seq (aw_region ?_))
    refine sq_ev rfl (ev_mv (v := .own _ _ _) (lr _)) ?_
    refine sq_ev rfl (ev_as (v := .own _ _ _) (lr _)) ?_
    refine sq_nil (aw_ret ?_)
    exact retQ_pure (v := .own _ _ _) rfl rfl (Less.trans (less_own _ _ _) (Less.eq (by rfl)))
  ·
   have c2' := c2
   try simp only [qq] at c2'
   have hnx := nxt_nil (now := now) (by omega)
   refine aw_skip (aw_seq (aw_region ?_))
   refine asr (lr _) rfl ?_
   refine sq_nil (aw_seq (aw_seq (aw_region ?_)))
   refine mvr (lr _) rfl ?_
   refine asr (lr _) rfl ?_
   refine sq_nil (aw_block ?_)
   refine aw_sub (sub_token 8 1 (lr _)) ?_
   refine aw_loopk (ι := { k : Nat // k ≤ p.scenes.length - nxt now }) [1, 2, 3] (fun k => [(9, I (nxt now + k.1)), (8, .own 1 1 ((fm k.1 fun i => lsts p.scenes.length m (now ++ [nxt now + i])).map (fun x => [nats x])))]) (fun H k => H.set 1 (.tok ((fm k.1 fun i => lsts p.scenes.length m (now ++ [nxt now + i])).map (fun x => [nats x])).length)) (fun k => p.scenes.length - nxt now - k.1) (⟨0, Nat.zero_le _⟩) ⟨(by exact less_int (by first | omega | (simp only; omega))), lr _, lr _, lr _, lr _, trivial⟩ rfl ?_
   rintro ⟨k, k1⟩
   dsimp only [keepS, St.put, sget, slotsOf, List.map_cons, List.map_nil, List.cons_append, List.nil_append, List.length_cons, List.length_nil, Nat.reduceBEq, Nat.reduceAdd, cond_true, cond_false]
   have q1 := lsts_part (m := m) now gp.len k1
   have q2 := lsts_all (m := m) (now ++ [nxt now + k]) gp.len
   refine aw_seq (aw_seq (aw_region ?_))
   refine mvr (lr _) rfl ?_
   refine sq_ev rfl (ev_fieldAddr fo27_3 (lr _)) ?_
   refine sq_ev rfl (ev_load (lr _) rfl ty25 rfl) ?_
   refine sq_ev rfl (ev_len_map sl25 (lr _)) ?_
   refine sq_ev rfl (ev_lss (lr _) (lr _)) ?_
   refine sq_nil ?_
   refine aw_cond (lr _) (fun c4 => ?_) (fun c4 => ?_)
   ·
    have c4' := c4
    try simp only [qq] at c4'
    refine aw_skip (aw_seq (aw_block ?_))
    refine aw_drawc [] [3, 6, 9] _ mo (by kernel_rfl) (HSub.refl _) ?_
    refine dc_ev rfl (ev_mv (v := .own _ _ _) (lr _)) ?_
    refine dc_ev rfl (ev_load_agg (lr _) rfl ty27 rfl) ?_
    refine dc_ev rfl (ev_mv (v := .sl _ _) (lr _)) ?_
    refine dc_eff rfl rfl (eff_append_new rfl sf34 Tryz.underlying34 (less_nilx _) (lr _) (by simp; omega) (by simp; omega)) (by apply HL.sub; repeat' (first | exact HL.nil _ | apply HL.same | apply HL.tok)) ?_
    refine dc_ev rfl (ev_mv (v := .raw _) (lr _)) ?_
    refine dc_ev rfl (ev_buildSlice (es := [[_]]) sf34 rfl rfl rfl rfl) ?_
    refine dc_eff rfl rfl (eff_append rfl sf34 Tryz.underlying34 rfl rfl (less_slx _ _) (by simp; omega) (by simp; omega)) (by apply HL.sub; repeat' (first | exact HL.nil _ | apply HL.same | apply HL.tok)) ?_
    refine dc_ev rfl (ev_mv (v := .raw _) (lr _)) ?_
    refine dc_ev rfl (ev_call en144 (lr _) (ih m (by omega) (now ++ [nxt now + k]) (fun x hx => (by rcases List.mem_append.1 hx with h | h; exact hn x h; simp at h; omega)) (by simp; omega)) ⟨lr _, Less.trans (less_own _ _ _) (Less.eq (by simp)), less_int (by simp; omega), trivial⟩) ?_
    refine dc_eff rfl rfl (eff_append rfl sf30 Tryz.underlying30 rfl rfl (lr _) (by simp; omega) (by simp; omega)) (by apply HL.sub; repeat' (first | exact HL.nil _ | apply HL.same | apply HL.tok)) ?_
    refine dc_ev rfl (ev_as (v := .own _ _ _) (lr _)) ?_
    refine dc_nil (aw_region ?_)
    refine mvr (lr _) rfl ?_
    refine sq_ev rfl (ev_add (lr _) (lr _) (wr (by omega) (by omega))) ?_
    refine asr (lr _) rfl ?_
    refine sq_nil ?_
    have e1 : (fm (k + 1) fun i => lsts p.scenes.length m (now ++ [nxt now + i])).map (fun x => [nats x]) = ((fm k fun i => lsts p.scenes.length m (now ++ [nxt now + i])).map (fun x => [nats x])) ++ (lsts p.scenes.length m (now ++ [nxt now + k])).map (fun x => [nats x]) := by rw [fm_succ, List.map_append]
    have e2 : ((fm (k + 1) fun i => lsts p.scenes.length m (now ++ [nxt now + i])).map (fun x => [nats x])).length = ((fm k fun i => lsts p.scenes.length m (now ++ [nxt now + i])).map (fun x => [nats x]) ++ (lsts p.scenes.length m (now ++ [nxt now + k])).map (fun x => [nats x])).length := by rw [e1]
    exact ⟨⟨k + 1, by omega⟩, by simp only; omega, Sub.fin 2 ⟨less_int (by first | omega | (simp only; omega)), Less.eq (b := .own 1 1 ((fm (k + 1) fun i => lsts p.scenes.length m (now ++ [nxt now + i])).map (fun x => [nats x]))) (by rw [e1] <;> rfl), lr _, lr _, lr _, trivial⟩ (congrArg (fun n => [_, AObj.tok n]) e2.symm) (by simp [slotsIn, objsIn, sget, keepS, AObj.inB, AV.inB, AV.inL, AV.inE, inE_map, inE_nats, -List.map_append]) (by simp [slotsIn, objsIn, sget, keepS, AObj.inB, AV.inB, AV.inL, AV.inE, inE_map, inE_nats, -List.map_append]) (by simp [he0])⟩
   ·
    have c4' := c4
    try simp only [qq] at c4'
    obtain rfl : k = p.scenes.length - nxt now := by omega
    refine aw_exit (aw_seq (aw_region ?_))
    refine sq_ev rfl (ev_mv (v := .own _ _ _) (lr _)) ?_
    refine sq_ev rfl (ev_as (v := .own _ _ _) (lr _)) ?_
    refine sq_nil (aw_ret ?_)
    exact retQ_pure (v := .own _ _ _) rfl rfl (Less.trans (less_own _ _ _) (Less.eq (by rfl)))
end Go.Proofs.YtjghdbdiejaacaaGreatDoor
namespace Go.Proofs.YtjghdbdiejaacaaGreatDoor
open Go Go.Ab Ni
theorem choice_pureN (p : Pl) (l : List Nat) (gp : GP p) (cv : CV p l) : APure Tryz.prog 78 [plan p, nats l] (B (isC p l)) := by
  rw [nats_ints]
  exact choice_pure p (up l) (by have := gp.len; omega) (by have := cv.len; simp [up]; omega)
theorem lists0_pure {p : Pl} (gp : GP p) (i : Nat) (h : i ≤ p.scenes.length) : APure Tryz.prog 144 [plan p, nats [], I ((p.scenes.length : Int) - i)] (natss (aL p i)) := by
  have := lists_pure gp (p.scenes.length - i) [] (by simp) (by have := gp.len; simp; omega)
  rw [show ((p.scenes.length : Int) - i) = (([] : List Nat).length : Int) + ((p.scenes.length - i : Nat) : Int) by simp; omega]
  exact this
theorem en78 : Ent Tryz.prog 78 := Ent.of Tryz.func78 (by kernel_rfl) rfl
set_option maxHeartbeats 2000000 in
theorem all_pure {p : Pl} (gp : GP p) : APure Tryz.prog 92 [plan p] (natss (allC p)) := by
 refine apure_of (rs := [.tmp 2]) Tryz.func92 rfl rfl (Nat.le_of_ble_eq_true rfl) (by simp [AV.pureL, AV.pureB, AV.pureE, pureE_map]) (by simp [AV.pureL, AV.pureB, AV.pureE, pureE_map]) fun e0 he0 => ?_
 refine aw_seq (aw_region ?_)
 refine sq_box rfl (lr _) rfl ?_
 refine asr (lr _) rfl ?_
 refine sq_nil (aw_seq (aw_region ?_))
 refine asr (lr _) rfl ?_
 refine sq_nil (aw_seq (aw_seq (aw_region ?_)))
 refine sq_ev rfl (ev_fieldAddr fo27_3 (lr _)) ?_
 refine sq_ev rfl (ev_load (lr _) rfl ty25 rfl) ?_
 refine sq_ev rfl (ev_len_map sl25 (lr _)) ?_
 refine asr (lr _) rfl ?_
 refine sq_nil (aw_block ?_)
 refine aw_sub (sub_token 3 1 (lr _)) ?_
 have gl := gp.len
 refine aw_loopk (ι := { i : Nat // i ≤ p.scenes.length + 1 }) [1] (fun i => [(4, I ((p.scenes.length : Int) - i.1)), (3, .own 1 1 ((fm i.1 (aA p)).map (fun x => [nats x])))]) (fun H i => H.set 1 (.tok ((fm i.1 (aA p)).map (fun x => [nats x])).length)) (fun i => p.scenes.length + 1 - i.1) (⟨0, Nat.zero_le _⟩) ⟨(by exact less_int (by simp)), lr _, lr _, trivial⟩ rfl ?_
 rintro ⟨i, i1⟩
 dsimp only [keepS, St.put, sget, slotsOf, List.map_cons, List.map_nil, List.cons_append, List.nil_append, List.length_cons, List.length_nil, Nat.reduceBEq, Nat.reduceAdd, cond_true, cond_false]
 have q1 := aAs_len gp i1
 have q2 := aL_len gp i
 refine aw_seq (aw_seq (aw_region ?_))
 refine mvr (lr _) rfl ?_
 refine sq_ev rfl (ev_geq (lr _) (lr _)) ?_
 refine sq_nil ?_
 refine aw_cond (lr _) (fun c1 => ?_) (fun c1 => ?_)
 ·
  have c1' := c1
  try simp only [qq] at c1'
  refine aw_skip (aw_seq (aw_block (aw_seq (aw_region ?_))))
  refine sq_ev rfl (ev_load_agg (lr _) rfl ty27 rfl) ?_
  refine mvr (lr _) rfl ?_
  refine sq_ev rfl (ev_call en144 (lr _) (lists0_pure gp i (by omega)) ⟨lr _, (less_nil 1), lr _, trivial⟩) ?_
  refine ass rfl (lr _) ?_
  refine sq_nil (aw_seq (aw_region ?_))
  refine asr (lr _) rfl ?_
  refine sq_nil (aw_block ?_)
  refine aw_loopk (ι := { j : Nat // j ≤ (aL p i).length }) [1, 4, 5] (fun j => [(6, I j.1), (3, .own 1 1 ((fm i (aA p) ++ ((aL p i).take j.1).filter (isC p)).map (fun x => [nats x])))]) (fun H j => H.set 1 (.tok ((fm i (aA p) ++ ((aL p i).take j.1).filter (isC p)).map (fun x => [nats x])).length)) (fun j => (aL p i).length - j.1) (⟨0, Nat.zero_le _⟩) ⟨lr _, (by exact Less.eq (a := .own 1 1 ((fm i (aA p)).map (fun x => [nats x]))) (by simp)), lr _, lr _, lr _, trivial⟩ (by simp; rfl) ?_
  rintro ⟨j, j1⟩
  dsimp only [keepS, St.put, sget, slotsOf, List.map_cons, List.map_nil, List.cons_append, List.nil_append, List.length_cons, List.length_nil, Nat.reduceBEq, Nat.reduceAdd, cond_true, cond_false]
  have q3 := ft_len (isC p) (aL p i) j
  refine aw_seq (aw_seq (aw_region ?_))
  refine mvr (lr _) rfl ?_
  refine mvs rfl (lr _) ?_
  refine sq_ev rfl (ev_len_map sl30 (lr _)) ?_
  refine sq_ev rfl (ev_lss (lr _) (lr _)) ?_
  refine sq_nil ?_
  refine aw_cond (lr _) (fun c2 => ?_) (fun c2 => ?_)
  ·
   have c2' := c2
   try simp only [qq] at c2'
   refine aw_skip (aw_seq (aw_block (aw_seq ?_)))
   refine aw_draw 6 mo (by kernel_rfl) ?_
   refine dr_ev rfl (ev_load_agg (lr _) rfl ty27 rfl) ?_
   refine dr_ev rfl (ev_mv (v := .sl _ _) (lr _)) ?_
   refine dr_ev rfl (ev_mv (v := .raw _) (lr _)) ?_
   refine dr_ev rfl (ev_index_map sl30 (lr _) (lr _) rfl (by omega)) ?_
   refine dr_ev rfl (ev_load_i (lr _) ty34 rfl) ?_
   refine dr_ev rfl (ev_call en78 (lr _) (choice_pureN p _ gp (aL_mem gp _ (List.getElem_mem (show j < (aL p i).length by omega)))) ⟨lr _, lr _, trivial⟩) ?_
   refine dr_end (sq_nil ?_)
   refine aw_cond (lr _) (fun c3 => ?_) (fun c3 => ?_)
   ·
    have c3' := c3
    try simp only [qq] at c3'
    have e1 : (fm i (aA p) ++ ((aL p i).take (j + 1)).filter (isC p)).map (fun x => [nats x]) = (fm i (aA p) ++ ((aL p i).take j).filter (isC p)).map (fun x => [nats x]) ++ [[nats ((aL p i)[j]'(by omega))]] := by rw [filter_take_succ (isC p) (show j < (aL p i).length by omega), if_pos c3']; simp
    have e2 : ((fm i (aA p) ++ ((aL p i).take (j + 1)).filter (isC p)).map (fun x => [nats x])).length = ((fm i (aA p) ++ ((aL p i).take j).filter (isC p)).map (fun x => [nats x]) ++ [[nats ((aL p i)[j]'(by omega))]]).length := by rw [e1]
    refine aw_region ?_
    refine sq_ev rfl (ev_mv (v := .own _ _ _) (lr _)) ?_
    refine mvs rfl (lr _) ?_
    refine mvr (lr _) rfl ?_
    refine sq_ev rfl (ev_index_map sl30 (lr _) (lr _) rfl (by omega)) ?_
    refine sq_ev rfl (ev_load_i (lr _) ty34 rfl) ?_
    refine sq_ev rfl (ev_buildSlice (es := [[_]]) sf30 rfl rfl rfl rfl) ?_
    refine sq_append rfl sf30 Tryz.underlying30 rfl rfl (less_slx _ _) (Nat.succ_pos _) (by simp; omega) (by simp; omega) ?_
    refine sq_ev rfl (ev_as (v := .own _ _ _) (lr _)) ?_
    refine sq_nil (aw_region ?_)
    refine mvr (lr _) rfl ?_
    refine sq_ev rfl (ev_add (lr _) (lr _) (wr (by omega) (by omega))) ?_
    refine asr (lr _) rfl ?_
    refine sq_nil ?_
    exact ⟨⟨j + 1, by omega⟩, by simp only; omega, Sub.fin 2 ⟨lr _, Less.eq (b := .own 1 1 ((fm i (aA p) ++ ((aL p i).take (j + 1)).filter (isC p)).map (fun x => [nats x]))) (by rw [e1] <;> rfl), lr _, lr _, lr _, trivial⟩ (congrArg (fun n => [_, AObj.tok n]) e2.symm) (by simp [slotsIn, objsIn, sget, keepS, AObj.inB, AV.inB, AV.inL, AV.inE, inE_map, inE_nats, -List.map_append]) (by simp [slotsIn, objsIn, sget, keepS, AObj.inB, AV.inB, AV.inL, AV.inE, inE_map, inE_nats, -List.map_append]) (by simp [he0])⟩
   ·
    have c3' := c3
    try simp only [qq] at c3'
    have e1 : (fm i (aA p) ++ ((aL p i).take (j + 1)).filter (isC p)).map (fun x => [nats x]) = (fm i (aA p) ++ ((aL p i).take j).filter (isC p)).map (fun x => [nats x]) := by rw [filter_take_succ (isC p) (show j < (aL p i).length by omega), if_neg (by simp [c3'])]; simp
    have e2 : ((fm i (aA p) ++ ((aL p i).take (j + 1)).filter (isC p)).map (fun x => [nats x])).length = ((fm i (aA p) ++ ((aL p i).take j).filter (isC p)).map (fun x => [nats x])).length := by rw [e1]
    refine aw_skip (aw_region ?_)
    refine mvr (lr _) rfl ?_
    refine sq_ev rfl (ev_add (lr _) (lr _) (wr (by omega) (by omega))) ?_
    refine asr (lr _) rfl ?_
    refine sq_nil ?_
    exact ⟨⟨j + 1, by omega⟩, by simp only; omega, Sub.fin 2 ⟨lr _, Less.eq (b := .own 1 1 ((fm i (aA p) ++ ((aL p i).take (j + 1)).filter (isC p)).map (fun x => [nats x]))) (by rw [e1] <;> rfl), lr _, lr _, lr _, trivial⟩ (congrArg (fun n => [_, AObj.tok n]) e2.symm) (by simp [slotsIn, objsIn, sget, keepS, AObj.inB, AV.inB, AV.inL, AV.inE, inE_map, inE_nats, -List.map_append]) (by simp [slotsIn, objsIn, sget, keepS, AObj.inB, AV.inB, AV.inL, AV.inE, inE_map, inE_nats, -List.map_append]) (by simp [he0])⟩
  ·
   have c2' := c2
   try simp only [qq] at c2'
   refine aw_exit (aw_region ?_)
   refine mvr (lr _) rfl ?_
   refine sq_ev rfl (ev_sub (lr _) (lr _) (wr (by omega) (by omega))) ?_
   refine asr (lr _) rfl ?_
   refine sq_nil ?_
   have e3 : fm (i + 1) (aA p) = fm i (aA p) ++ ((aL p i).take j).filter (isC p) := by rw [fm_succ, aA, List.take_of_length_le (by omega)]
   exact ⟨⟨i + 1, by omega⟩, by simp only; omega, Sub.fin 2 ⟨less_int (by first | omega | (simp only; omega)), Less.eq (b := .own 1 1 ((fm (i + 1) (aA p)).map (fun x => [nats x]))) (by rw [e3] <;> rfl), lr _, trivial⟩ (congrArg (fun n => [_, AObj.tok n]) (congrArg (fun L => (List.map (fun x => [nats x]) L).length) e3.symm)) (by simp [slotsIn, objsIn, sget, keepS, AObj.inB, AV.inB, AV.inL, AV.inE, inE_map, inE_nats, -List.map_append]) (by simp [slotsIn, objsIn, sget, keepS, AObj.inB, AV.inB, AV.inL, AV.inE, inE_map, inE_nats, -List.map_append]) (by simp [he0])⟩
 ·
  have c1' := c1
  try simp only [qq] at c1'
  obtain rfl : i = p.scenes.length + 1 := by omega
  refine aw_exit (aw_seq (aw_region ?_))
  refine sq_ev rfl (ev_mv (v := .own _ _ _) (lr _)) ?_
  refine sq_ev rfl (ev_as (v := .own _ _ _) (lr _)) ?_
  refine sq_nil (aw_ret ?_)
  exact retQ_pure (v := .own _ _ _) rfl rfl (Less.trans (less_own _ _ _) (Less.eq (by rfl)))
end Go.Proofs.YtjghdbdiejaacaaGreatDoor
namespace Go.Proofs.YtjghdbdiejaacaaGreatDoor
open Go Go.Ab Ni
theorem en92 : Ent Tryz.prog 92 := Ent.of Tryz.func92 (by kernel_rfl) rfl
end Go.Proofs.YtjghdbdiejaacaaGreatDoor
namespace Go.Proofs.YtjghdbdiejaacaaGreatDoor
open Go Go.Ab Ni
section
variable {r : Option Nat} {H : List AObj} {ρ : Operand → AV} {d : Option Tmp} {t : TypeId} {p : String} {af : Array Edge} {g : Option (Nat × Bool)} {x y : Operand} {yt : TypeId} {a b c e : Int}
end
set_option maxHeartbeats 400000 in
theorem rshort_pure (p : Pl) : APure Tryz.prog 20 [plan p] (B (decide (p.scenes.length ≤ 12))) := by
 refine apure_of (rs := [.tmp 2]) Tryz.func20 rfl rfl (Nat.le_of_ble_eq_true rfl) (by simp [AV.pureL, AV.pureB, AV.pureE, pureE_map]) (rfl) fun e0 he0 => ?_
 refine aw_seq (aw_region ?_)
 refine sq_box rfl (lr _) rfl ?_
 refine asr (lr _) rfl ?_
 refine sq_nil (aw_seq (aw_region ?_))
 refine sq_ev rfl (ev_fieldAddr fo27_3 (lr _)) ?_
 refine sq_ev rfl (ev_load (lr _) rfl ty25 rfl) ?_
 refine sq_ev rfl (ev_len_map sl25 (lr _)) ?_
 refine sq_ev rfl (ev_leq (lr _) (lr _)) ?_
 refine asr (lr _) rfl ?_
 refine sq_nil (aw_ret ?_)
 exact retQ_pure (v := .raw _) rfl rfl (Less.eq (by simp; omega))
end Go.Proofs.YtjghdbdiejaacaaGreatDoor
namespace Go.Proofs.YtjghdbdiejaacaaGreatDoor
open Go Go.Ab Ni
theorem en20 : Ent Tryz.prog 20 := Ent.of Tryz.func20 (by kernel_rfl) rfl
theorem en21 : Ent Tryz.prog 21 := Ent.of Tryz.func21 (by kernel_rfl) rfl
theorem en24 : Ent Tryz.prog 24 := Ent.of Tryz.func24 (by kernel_rfl) rfl
theorem same_selfN {p : Pl} {l : List Nat} (cv : CV p l) : APure Tryz.prog 27 [nats l, nats l] (B true) := by
  have h := same_pureN l l cv.len cv.len
  simpa using h
theorem same_self {l : List Int} (hl : l.length ≤ 1000) : APure Tryz.prog 27 [ints l, ints l] (B true) := by
  have h := same_pure l l (by omega) (by omega)
  simpa using h
theorem short_no {p : Pl} (h : ¬ p.scenes.length ≤ 12) : APure Tryz.prog 20 [plan p] (B false) := by have := rshort_pure p; simpa [h] using this
theorem short_yes {p : Pl} (h : p.scenes.length ≤ 12) : APure Tryz.prog 20 [plan p] (B true) := by have := rshort_pure p; simpa [h] using this
theorem plan_no {p : Pl} (hs : p.scenes.length ≤ 12) (h : PlOK p = false) : APure Tryz.prog 24 [plan p] (B false) := by have := plan_pure p (by omega); rwa [h] at this
theorem plan_yes {p : Pl} (hs : p.scenes.length ≤ 12) (h : PlOK p = true) : APure Tryz.prog 24 [plan p] (B true) := by have := plan_pure p (by omega); rwa [h] at this
end Go.Proofs.YtjghdbdiejaacaaGreatDoor
namespace Go.Proofs.YtjghdbdiejaacaaGreatDoor
open Go Go.Ab Ni
theorem en45 : Ent Tryz.prog 45 := Ent.of Tryz.func45 (by kernel_rfl) rfl
theorem en47 : Ent Tryz.prog 47 := Ent.of Tryz.func47 (by kernel_rfl) rfl
theorem en77 : Ent Tryz.prog 77 := Ent.of Tryz.func77 (by kernel_rfl) rfl
set_option maxHeartbeats 400000 in
theorem rslim_pure (l : List Int) : APure Tryz.prog 45 [ints l] (B (decide (l.length ≤ 12))) := by
 refine apure_of (rs := [.tmp 2]) Tryz.func45 rfl rfl (Nat.le_of_ble_eq_true rfl) (by simp [AV.pureL, AV.pureB, AV.pureE, pureE_map]) (rfl) fun e0 he0 => ?_
 refine aw_seq (aw_region ?_)
 refine asr (lr _) rfl ?_
 refine sq_nil (aw_seq (aw_region ?_))
 refine mvs rfl (lr _) ?_
 refine sq_ev rfl (ev_len_map sl34 (lr _)) ?_
 refine sq_ev rfl (ev_leq (lr _) (lr _)) ?_
 refine asr (lr _) rfl ?_
 refine sq_nil (aw_ret ?_)
 exact retQ_pure (v := .raw _) rfl rfl (Less.eq (by simp; omega))
set_option maxHeartbeats 400000 in
theorem rchoice_pure (p : Pl) (l : List Int) (hp : p.scenes.length ≤ 1000000) (hl : l.length ≤ 1000000) : APure Tryz.prog 47 [plan p, ints l] (B (Ris p l && isCh p l)) := by
 refine apure_of (rs := [.tmp 4]) Tryz.func47 rfl rfl (Nat.le_of_ble_eq_true rfl) (by simp [AV.pureL, AV.pureB, AV.pureE, pureE_map]) (rfl) fun e0 he0 => ?_
 refine aw_seq (aw_region ?_)
 refine sq_box rfl (lr _) rfl ?_
 refine asr (lr _) rfl ?_
 refine sq_nil (aw_seq (aw_region ?_))
 refine sq_ev rfl (ev_load_agg (lr _) rfl ty27 rfl) ?_
 refine mvs rfl (lr _) ?_
 refine sq_ev rfl (ev_call en77 (lr _) (rising_pure p l hp hl) ⟨lr _, lr _, trivial⟩) ?_
 refine mvr (lr _) rfl ?_
 refine sq_split 8 (lr _) (fun g1 => ?_) (fun g1 => ?_)
 ·
  have g1' := g1
  try simp only [qq] at g1'
  refine sq_yes rfl rfl (less_b g1) rfl (ev_load_agg (lr _) rfl ty27 rfl) ?_
  refine sq_yes rfl rfl (less_b g1) rfl (ev_mv (v := .sl _ _) (lr _)) ?_
  refine sq_yes rfl rfl (less_b g1) rfl (ev_call en78 (lr _) (choice_pure p l hp hl) ⟨lr _, lr _, trivial⟩) ?_
  refine sq_ev rfl (ev_pickT (v := .raw _) (less_b g1) (lr _)) ?_
  refine asr (lr _) rfl ?_
  refine sq_nil (aw_ret ?_)
  exact retQ_pure (v := .raw _) rfl rfl (Less.eq (by simp [*]))
 ·
  have g1' := g1
  try simp only [qq] at g1'
  refine sq_no rfl rfl (less_b g1) rfl rfl ?_
  refine sq_no rfl rfl (less_b g1) rfl rfl ?_
  refine sq_no rfl rfl (less_b g1) rfl rfl ?_
  refine sq_ev rfl (ev_pickF (v := .raw _) (less_b g1) (lr _)) ?_
  refine asr (lr _) rfl ?_
  refine sq_nil (aw_ret ?_)
  exact retQ_pure (v := .raw _) rfl rfl (Less.eq (by simp [*]))
end Go.Proofs.YtjghdbdiejaacaaGreatDoor
namespace Go.Proofs.YtjghdbdiejaacaaGreatDoor
open Go Go.Ab Ni
theorem slim_no {l : List Int} (h : ¬ l.length ≤ 12) : APure Tryz.prog 45 [ints l] (B false) := by have := rslim_pure l; simpa [h] using this
theorem slim_yes {l : List Int} (h : l.length ≤ 12) : APure Tryz.prog 45 [ints l] (B true) := by have := rslim_pure l; simpa [h] using this
theorem ints_up (l : List Nat) : ints (up l) = nats l := by simp only [ints, eup]
theorem slim_yesN {l : List Nat} (h : l.length ≤ 12) : APure Tryz.prog 45 [nats l] (B true) := by have := slim_yes (l := up l) (by simpa [up] using h); rwa [ints_up] at this
theorem cho_no {p : Pl} {l : List Int} (hs : p.scenes.length ≤ 12) (hl : l.length ≤ 12) (h : (Ris p l && isCh p l) = false) : APure Tryz.prog 47 [plan p, ints l] (B false) := by have := rchoice_pure p l (by omega) (by omega); rwa [h] at this
theorem cho_yesN {p : Pl} {l : List Nat} (hs : p.scenes.length ≤ 12) (hl : l.length ≤ 12) (h : (Ris p (up l) && isCh p (up l)) = true) : APure Tryz.prog 47 [plan p, nats l] (B true) := by have := rchoice_pure p (up l) (by omega) (by simp [up]; omega); rwa [h, ints_up] at this
end Go.Proofs.YtjghdbdiejaacaaGreatDoor
namespace Go.Proofs.YtjghdbdiejaacaaGreatDoor
open Go Go.Ab Ni
theorem un4 : Tryz.prog.underlying 4 = some .bool := by kernel_rfl
end Go.Proofs.YtjghdbdiejaacaaGreatDoor
namespace Go.Proofs.YtjghdbdiejaacaaGreatDoor
open Go Go.Ab Ni
theorem en125 : Ent Tryz.prog 125 := Ent.of Tryz.func125 (by kernel_rfl) rfl
theorem en126 : Ent Tryz.prog 126 := Ent.of Tryz.func126 (by kernel_rfl) rfl
theorem en131 : Ent Tryz.prog 131 := Ent.of Tryz.func131 (by kernel_rfl) rfl
theorem en132 : Ent Tryz.prog 132 := Ent.of Tryz.func132 (by kernel_rfl) rfl
theorem en67 : Ent Tryz.prog 67 := Ent.of Tryz.func67 (by kernel_rfl) rfl
theorem en68 : Ent Tryz.prog 68 := Ent.of Tryz.func68 (by kernel_rfl) rfl
theorem en69 : Ent Tryz.prog 69 := Ent.of Tryz.func69 (by kernel_rfl) rfl
def zC : List AV := [I 0, I 0, I 0, I 0, I 0, I 0, I 0, .raw (.slice none 0 0), .raw (.slice none 0 0)]
def outC (p : Pl) (l : List Nat) (k : Nat) : List AV := if k = 0 then zC else playedC p l
def surest (p : Pl) : Option (List Nat) := (allC p).find? (sureP p)
def sureL (p : Pl) : List (List Nat) := (allC p).filter (sureP p)
theorem sureL_head (p : Pl) : (sureL p).head? = surest p := by unfold sureL surest; exact List.head?_filter ..
theorem sureL_len {p : Pl} {l : List Nat} {r : List (List Nat)} (h : sureL p = l :: r) : ∀ x ∈ r, x.length ≤ l.length := fun x hx => by
  have ho := (allC_orderB p).filter (sureP p)
  change (sureL p).Pairwise _ at ho
  rw [h, List.pairwise_cons] at ho
  have := ho.1 x hx
  unfold soonB at this
  split at this
  · simp only [up, List.length_map, decide_eq_true_eq] at this; omega
  · rename_i g; simp [up] at g; omega
def surestAV (p : Pl) : AV := if PlOK p = true then (match surest p with | some l => .tup [nats l, I 0] | none => .tup [.sl 1 [], I 5]) else .tup [.sl 1 [], I 2]
theorem mul_bd {a b A B : Int} (h1 : 0 ≤ a) (h2 : a ≤ A) (h3 : 0 ≤ b) (h4 : b ≤ B) : 0 ≤ a * b ∧ a * b ≤ A * B := ⟨Int.mul_nonneg h1 h3, Int.mul_le_mul h2 h4 h3 (Int.le_trans h1 h2)⟩
theorem sure_eq {p : Pl} {l : List Nat} (wp : WP p) (cv : CV p l) : decide (((hrs p l).length : Int) = (p.s0h - p.s0l + 1) * (p.s1h - p.s1l + 1) * (p.dh - p.dl + 1)) = sureP p l := by
  have h0 := wp.s0; have h1 := wp.s1; have h2 := wp.d
  have e0 : (wid p.s0l p.s0h : Int) = p.s0h - p.s0l + 1 := by unfold wid; omega
  have e1 : (wid p.s1l p.s1h : Int) = p.s1h - p.s1l + 1 := by unfold wid; omega
  have e2 : (wid p.dl p.dh : Int) = p.dh - p.dl + 1 := by unfold wid; omega
  rw [← e0, ← e1, ← e2, Bool.eq_iff_iff, decide_eq_true_eq]
  have hf := hrs_full (l := l) wp
  rw [allFit_iff wp cv] at hf
  have hq : ((hrs p l).length : Int) = (wid p.s0l p.s0h : Int) * (wid p.s1l p.s1h : Int) * (wid p.dl p.dh : Int) ↔ (hrs p l).length = wid p.s0l p.s0h * (wid p.s1l p.s1h * wid p.dl p.dh) := by
    rw [← Nat.mul_assoc, ← Int.natCast_mul, ← Int.natCast_mul]; omega
  rw [hq, hf]
  unfold sureP
  rw [okAll_iff]
  constructor
  · intro g k hk
    unfold suBad
    rcases k with _ | _ | _ | k
    · simp only [Bool.or_eq_false_iff, decide_eq_false_iff_not]; show ¬ (p.s0l - p.beg < pl p l 0) ∧ ¬ (ph p l 0 < p.s0h - p.beg); omega
    · simp only [Bool.or_eq_false_iff, decide_eq_false_iff_not]; show ¬ (p.s1l - p.s0h < pl p l 1) ∧ ¬ (ph p l 1 < p.s1h - p.s0l); omega
    · simp only [Bool.or_eq_false_iff, decide_eq_false_iff_not]; show ¬ (p.dl - p.s1h < pl p l 2) ∧ ¬ (ph p l 2 < p.dh - p.s1l); omega
    · omega
  · intro g
    have g0 := g 0 (by omega)
    simp only [suBad, Bool.or_eq_false_iff, decide_eq_false_iff_not] at g0
    have g0 : ¬ (p.s0l - p.beg < pl p l 0) ∧ ¬ (ph p l 0 < p.s0h - p.beg) := g0
    have g1 := g 1 (by omega)
    simp only [suBad, Bool.or_eq_false_iff, decide_eq_false_iff_not] at g1
    have g1 : ¬ (p.s1l - p.s0h < pl p l 1) ∧ ¬ (ph p l 1 < p.s1h - p.s0l) := g1
    have g2 := g 2 (by omega)
    simp only [suBad, Bool.or_eq_false_iff, decide_eq_false_iff_not] at g2
    have g2 : ¬ (p.dl - p.s1h < pl p l 2) ∧ ¬ (ph p l 2 < p.dh - p.s1l) := g2
    omega
theorem fits3 {p : Pl} {l : List Nat} (wp : WP p) (cv : CV p l) (a b c : Int) : fitsP p l [a, b, c] = (inn (a - p.beg) (lo p l 0 0 10) (hi p l 0 0 10) && (inn (b - a) (lo p l 1 0 10) (hi p l 1 0 10) && inn (c - b) (lo p l 2 0 10) (hi p l 2 0 10))) := by
  have e0 : pl p l 0 = lo p l 0 0 10 := pl_lo wp cv 0
  have e1 : pl p l 1 = lo p l 1 0 10 := pl_lo wp cv 1
  have e2 : pl p l 2 = lo p l 2 0 10 := pl_lo wp cv 2
  have f0 : ph p l 0 = hi p l 0 0 10 := ph_hi wp cv 0
  have f1 : ph p l 1 = hi p l 1 0 10 := ph_hi wp cv 1
  have f2 : ph p l 2 = hi p l 2 0 10 := ph_hi wp cv 2
  rw [← e0, ← e1, ← e2, ← f0, ← f1, ← f2, Bool.eq_iff_iff]
  unfold fitsP
  rw [okAll_iff]
  simp only [Bool.and_eq_true]
  constructor
  · intro g
    have g0 := g 0 (by simp); have g1 := g 1 (by simp); have g2 := g 2 (by simp)
    simp only [fitBad, Bool.not_eq_false'] at g0 g1 g2
    exact ⟨g0, g1, g2⟩
  · rintro ⟨g0, g1, g2⟩ k hk
    unfold fitBad
    rw [Bool.not_eq_false']
    rcases k with _ | _ | _ | k
    · exact g0
    · exact g1
    · exact g2
    · simp at hk; omega
theorem outC_in (n : Nat) (p : Pl) (l : List Nat) (k : Nat) : AV.inL n (outC p l k) = true := by unfold outC; split <;> simp [zC, AV.inL, AV.inB, inE_map]
set_option maxHeartbeats 400000 in
theorem nless_pure (p : Pl) (a b : List Nat) (ha : a.length ≤ 1000000) (hb : b.length ≤ 1000000) : APure Tryz.prog 126 [played p a, played p b] (B (decide ((a.length : Int) > b.length))) := by
  refine apure_of (rs := [.tmp 4]) Tryz.func126 rfl rfl (Nat.le_of_ble_eq_true rfl) (by simp [AV.pureL, AV.pureB, AV.pureE, pureE_map]) (rfl) fun e0 he0 => ?_
  refine aw_seq (aw_region ?_)
  refine sq_box rfl (lr _) rfl ?_
  refine sq_box rfl (lr _) rfl ?_
  refine asr (lr _) rfl ?_
  refine sq_nil (aw_seq (aw_region ?_))
  refine sq_ev rfl (ev_fieldAddr fo110_1 (lr _)) ?_
  refine sq_ev rfl (ev_load (lr _) rfl ty34 rfl) ?_
  refine sq_ev rfl (ev_len_map sl34 (lr _)) ?_
  refine sq_ev rfl (ev_fieldAddr fo110_1 (lr _)) ?_
  refine sq_ev rfl (ev_load (lr _) rfl ty34 rfl) ?_
  refine sq_ev rfl (ev_len_map sl34 (lr _)) ?_
  refine sq_ev rfl (ev_gtr (lr _) (lr _)) ?_
  refine asr (lr _) rfl ?_
  refine sq_nil (aw_ret ?_)
  exact retQ_pure (v := .raw _) rfl rfl (Less.eq (by simp))
set_option maxHeartbeats 400000 in
theorem nbestN_pure  : APure Tryz.prog 125 [.sl 9 [], .fn (.func 126) [] []] (.tup [.agg [I 0, I 0, I 0, I 0, I 0, I 0, I 0, .raw (.slice none 0 0), .raw (.slice none 0 0)], B false]) := by
 refine apure_of (rs := [.cell 4 110, .tmp 5]) Tryz.func125 rfl rfl (Nat.le_of_ble_eq_true rfl) (by simp [AV.pureL, AV.pureB, AV.pureE, pureE_map]) (rfl) fun e0 he0 => ?_
 refine aw_seq (aw_region ?_)
 refine sq_alloc rfl z110 ?_
 refine asr (lr _) rfl ?_
 refine sq_nil (aw_seq (aw_region ?_))
 refine sq_alloc rfl z110 ?_
 refine sq_nil (aw_seq (aw_seq (aw_region ?_)))
 refine mvs rfl (lr _) ?_
 refine sq_ev rfl (ev_len sl107 (lr _) rfl) ?_
 refine mvr (lr _) rfl ?_
 refine sq_nil (aw_block ?_)
 refine aw_loopk (ι := Unit) [0, 1, 4, 6, 9, 10] (fun k => [(11, I 0)]) (fun H k => H) (fun k => 0) (()) ⟨lr _, lr _, lr _, lr _, lr _, lr _, lr _, trivial⟩ rfl ?_
 rintro _
 dsimp only [keepS, St.put, sget, slotsOf, List.map_cons, List.map_nil, List.cons_append, List.nil_append, List.length_cons, List.length_nil, Nat.reduceBEq, Nat.reduceAdd, cond_true, cond_false]
 refine aw_seq (aw_region ?_)
 refine sq_ev rfl (ev_lss (lr _) (lr _)) ?_
 refine sq_nil (aw_seq ?_)
 refine aw_cond (lr _) (fun c1 => ?_) (fun c1 => ?_)
 ·
  have c1' := c1
  try simp only [qq] at c1'
  exfalso; simp at c1
 ·
  have c1' := c1
  try simp only [qq] at c1'
  refine aw_exit (aw_seq (aw_region ?_))
  refine sq_ev rfl (ev_load_agg (lr _) rfl ty110 rfl) ?_
  refine mvs rfl (lr _) ?_
  refine sq_ev rfl (ev_len sl107 (lr _) rfl) ?_
  refine sq_ev rfl (ev_gtr (lr _) (lr _)) ?_
  refine sq_store rfl (lr _) (lr _) rfl rfl ty110 rfl rfl ?_
  refine asr (lr _) rfl ?_
  refine sq_nil (aw_ret ?_)
  exact retQ_res (vs := [.agg _, .raw _]) rfl rfl ⟨resVar_cell rfl rfl ty110 rfl, resVar_tmp _ _ _, trivial⟩ (lr _)
set_option maxHeartbeats 1000000 in
theorem nbest_pure (p : Pl) (l : List Nat) (r : List (List Nat)) (hl : ∀ x ∈ r, x.length ≤ l.length) (hb : l.length ≤ 1000000) (hr : r.length ≤ 100000000) : APure Tryz.prog 125 [playeds p (l :: r), .fn (.func 126) [] []] (.tup [played p l, B true]) := by
 refine apure_of (rs := [.cell 4 110, .tmp 5]) Tryz.func125 rfl rfl (Nat.le_of_ble_eq_true rfl) (by simp [AV.pureL, AV.pureB, AV.pureE, pureE_map]) (by simp [AV.pureL, AV.pureB, AV.pureE, pureE_map]) fun e0 he0 => ?_
 refine aw_seq (aw_region ?_)
 refine sq_alloc rfl z110 ?_
 refine asr (lr _) rfl ?_
 refine sq_nil (aw_seq (aw_region ?_))
 refine sq_alloc rfl z110 ?_
 refine sq_nil (aw_seq (aw_seq (aw_region ?_)))
 refine mvs rfl (lr _) ?_
 refine sq_ev rfl (ev_len_map sl107 (lr _)) ?_
 refine mvr (lr _) rfl ?_
 refine sq_nil (aw_block ?_)
 refine aw_loopk (ι := { k : Nat // k ≤ (l :: r).length }) [0, 1, 4, 6, 9, 10] (fun k => [(11, I k.1)]) (fun H k => H.set 1 (.cells (outC p l k.1))) (fun k => (l :: r).length - k.1) (⟨0, Nat.zero_le _⟩) ⟨lr _, lr _, lr _, lr _, lr _, lr _, lr _, trivial⟩ rfl ?_
 rintro ⟨k, hk⟩
 dsimp only [keepS, St.put, sget, slotsOf, List.map_cons, List.map_nil, List.cons_append, List.nil_append, List.length_cons, List.length_nil, Nat.reduceBEq, Nat.reduceAdd, cond_true, cond_false]
 refine aw_seq (aw_region ?_)
 refine sq_ev rfl (ev_lss (lr _) (lr _)) ?_
 refine sq_nil (aw_seq ?_)
 refine aw_cond (lr _) (fun c1 => ?_) (fun c1 => ?_)
 ·
  have c1' := c1
  try simp only [qq] at c1'
  have hk' : k < (l :: r).length := by simp at c1 ⊢; omega
  refine aw_skip (aw_seq (aw_block (aw_seq (aw_region ?_))))
  refine mvr (lr _) rfl ?_
  refine sq_ev rfl (ev_index_map sl107 (lr _) (lr _) rfl (by omega)) ?_
  refine sq_ev rfl (ev_load_agg_i (lr _) ty110 (Nat.le_of_ble_eq_true rfl)) ?_
  refine sq_alloc rfl z110 ?_
  refine asr (lr _) rfl ?_
  refine sq_store rfl (lr _) (lr _) rfl rfl ty110 rfl rfl ?_
  refine sq_nil (aw_seq (aw_region ?_))
  refine mvr (lr _) rfl ?_
  refine sq_ev rfl (ev_eql (lr _) (lr _)) ?_
  refine mvr (lr _) rfl ?_
  refine sq_split 18 (lr _) (fun g2 => ?_) (fun g2 => ?_)
  ·
   have g2' := g2
   try simp only [qq] at g2'
   have hk0 : k = 0 := by omega
   have ho0 : outC p l k = zC := if_pos hk0
   rw [ho0]
   have eO : outC p l (k + 1) = playedC p (l :: r)[k] := by subst hk0; rfl
   refine sq_no rfl rfl (less_b g2) rfl rfl ?_
   refine sq_no rfl rfl (less_b g2) rfl rfl ?_
   refine sq_no rfl rfl (less_b g2) rfl rfl ?_
   refine sq_no rfl rfl (less_b g2) rfl rfl ?_
   refine sq_ev rfl (ev_pickT (v := .raw _) (less_b g2) (lr _)) ?_
   refine sq_nil ?_
   refine aw_true (lr _) ?_
   refine aw_region ?_
   refine sq_ev rfl (ev_load_agg (lr _) rfl ty110 rfl) ?_
   refine sq_store rfl (lr _) (lr _) rfl rfl ty110 rfl rfl ?_
   refine sq_nil (aw_region ?_)
   refine sq_ev rfl (ev_add (lr _) (lr _) (wr (by omega) (by omega))) ?_
   refine mvr (lr _) rfl ?_
   refine sq_nil ?_
   exact ⟨⟨k + 1, by omega⟩, by simp only; omega, Sub.fin 2 ⟨lr _, lr _, lr _, lr _, lr _, lr _, lr _, trivial⟩ (congrArg (fun c => [_, AObj.cells c]) eO.symm) (by simp [slotsIn, objsIn, sget, keepS, AObj.inB, AV.inB, AV.inL, AV.inE, inE_map, inE_ints, outC_in, inE_sc, -List.map_append, -List.map_take, -List.map_map]) (by simp [slotsIn, objsIn, sget, keepS, AObj.inB, AV.inB, AV.inL, AV.inE, inE_map, inE_ints, outC_in, inE_sc, -List.map_append, -List.map_take, -List.map_map]) (by simp [he0])⟩
  ·
   have g2' := g2
   try simp only [qq] at g2'
   have ho : outC p l k = playedC p l := if_neg (by omega)
   rw [ho]
   have eO : outC p l (k + 1) = playedC p l := rfl
   have hle : (l :: r)[k].length ≤ l.length := by
    rcases List.mem_cons.1 (List.getElem_mem hk') with h | h
    ·
     rw [h]; exact Nat.le_refl _
    ·
     exact hl _ h
   refine sq_yes rfl rfl (less_b g2) rfl (ev_mv (v := .fn _ _ _) (lr _)) ?_
   refine sq_yes rfl rfl (less_b g2) rfl (ev_load_agg (lr _) rfl ty110 rfl) ?_
   refine sq_yes rfl rfl (less_b g2) rfl (ev_load_agg (lr _) rfl ty110 rfl) ?_
   refine sq_yes rfl rfl (less_b g2) rfl (ev_call en126 (lr _) (nless_pure p (l :: r)[k] l (by omega) hb) ⟨lr _, lr _, trivial⟩) ?_
   refine sq_ev rfl (ev_pickF (v := .raw _) (less_b g2) (lr _)) ?_
   refine sq_nil ?_
   refine aw_cond (lr _) (fun c3 => ?_) (fun c3 => ?_)
   ·
    have c3' := c3
    try simp only [qq] at c3'
    exfalso; simp at c3; omega
   ·
    have c3' := c3
    try simp only [qq] at c3'
    refine aw_skip (aw_region ?_)
    refine sq_ev rfl (ev_add (lr _) (lr _) (wr (by omega) (by omega))) ?_
    refine mvr (lr _) rfl ?_
    refine sq_nil ?_
    exact ⟨⟨k + 1, by omega⟩, by simp only; omega, Sub.fin 2 ⟨lr _, lr _, lr _, lr _, lr _, lr _, lr _, trivial⟩ (congrArg (fun c => [_, AObj.cells c]) eO.symm) (by simp [slotsIn, objsIn, sget, keepS, AObj.inB, AV.inB, AV.inL, AV.inE, inE_map, inE_ints, outC_in, inE_sc, -List.map_append, -List.map_take, -List.map_map]) (by simp [slotsIn, objsIn, sget, keepS, AObj.inB, AV.inB, AV.inL, AV.inE, inE_map, inE_ints, outC_in, inE_sc, -List.map_append, -List.map_take, -List.map_map]) (by simp [he0])⟩
 ·
  have c1' := c1
  try simp only [qq] at c1'
  simp at c1
  have hkl : (l :: r).length = r.length + 1 := List.length_cons
  have ho : outC p l k = playedC p l := if_neg (by omega)
  rw [ho]
  refine aw_exit (aw_seq (aw_region ?_))
  refine sq_ev rfl (ev_load_agg (lr _) rfl ty110 rfl) ?_
  refine mvs rfl (lr _) ?_
  refine sq_ev rfl (ev_len_map sl107 (lr _)) ?_
  refine sq_ev rfl (ev_gtr (lr _) (lr _)) ?_
  refine sq_store rfl (lr _) (lr _) rfl rfl ty110 rfl rfl ?_
  refine asr (lr _) rfl ?_
  refine sq_nil (aw_ret ?_)
  exact retQ_res (vs := [.agg _, .raw _]) rfl rfl ⟨resVar_cell rfl rfl ty110 rfl, resVar_tmp _ _ _, trivial⟩ (Less.eq (by simp))
set_option maxHeartbeats 2000000 in
theorem nSurest0_pure (p : Pl) (gp : GP p) (hok : PlOK p = true) (hL : (allC p).filter (sureP p) = []) : APure Tryz.prog 65 [plan p] (.tup [.sl 1 [], I 5]) := by
 refine apure_of_marks (rs := [.tmp 2, .tmp 3]) Tryz.func65 rfl rfl (Nat.le_of_ble_eq_true rfl) (by simp [AV.pureL, AV.pureB, AV.pureE, pureE_map]) (by simp [AV.pureL, AV.pureB, AV.pureE, pureE_map]) fun e0 he0 => ?_
 refine aw_seq (aw_region ?_)
 refine sq_box rfl (lr _) rfl ?_
 refine asr (lr _) rfl ?_
 refine asr (lr _) rfl ?_
 refine sq_nil (aw_seq (aw_seq (aw_region ?_)))
 refine sq_ev rfl (ev_load_agg (lr _) rfl ty27 rfl) ?_
 refine sq_ev rfl (ev_call en85 (lr _) (isplan_pure p (by have := gp.len; omega)) ⟨lr _, trivial⟩) ?_
 refine sq_ev rfl (ev_not (lr _)) ?_
 refine sq_nil ?_
 refine aw_cond (lr _) (fun c1 => ?_) (fun c1 => ?_)
 ·
  have c1' := c1
  try simp only [qq] at c1'
  exfalso; simp [hok] at c1
 ·
  have c1' := c1
  try simp only [qq] at c1'
  refine aw_skip (aw_seq (aw_region ?_))
  refine sq_alloc rfl z107 ?_
  refine sq_nil (aw_seq (aw_seq (aw_region ?_)))
  refine sq_ev rfl (ev_load_agg (lr _) rfl ty27 rfl) ?_
  refine sq_ev rfl (ev_call en124 (lr _) (nchoices0_pure p) ⟨lr _, trivial⟩) ?_
  refine sq_nil (aw_block ?_)
  refine aw_sub (sub_token_box 1 9 rfl) ?_
  refine aw_rangeFunc1 (xs := (allC p).map nats) (fun k => [.cells (planC p), .cells [.own 2 9 ((((allC p).take k).filter (sureP p)).map (playedC p))], .tok ((((allC p).take k).filter (sureP p)).map (playedC p)).length]) ((allC p).map nats).length none (Nat.le_refl _) (fun _ => rfl) (fun h => absurd rfl h) rfl rfl (lr _) en155 (nchoices_iter gp) rfl (fun _ => rfl) (fun k hk => by show objsIn 3 _ = true; simp [objsIn, AObj.inB, AV.inB, AV.inL, AV.inE, inE_map, inE_played, inE_nats, -List.map_take, -List.map_map, -List.map_append]) (fun x hx => by obtain ⟨y, _, rfl⟩ := List.mem_map.1 hx; simp [AV.pureB, AV.pureL, AV.pureE, pureE_map]) rfl rfl ?_ ?_
  ·
   intro l i x e0 hi hx he0
   obtain ⟨y, hy, rfl⟩ := xs_get hx
   obtain ⟨hk', he'⟩ := get_eq hy
   have cv := allC_mem gp y (List.mem_of_getElem? hy)
   have hft := ft_len (sureP p) (allC p) i
   have hal := allC_len gp
   dsimp only [keepS, St.put, sget, slotsOf, List.map_cons, List.map_nil, List.cons_append, List.nil_append, List.length_cons, List.length_nil, Nat.reduceBEq, Nat.reduceAdd, cond_true, cond_false]
   refine aw_block (aw_seq (aw_region ?_))
   refine sq_ev rfl (ev_load_agg (lr _) rfl ty27 rfl) ?_
   refine mvs rfl (lr _) ?_
   refine sq_ev rfl (ev_build bi110 rfl) ?_
   refine sq_alloc rfl z110 ?_
   refine sq_store rfl (lr _) (lr _) rfl rfl ty110 rfl rfl ?_
   refine sq_nil (aw_seq (aw_region ?_))
   refine sq_ev rfl (ev_load_agg (lr _) rfl ty110 rfl) ?_
   refine sq_ev rfl (ev_call en123 (lr _) (nsure_pure p y gp cv) ⟨lr _, trivial⟩) ?_
   refine sq_nil ?_
   refine aw_cond (lr _) (fun c2 => ?_) (fun c2 => ?_)
   ·
    have c2' := c2
    try simp only [qq] at c2'
    have eS : (((allC p).take (i + 1)).filter (sureP p)).map (playedC p) = (((allC p).take i).filter (sureP p)).map (playedC p) ++ [playedC p y] := by rw [filter_take_succ _ hk', he', if_pos c2', List.map_append]; rfl
    refine aw_region ?_
    refine sq_ev rfl (ev_load (lr _) rfl ty107 rfl) ?_
    refine sq_ev rfl (ev_load_agg (lr _) rfl ty110 rfl) ?_
    refine sq_ev rfl (ev_buildSlice (es := [[_, _, _, _, _, _, _, _, _]]) sf107 rfl rfl rfl rfl) ?_
    refine sq_append rfl sf107 Tryz.underlying107 rfl rfl (less_slx _ _) (Nat.succ_pos _) (by simp; omega) (by simp; omega) ?_
    refine sq_store rfl (lr _) (lr _) rfl rfl ty107 rfl rfl ?_
    refine sq_nil ?_
    exact ⟨⟨[.cells (playedC p y)], congrArg (fun L => [AObj.cells (planC p), .cells [.own 2 9 L], .tok L.length, .cells (playedC p y)]) eS.symm⟩, rfl, by split <;> rfl⟩
   ·
    have c2' := c2
    try simp only [qq] at c2'
    have eS : (((allC p).take (i + 1)).filter (sureP p)).map (playedC p) = (((allC p).take i).filter (sureP p)).map (playedC p) := by rw [filter_take_succ _ hk', he', if_neg (by simp [c2']), List.append_nil]
    refine aw_skip ?_
    exact ⟨⟨[.cells (playedC p y)], congrArg (fun L => [AObj.cells (planC p), .cells [.own 2 9 L], .tok L.length, .cells (playedC p y)]) eS.symm⟩, rfl, by split <;> rfl⟩
  ·
   rintro _ rfl
   have hall : (allC p).take ((allC p).map nats).length = allC p := by rw [List.length_map, List.take_length]
   try rw [hall]
   refine aw_seq (aw_region ?_)
   refine sq_ev rfl (ev_load (lr _) rfl ty107 rfl) ?_
   refine sq_ev rfl (ev_call en125 (lr _) (nbestN_pure) ⟨Less.trans (less_own _ _ _) (Less.eq (by simp [hL])), lr _, trivial⟩) ?_
   refine sq_ev rfl (ev_mv (v := .tup _) (lr _)) ?_
   refine xtr rfl (lr _) rfl ?_
   refine xtr rfl (lr _) rfl ?_
   refine sq_alloc rfl z110 ?_
   refine sq_store rfl (lr _) (lr _) rfl rfl ty110 rfl rfl ?_
   refine asr (lr _) rfl ?_
   refine sq_nil (aw_seq (aw_seq (aw_region ?_)))
   refine mvr (lr _) rfl ?_
   refine sq_ev rfl (ev_not (lr _)) ?_
   refine sq_nil ?_
   refine aw_cond (lr _) (fun c3 => ?_) (fun c3 => ?_)
   ·
    have c3' := c3
    try simp only [qq] at c3'
    refine aw_seq (aw_region ?_)
    refine asr (lr _) rfl ?_
    refine asr (lr _) rfl ?_
    refine sq_nil (aw_ret ?_)
    exact retQM_pure (v := .tup [.raw _, .raw _]) rfl rfl (less_tup ⟨less_nil 1, lr _, trivial⟩)
   ·
    have c3' := c3
    try simp only [qq] at c3'
    exact absurd c3 (by decide)
set_option maxHeartbeats 2000000 in
theorem nSurest1_pure (p : Pl) (l : List Nat) (r : List (List Nat)) (gp : GP p) (hok : PlOK p = true) (hL : sureL p = l :: r) : APure Tryz.prog 65 [plan p] (.tup [nats l, I 0]) := by
 refine apure_of_marks (rs := [.tmp 2, .tmp 3]) Tryz.func65 rfl rfl (Nat.le_of_ble_eq_true rfl) (by simp [AV.pureL, AV.pureB, AV.pureE, pureE_map]) (by simp [AV.pureL, AV.pureB, AV.pureE, pureE_map]) fun e0 he0 => ?_
 refine aw_seq (aw_region ?_)
 refine sq_box rfl (lr _) rfl ?_
 refine asr (lr _) rfl ?_
 refine asr (lr _) rfl ?_
 refine sq_nil (aw_seq (aw_seq (aw_region ?_)))
 refine sq_ev rfl (ev_load_agg (lr _) rfl ty27 rfl) ?_
 refine sq_ev rfl (ev_call en85 (lr _) (isplan_pure p (by have := gp.len; omega)) ⟨lr _, trivial⟩) ?_
 refine sq_ev rfl (ev_not (lr _)) ?_
 refine sq_nil ?_
 refine aw_cond (lr _) (fun c1 => ?_) (fun c1 => ?_)
 ·
  have c1' := c1
  try simp only [qq] at c1'
  exfalso; simp [hok] at c1
 ·
  have c1' := c1
  try simp only [qq] at c1'
  refine aw_skip (aw_seq (aw_region ?_))
  refine sq_alloc rfl z107 ?_
  refine sq_nil (aw_seq (aw_seq (aw_region ?_)))
  refine sq_ev rfl (ev_load_agg (lr _) rfl ty27 rfl) ?_
  refine sq_ev rfl (ev_call en124 (lr _) (nchoices0_pure p) ⟨lr _, trivial⟩) ?_
  refine sq_nil (aw_block ?_)
  refine aw_sub (sub_token_box 1 9 rfl) ?_
  refine aw_rangeFunc1 (xs := (allC p).map nats) (fun k => [.cells (planC p), .cells [.own 2 9 ((((allC p).take k).filter (sureP p)).map (playedC p))], .tok ((((allC p).take k).filter (sureP p)).map (playedC p)).length]) ((allC p).map nats).length none (Nat.le_refl _) (fun _ => rfl) (fun h => absurd rfl h) rfl rfl (lr _) en155 (nchoices_iter gp) rfl (fun _ => rfl) (fun k hk => by show objsIn 3 _ = true; simp [objsIn, AObj.inB, AV.inB, AV.inL, AV.inE, inE_map, inE_played, inE_nats, -List.map_take, -List.map_map, -List.map_append]) (fun x hx => by obtain ⟨y, _, rfl⟩ := List.mem_map.1 hx; simp [AV.pureB, AV.pureL, AV.pureE, pureE_map]) rfl rfl ?_ ?_
  ·
   intro l i x e0 hi hx he0
   obtain ⟨y, hy, rfl⟩ := xs_get hx
   obtain ⟨hk', he'⟩ := get_eq hy
   have cv := allC_mem gp y (List.mem_of_getElem? hy)
   have hft := ft_len (sureP p) (allC p) i
   have hal := allC_len gp
   dsimp only [keepS, St.put, sget, slotsOf, List.map_cons, List.map_nil, List.cons_append, List.nil_append, List.length_cons, List.length_nil, Nat.reduceBEq, Nat.reduceAdd, cond_true, cond_false]
   refine aw_block (aw_seq (aw_region ?_))
   refine sq_ev rfl (ev_load_agg (lr _) rfl ty27 rfl) ?_
   refine mvs rfl (lr _) ?_
   refine sq_ev rfl (ev_build bi110 rfl) ?_
   refine sq_alloc rfl z110 ?_
   refine sq_store rfl (lr _) (lr _) rfl rfl ty110 rfl rfl ?_
   refine sq_nil (aw_seq (aw_region ?_))
   refine sq_ev rfl (ev_load_agg (lr _) rfl ty110 rfl) ?_
   refine sq_ev rfl (ev_call en123 (lr _) (nsure_pure p y gp cv) ⟨lr _, trivial⟩) ?_
   refine sq_nil ?_
   refine aw_cond (lr _) (fun c2 => ?_) (fun c2 => ?_)
   ·
    have c2' := c2
    try simp only [qq] at c2'
    have eS : (((allC p).take (i + 1)).filter (sureP p)).map (playedC p) = (((allC p).take i).filter (sureP p)).map (playedC p) ++ [playedC p y] := by rw [filter_take_succ _ hk', he', if_pos c2', List.map_append]; rfl
    refine aw_region ?_
    refine sq_ev rfl (ev_load (lr _) rfl ty107 rfl) ?_
    refine sq_ev rfl (ev_load_agg (lr _) rfl ty110 rfl) ?_
    refine sq_ev rfl (ev_buildSlice (es := [[_, _, _, _, _, _, _, _, _]]) sf107 rfl rfl rfl rfl) ?_
    refine sq_append rfl sf107 Tryz.underlying107 rfl rfl (less_slx _ _) (Nat.succ_pos _) (by simp; omega) (by simp; omega) ?_
    refine sq_store rfl (lr _) (lr _) rfl rfl ty107 rfl rfl ?_
    refine sq_nil ?_
    exact ⟨⟨[.cells (playedC p y)], congrArg (fun L => [AObj.cells (planC p), .cells [.own 2 9 L], .tok L.length, .cells (playedC p y)]) eS.symm⟩, rfl, by split <;> rfl⟩
   ·
    have c2' := c2
    try simp only [qq] at c2'
    have eS : (((allC p).take (i + 1)).filter (sureP p)).map (playedC p) = (((allC p).take i).filter (sureP p)).map (playedC p) := by rw [filter_take_succ _ hk', he', if_neg (by simp [c2']), List.append_nil]
    refine aw_skip ?_
    exact ⟨⟨[.cells (playedC p y)], congrArg (fun L => [AObj.cells (planC p), .cells [.own 2 9 L], .tok L.length, .cells (playedC p y)]) eS.symm⟩, rfl, by split <;> rfl⟩
  ·
   rintro _ rfl
   have hall : (allC p).take ((allC p).map nats).length = allC p := by rw [List.length_map, List.take_length]
   try rw [hall]
   refine aw_seq (aw_region ?_)
   refine sq_ev rfl (ev_load (lr _) rfl ty107 rfl) ?_
   refine sq_ev rfl (ev_call en125 (lr _) (nbest_pure p l r (sureL_len hL) (by have := (allC_mem gp l (List.mem_filter.1 (show l ∈ sureL p by rw [hL]; simp)).1).len; omega) (by have h := congrArg List.length hL; have := List.length_filter_le (sureP p) (allC p); have := allC_len gp; unfold sureL at h; rw [List.length_cons] at h; omega)) ⟨Less.trans (less_own _ _ _) (Less.eq (by rw [show (allC p).filter (sureP p) = l :: r from hL])), lr _, trivial⟩) ?_
   refine sq_ev rfl (ev_mv (v := .tup _) (lr _)) ?_
   refine xtr rfl (lr _) rfl ?_
   refine xtr rfl (lr _) rfl ?_
   refine sq_alloc rfl z110 ?_
   refine sq_store rfl (lr _) (lr _) rfl rfl ty110 rfl rfl ?_
   refine asr (lr _) rfl ?_
   refine sq_nil (aw_seq (aw_seq (aw_region ?_)))
   refine mvr (lr _) rfl ?_
   refine sq_ev rfl (ev_not (lr _)) ?_
   refine sq_nil ?_
   refine aw_cond (lr _) (fun c3 => ?_) (fun c3 => ?_)
   ·
    have c3' := c3
    try simp only [qq] at c3'
    exact absurd c3 (by decide)
   ·
    have c3' := c3
    try simp only [qq] at c3'
    refine aw_skip (aw_seq (aw_region ?_))
    refine sq_ev rfl (ev_fieldAddr fo110_1 (lr _)) ?_
    refine sq_ev rfl (ev_load (lr _) rfl ty34 rfl) ?_
    refine ass rfl (lr _) ?_
    refine asr (lr _) rfl ?_
    refine sq_nil (aw_ret ?_)
    exact retQM_pure (v := .tup [.sl _ _, .raw _]) rfl rfl (lr _)
set_option maxHeartbeats 400000 in
theorem nSurestX_pure (p : Pl) (hp : p.scenes.length ≤ 1000000) (hok : PlOK p = false) : APure Tryz.prog 65 [plan p] (.tup [.sl 1 [], I 2]) := by
 refine apure_of (rs := [.tmp 2, .tmp 3]) Tryz.func65 rfl rfl (Nat.le_of_ble_eq_true rfl) (by simp [AV.pureL, AV.pureB, AV.pureE, pureE_map]) (by simp [AV.pureL, AV.pureB, AV.pureE, pureE_map]) fun e0 he0 => ?_
 refine aw_seq (aw_region ?_)
 refine sq_box rfl (lr _) rfl ?_
 refine asr (lr _) rfl ?_
 refine asr (lr _) rfl ?_
 refine sq_nil (aw_seq (aw_seq (aw_region ?_)))
 refine sq_ev rfl (ev_load_agg (lr _) rfl ty27 rfl) ?_
 refine sq_ev rfl (ev_call en85 (lr _) (isplan_pure p hp) ⟨lr _, trivial⟩) ?_
 refine sq_ev rfl (ev_not (lr _)) ?_
 refine sq_nil ?_
 refine aw_cond (lr _) (fun c1 => ?_) (fun c1 => ?_)
 ·
  have c1' := c1
  try simp only [qq] at c1'
  refine aw_seq (aw_region ?_)
  refine asr (lr _) rfl ?_
  refine asr (lr _) rfl ?_
  refine sq_nil (aw_ret ?_)
  exact retQ_pure (v := .tup [.raw _, .raw _]) rfl rfl (less_tup ⟨less_nil 1, lr _, trivial⟩)
 ·
  have c1' := c1
  try simp only [qq] at c1'
  exfalso; simp [hok] at c1
theorem nSurest_pure (p : Pl) (hp : p.scenes.length ≤ 1000000) : APure Tryz.prog 65 [plan p] (surestAV p) := by
  unfold surestAV
  cases hok : PlOK p with
  | false => rw [if_neg (by simp)]; exact nSurestX_pure p hp hok
  | true =>
    rw [if_pos rfl]
    obtain ⟨gp, _⟩ := gp_of_ok hok
    have hh := sureL_head p
    cases hL : sureL p with
    | nil => rw [hL] at hh; rw [← hh]; exact nSurest0_pure p gp hok hL
    | cons l r => rw [hL] at hh; rw [← hh]; exact nSurest1_pure p l r gp hok hL
set_option maxHeartbeats 400000 in
theorem rwide_pure (a b : Int) (ha : -10000 ≤ a ∧ a ≤ 10000) (hb : -10000 ≤ b ∧ b ≤ 10000) : APure Tryz.prog 132 [.agg [I a, I b]] (I (b - a + 1)) := by
 refine apure_of (rs := [.tmp 2]) Tryz.func132 rfl rfl (Nat.le_of_ble_eq_true rfl) (by simp [AV.pureL, AV.pureB, AV.pureE, pureE_map]) (rfl) fun e0 he0 => ?_
 refine aw_seq (aw_region ?_)
 refine sq_box rfl (lr _) rfl ?_
 refine asr (lr _) rfl ?_
 refine sq_nil (aw_seq (aw_region ?_))
 refine sq_ev rfl (ev_fieldAddr fo23_1 (lr _)) ?_
 refine sq_ev rfl (ev_load (lr _) rfl ty3 rfl) ?_
 refine sq_ev rfl (ev_fieldAddr fo23_0 (lr _)) ?_
 refine sq_ev rfl (ev_load (lr _) rfl ty3 rfl) ?_
 refine sq_ev rfl (ev_sub (lr _) (lr _) (wr (by omega) (by omega))) ?_
 refine sq_ev rfl (ev_add (lr _) (lr _) (wr (by omega) (by omega))) ?_
 refine asr (lr _) rfl ?_
 refine sq_nil (aw_ret ?_)
 exact retQ_pure (v := .raw _) rfl rfl (Less.eq (by simp))
set_option maxHeartbeats 1000000 in
theorem rsure_pure (p : Pl) (l : List Nat) (gp : GP p) (wp : WP p) (cv : CV p l) : APure Tryz.prog 69 [plan p, nats l] (B (sureP p l)) := by
 refine apure_of (rs := [.tmp 4]) Tryz.func69 rfl rfl (Nat.le_of_ble_eq_true rfl) (by simp [AV.pureL, AV.pureB, AV.pureE, pureE_map]) (rfl) fun e0 he0 => ?_
 refine aw_seq (aw_region ?_)
 refine sq_box rfl (lr _) rfl ?_
 refine asr (lr _) rfl ?_
 refine sq_nil (aw_seq ?_)
 have b1 := gp.s0l
 have b2 := gp.s0h
 have b3 := gp.s1l
 have b4 := gp.s1h
 have b5 := gp.dl
 have b6 := gp.dh
 have q0 := wp.s0
 have q1 := wp.s1
 have q2 := wp.d
 have m1 := mul_bd (a := p.s0h - p.s0l + 1) (b := p.s1h - p.s1l + 1) (A := 10001) (B := 10001) (by omega) (by omega) (by omega) (by omega)
 have m2 := mul_bd (a := (p.s0h - p.s0l + 1) * (p.s1h - p.s1l + 1)) (b := p.dh - p.dl + 1) (A := 10001 * 10001) (B := 10001) m1.1 m1.2 (by omega) (by omega)
 refine aw_draw 19 mo (by kernel_rfl) ?_
 refine dr_ev rfl (ev_load_agg (lr _) rfl ty27 rfl) ?_
 refine dr_ev rfl (ev_mv (v := .sl _ _) (lr _)) ?_
 refine dr_ev rfl (ev_call en102 (lr _) (hours_pure p l gp cv) ⟨lr _, lr _, trivial⟩) ?_
 refine dr_ev rfl (ev_len_map sl122 (lr _)) ?_
 refine dr_ev rfl (ev_fieldAddr fo27_1 (lr _)) ?_
 refine dr_ev rfl (ev_index_box ar24 (lr _) (lr _) rfl (by decide)) ?_
 refine dr_ev rfl (ev_load_agg (lr _) rfl ty23 rfl) ?_
 refine dr_ev rfl (ev_call en132 (lr _) (rwide_pure _ _ (by omega) (by omega)) ⟨lr _, trivial⟩) ?_
 refine dr_ev rfl (ev_fieldAddr fo27_1 (lr _)) ?_
 refine dr_ev rfl (ev_index_box ar24 (lr _) (lr _) rfl (by decide)) ?_
 refine dr_ev rfl (ev_load_agg (lr _) rfl ty23 rfl) ?_
 refine dr_ev rfl (ev_call en132 (lr _) (rwide_pure _ _ (by omega) (by omega)) ⟨lr _, trivial⟩) ?_
 refine dr_ev rfl (ev_mul (lr _) (lr _) (wr (by omega) (by omega))) ?_
 refine dr_ev rfl (ev_fieldAddr fo27_2 (lr _)) ?_
 refine dr_ev rfl (ev_load_agg (lr _) rfl ty23 rfl) ?_
 refine dr_ev rfl (ev_call en132 (lr _) (rwide_pure _ _ (by omega) (by omega)) ⟨lr _, trivial⟩) ?_
 refine dr_ev rfl (ev_mul (lr _) (lr _) (wr (by omega) (by omega))) ?_
 refine dr_ev rfl (ev_eql (lr _) (lr _)) ?_
 refine dr_ev rfl (ev_as (v := .raw _) (lr _)) ?_
 refine dr_end (sq_nil (aw_ret ?_))
 exact retQ_pure (v := .raw _) rfl rfl (Less.eq (by rw [← sure_eq wp cv]))
set_option maxHeartbeats 1000000 in
theorem rSurest_pure (p : Pl) (gp : GP p) (wp : WP p) : APure Tryz.prog 67 [plan p] ((match surest p with | some l => .tup [nats l, B true] | none => .tup [.sl 1 [], B false])) := by
 refine apure_of (rs := [.tmp 2, .tmp 3]) Tryz.func67 rfl rfl (Nat.le_of_ble_eq_true rfl) (by simp [AV.pureL, AV.pureB, AV.pureE, pureE_map]) (by split <;> simp [AV.pureB, AV.pureL, AV.pureE, pureE_map]) fun e0 he0 => ?_
 refine aw_seq (aw_region ?_)
 refine sq_box rfl (lr _) rfl ?_
 refine asr (lr _) rfl ?_
 refine asr (lr _) rfl ?_
 refine sq_nil (aw_seq ?_)
 have hal := allC_len gp
 refine aw_region ?_
 refine sq_ev rfl (ev_load_agg (lr _) rfl ty27 rfl) ?_
 refine sq_ev rfl (ev_call en92 (lr _) (all_pure gp) ⟨lr _, trivial⟩) ?_
 refine ass rfl (lr _) ?_
 refine sq_nil (aw_seq (aw_seq (aw_region ?_)))
 refine asr (lr _) rfl ?_
 refine sq_nil (aw_block ?_)
 refine aw_loopk (ι := { k : Nat // k ≤ (allC p).length ∧ ∀ i, (h : i < (allC p).length) → i < k → sureP p (allC p)[i] = false }) [1, 4] (fun k => [(5, I k.1)]) (fun H k => H) (fun k => (allC p).length - k.1) (⟨0, Nat.zero_le _, by omega⟩) ⟨lr _, lr _, lr _, trivial⟩ rfl ?_
 rintro ⟨k, hk, hno⟩
 dsimp only [keepS, St.put, sget, slotsOf, List.map_cons, List.map_nil, List.cons_append, List.nil_append, List.length_cons, List.length_nil, Nat.reduceBEq, Nat.reduceAdd, cond_true, cond_false]
 refine aw_seq (aw_seq (aw_region ?_))
 refine mvr (lr _) rfl ?_
 refine mvs rfl (lr _) ?_
 refine sq_ev rfl (ev_len_map sl30 (lr _)) ?_
 refine sq_ev rfl (ev_lss (lr _) (lr _)) ?_
 refine sq_nil ?_
 refine aw_cond (lr _) (fun c1 => ?_) (fun c1 => ?_)
 ·
  have c1' := c1
  try simp only [qq] at c1'
  have hk' : k < (allC p).length := by omega
  refine aw_skip (aw_seq (aw_block (aw_seq ?_)))
  refine aw_draw 6 mo (by kernel_rfl) ?_
  refine dr_ev rfl (ev_load_agg (lr _) rfl ty27 rfl) ?_
  refine dr_ev rfl (ev_mv (v := .sl _ _) (lr _)) ?_
  refine dr_ev rfl (ev_mv (v := .raw _) (lr _)) ?_
  refine dr_ev rfl (ev_index_map sl30 (lr _) (lr _) rfl (by omega)) ?_
  refine dr_ev rfl (ev_load_i (lr _) ty34 rfl) ?_
  refine dr_ev rfl (ev_call en69 (lr _) (rsure_pure p (allC p)[k] gp wp (allC_mem gp _ (List.getElem_mem hk'))) ⟨lr _, lr _, trivial⟩) ?_
  refine dr_end (sq_nil ?_)
  refine aw_cond (lr _) (fun c2 => ?_) (fun c2 => ?_)
  ·
   have c2' := c2
   try simp only [qq] at c2'
   have hs : surest p = some (allC p)[k] := List.find?_eq_some_iff_getElem.2 ⟨c2', k, hk', rfl, fun j hj => by rw [hno j (by omega) hj]; rfl⟩
   refine aw_seq (aw_region ?_)
   refine mvs rfl (lr _) ?_
   refine mvr (lr _) rfl ?_
   refine sq_ev rfl (ev_index_map sl30 (lr _) (lr _) rfl (by omega)) ?_
   refine sq_ev rfl (ev_load_i (lr _) ty34 rfl) ?_
   refine ass rfl (lr _) ?_
   refine asr (lr _) rfl ?_
   refine sq_nil (aw_ret ?_)
   exact retQ_pure (v := .tup [.sl _ _, .raw _]) rfl rfl (Less.eq (by rw [hs] <;> rfl))
  ·
   have c2' := c2
   try simp only [qq] at c2'
   refine aw_skip (aw_region ?_)
   refine mvr (lr _) rfl ?_
   refine sq_ev rfl (ev_add (lr _) (lr _) (wr (by omega) (by omega))) ?_
   refine asr (lr _) rfl ?_
   refine sq_nil ?_
   exact ⟨⟨k + 1, by omega, fun i h hi => (by by_cases e : i = k; (subst e; exact c2'); exact hno i h (by omega))⟩, by simp only; omega, Sub.slots ⟨lr _, lr _, lr _, trivial⟩⟩
 ·
  have c1' := c1
  try simp only [qq] at c1'
  have hs : surest p = none := List.find?_eq_none.2 fun x hx => by
    obtain ⟨i, hi, rfl⟩ := List.getElem_of_mem hx
    rw [hno i hi (by omega)]; decide
  refine aw_exit (aw_seq (aw_region ?_))
  refine asr (lr _) rfl ?_
  refine asr (lr _) rfl ?_
  refine sq_nil (aw_ret ?_)
  exact retQ_pure (v := .tup [.raw _, .raw _]) rfl rfl (Less.trans (b := .tup [.sl 1 [], B false]) (less_tup ⟨less_nil 1, lr _, trivial⟩) (Less.eq (by rw [hs] <;> rfl)))
end Go.Proofs.YtjghdbdiejaacaaGreatDoor
namespace Go.Proofs.YtjghdbdiejaacaaGreatDoor
open Go Go.Ab Ni
theorem en65 : Ent Tryz.prog 65 := Ent.of Tryz.func65 (by kernel_rfl) rfl
theorem sf153 : SlFact Tryz.prog 153 120 6 48 := SlFact.of (by kernel_rfl)
theorem sl153 : slElem Tryz.prog 153 = some (120, 6) := by kernel_rfl
theorem inE_wc (n : Nat) (p : Pl) (l : List (List Nat)) : AV.inE n (l.map (wcells p)) = true := inE_map fun x _ => by simp [AV.inL, AV.inB]
theorem sureAV_no {p : Pl} {l : List Int} (hs : p.scenes.length ≤ 12) (hl : l.length ≤ 12) (h : chosenB p l = false) : APure Tryz.prog 64 [plan p, ints l] (.tup [B false, I 2]) := by
  have := nSure_pure p l (by omega) (by omega); unfold sureAV at this; rwa [if_neg (by simp [h])] at this
theorem sureAV_yes {p : Pl} {l : List Nat} (hs : p.scenes.length ≤ 12) (hl : l.length ≤ 12) (h : chosenB p (up l) = true) : APure Tryz.prog 64 [plan p, nats l] (.tup [B (sureP p l), I 0]) := by
  have := nSure_pure p (up l) (by omega) (by simp [up]; omega); unfold sureAV at this; rwa [if_pos h, dn_up, ints_up] at this
theorem su_bad {p : Pl} (hs : p.scenes.length ≤ 12) (h : PlOK p = false) : APure Tryz.prog 65 [plan p] (.tup [.sl 1 [], I 2]) := by have := nSurest_pure p (by omega); unfold surestAV at this; rwa [if_neg (by simp [h])] at this
theorem su_no {p : Pl} (hs : p.scenes.length ≤ 12) (h : PlOK p = true) (k : surest p = none) : APure Tryz.prog 65 [plan p] (.tup [.sl 1 [], I 5]) := by have := nSurest_pure p (by omega); unfold surestAV at this; rw [if_pos h, k] at this; exact this
theorem su_yes {p : Pl} {l : List Nat} (hs : p.scenes.length ≤ 12) (h : PlOK p = true) (k : surest p = some l) : APure Tryz.prog 65 [plan p] (.tup [nats l, I 0]) := by have := nSurest_pure p (by omega); unfold surestAV at this; rw [if_pos h, k] at this; exact this
theorem mi_bad {p : Pl} (hs : p.scenes.length ≤ 12) (h : PlOK p = false) : APure Tryz.prog 66 [plan p] (.tup [.sl 1 [], I 2]) := by have := nMisses_pure p (by omega); unfold missAV at this; rwa [if_neg (by simp [h])] at this
theorem mi_no {p : Pl} (hs : p.scenes.length ≤ 12) (h : PlOK p = true) (k : missed p = none) : APure Tryz.prog 66 [plan p] (.tup [.sl 1 [], I 5]) := by have := nMisses_pure p (by omega); unfold missAV at this; rw [if_pos h, k] at this; exact this
theorem mi_yes {p : Pl} {l : List Int} (hs : p.scenes.length ≤ 12) (h : PlOK p = true) (k : missed p = some l) : APure Tryz.prog 66 [plan p] (.tup [ints l, I 0]) := by have := nMisses_pure p (by omega); unfold missAV at this; rw [if_pos h, k] at this; exact this
theorem missed_len {p : Pl} {l : List Int} (h : missed p = some l) : l.length = 3 := by
  have hm := List.mem_of_find?_eq_some h
  obtain ⟨i, _, hm⟩ := mem_fm.1 hm
  obtain ⟨j, _, hm⟩ := mem_fm.1 hm
  obtain ⟨k, _, hm⟩ := mem_fm.1 hm
  unfold msC at hm
  simp only [List.mem_singleton] at hm
  subst hm; rfl
theorem surest_cv {p : Pl} {l : List Nat} (gp : GP p) (h : surest p = some l) : CV p l := allC_mem gp l (List.mem_of_find?_eq_some h)
set_option maxHeartbeats 2000000 in
theorem rfit_pure (p : Pl) (L : List (List Nat)) (a b c : Int) (gp : GP p) (wp : WP p) (cv : ∀ l ∈ L, CV p l) (hL : L.length ≤ 2000000) (ha : 0 ≤ a ∧ a ≤ 10000) (hb : 0 ≤ b ∧ b ≤ 10000) (hc : 0 ≤ c ∧ c ≤ 10000) : APure Tryz.prog 131 [plan p, .sl 6 (L.map (wcells p)), I a, I b, I c] (B (L.any fun l => fitsP p l [a, b, c])) := by
  refine apure_of (rs := [.tmp 10]) Tryz.func131 rfl rfl (Nat.le_of_ble_eq_true rfl) (by simp [AV.pureL, AV.pureB, AV.pureE, pureE_map]) (rfl) fun e0 he0 => ?_
  refine aw_seq (aw_region ?_)
  refine sq_box rfl (lr _) rfl ?_
  refine asr (lr _) rfl ?_
  refine sq_nil (aw_seq (aw_seq ?_))
  have hbb := gp.beg
  refine aw_region ?_
  refine asr (lr _) rfl ?_
  refine sq_nil (aw_block ?_)
  refine aw_loopk (ι := { k : Nat // k ≤ L.length ∧ ∀ i, (h : i < L.length) → i < k → fitsP p L[i] [a, b, c] = false }) [1, 2, 3, 4, 5] (fun k => [(11, I k.1)]) (fun H k => H) (fun k => L.length - k.1) (⟨0, Nat.zero_le _, by omega⟩) ⟨lr _, lr _, lr _, lr _, lr _, lr _, trivial⟩ rfl ?_
  rintro ⟨k, hk, hno⟩
  dsimp only [keepS, St.put, sget, slotsOf, List.map_cons, List.map_nil, List.cons_append, List.nil_append, List.length_cons, List.length_nil, Nat.reduceBEq, Nat.reduceAdd, cond_true, cond_false]
  refine aw_seq (aw_seq (aw_region ?_))
  refine mvr (lr _) rfl ?_
  refine mvs rfl (lr _) ?_
  refine sq_ev rfl (ev_len_map sl153 (lr _)) ?_
  refine sq_ev rfl (ev_lss (lr _) (lr _)) ?_
  refine sq_nil ?_
  refine aw_cond (lr _) (fun c1 => ?_) (fun c1 => ?_)
  · skip
    have c1' := c1
    try simp only [qq] at c1'
    have hk' : k < L.length := by omega
    have hf3 := fits3 wp (cv _ (List.getElem_mem hk')) a b c
    refine aw_skip (aw_seq (aw_block (aw_seq ?_)))
    refine aw_draw 32 mo (by kernel_rfl) ?_
    refine dr_ev rfl (ev_mv (v := .raw _) (lr _)) ?_
    refine dr_ev rfl (ev_fieldAddr fo27_0 (lr _)) ?_
    refine dr_ev rfl (ev_load (lr _) rfl ty3 rfl) ?_
    refine dr_ev rfl (ev_sub (lr _) (lr _) (wr (by omega) (by omega))) ?_
    refine dr_ev rfl (ev_mv (v := .sl _ _) (lr _)) ?_
    refine dr_ev rfl (ev_mv (v := .raw _) (lr _)) ?_
    refine dr_ev rfl (ev_index_map sl153 (lr _) (lr _) rfl (by omega)) ?_
    refine dr_ev rfl (ev_index_box_i (k := 0) ar120 (lr _) (lr _) rfl (by decide)) ?_
    refine dr_ev rfl (ev_less (ev_load_agg_i (lr _) ty23 (Nat.le_of_ble_eq_true rfl)) (Less.eq (b := .agg [I (lo p L[k] 0 0 10), I (hi p L[k] 0 0 10)]) rfl)) ?_
    refine dr_ev rfl (ev_call en111 (lr _) (within_pure _ _ _) ⟨lr _, lr _, trivial⟩) ?_
    refine dr_ev rfl (ev_mv (v := .raw _) (lr _)) ?_
    refine dr_split 28 (lr _) (fun g2 => ?_) (fun g2 => ?_)
    · skip
      have g2' := g2
      try simp only [qq] at g2'
      refine dr_yes rfl rfl (less_b g2) rfl (ev_mv (v := .raw _) (lr _)) ?_
      refine dr_yes rfl rfl (less_b g2) rfl (ev_mv (v := .raw _) (lr _)) ?_
      refine dr_yes rfl rfl (less_b g2) rfl (ev_sub (lr _) (lr _) (wr (by omega) (by omega))) ?_
      refine dr_yes rfl rfl (less_b g2) rfl (ev_mv (v := .sl _ _) (lr _)) ?_
      refine dr_yes rfl rfl (less_b g2) rfl (ev_mv (v := .raw _) (lr _)) ?_
      refine dr_yes rfl rfl (less_b g2) rfl (ev_index_map sl153 (lr _) (lr _) rfl (by omega)) ?_
      refine dr_yes rfl rfl (less_b g2) rfl (ev_index_box_i (k := 1) ar120 (lr _) (lr _) rfl (by decide)) ?_
      refine dr_yes rfl rfl (less_b g2) rfl (ev_less (ev_load_agg_i (lr _) ty23 (Nat.le_of_ble_eq_true rfl)) (Less.eq (b := .agg [I (lo p L[k] 1 0 10), I (hi p L[k] 1 0 10)]) rfl)) ?_
      refine dr_yes rfl rfl (less_b g2) rfl (ev_call en111 (lr _) (within_pure _ _ _) ⟨lr _, lr _, trivial⟩) ?_
      refine dr_ev rfl (ev_pickT (v := .raw _) (less_b g2) (lr _)) ?_
      refine dr_ev rfl (ev_mv (v := .raw _) (lr _)) ?_
      refine dr_split 39 (lr _) (fun g3 => ?_) (fun g3 => ?_)
      · skip
        have g3' := g3
        try simp only [qq] at g3'
        refine dr_yes rfl rfl (less_b g3) rfl (ev_mv (v := .raw _) (lr _)) ?_
        refine dr_yes rfl rfl (less_b g3) rfl (ev_mv (v := .raw _) (lr _)) ?_
        refine dr_yes rfl rfl (less_b g3) rfl (ev_sub (lr _) (lr _) (wr (by omega) (by omega))) ?_
        refine dr_yes rfl rfl (less_b g3) rfl (ev_mv (v := .sl _ _) (lr _)) ?_
        refine dr_yes rfl rfl (less_b g3) rfl (ev_mv (v := .raw _) (lr _)) ?_
        refine dr_yes rfl rfl (less_b g3) rfl (ev_index_map sl153 (lr _) (lr _) rfl (by omega)) ?_
        refine dr_yes rfl rfl (less_b g3) rfl (ev_index_box_i (k := 2) ar120 (lr _) (lr _) rfl (by decide)) ?_
        refine dr_yes rfl rfl (less_b g3) rfl (ev_less (ev_load_agg_i (lr _) ty23 (Nat.le_of_ble_eq_true rfl)) (Less.eq (b := .agg [I (lo p L[k] 2 0 10), I (hi p L[k] 2 0 10)]) rfl)) ?_
        refine dr_yes rfl rfl (less_b g3) rfl (ev_call en111 (lr _) (within_pure _ _ _) ⟨lr _, lr _, trivial⟩) ?_
        refine dr_ev rfl (ev_pickT (v := .raw _) (less_b g3) (lr _)) ?_
        refine dr_end (sq_nil ?_)
        refine aw_cond (lr _) (fun c4 => ?_) (fun c4 => ?_)
        · skip
          have c4' := c4
          try simp only [qq] at c4'
          refine aw_seq (aw_region ?_)
          refine asr (lr _) rfl ?_
          refine sq_nil (aw_ret ?_)
          exact retQ_pure (v := .raw _) rfl rfl (Less.eq (by rw [show (L.any fun l => fitsP p l [a, b, c]) = true from List.any_eq_true.2 ⟨_, List.getElem_mem hk', by rw [hf3]; simp [*]⟩]))
        · skip
          have c4' := c4
          try simp only [qq] at c4'
          refine aw_skip (aw_region ?_)
          refine mvr (lr _) rfl ?_
          refine sq_ev rfl (ev_add (lr _) (lr _) (wr (by omega) (by omega))) ?_
          refine asr (lr _) rfl ?_
          refine sq_nil ?_
          have hnk : fitsP p L[k] [a, b, c] = false := by rw [hf3]; simp [*]
          exact ⟨⟨k + 1, by omega, fun i h hi => (by by_cases e : i = k; (subst e; exact hnk); exact hno i h (by omega))⟩, by simp only; omega, Sub.slots ⟨lr _, lr _, lr _, lr _, lr _, lr _, trivial⟩⟩
      · skip
        have g3' := g3
        try simp only [qq] at g3'
        refine dr_no rfl rfl (less_b g3) rfl rfl ?_
        refine dr_no rfl rfl (less_b g3) rfl rfl ?_
        refine dr_no rfl rfl (less_b g3) rfl rfl ?_
        refine dr_no rfl rfl (less_b g3) rfl rfl ?_
        refine dr_no rfl rfl (less_b g3) rfl rfl ?_
        refine dr_no rfl rfl (less_b g3) rfl rfl ?_
        refine dr_no rfl rfl (less_b g3) rfl rfl ?_
        refine dr_no rfl rfl (less_b g3) rfl rfl ?_
        refine dr_no rfl rfl (less_b g3) rfl rfl ?_
        refine dr_ev rfl (ev_pickF (v := .raw _) (less_b g3) (lr _)) ?_
        refine dr_end (sq_nil ?_)
        refine aw_false (lr _) ?_
        refine aw_skip (aw_region ?_)
        refine mvr (lr _) rfl ?_
        refine sq_ev rfl (ev_add (lr _) (lr _) (wr (by omega) (by omega))) ?_
        refine asr (lr _) rfl ?_
        refine sq_nil ?_
        have hnk : fitsP p L[k] [a, b, c] = false := by rw [hf3]; simp [*]
        exact ⟨⟨k + 1, by omega, fun i h hi => (by by_cases e : i = k; (subst e; exact hnk); exact hno i h (by omega))⟩, by simp only; omega, Sub.slots ⟨lr _, lr _, lr _, lr _, lr _, lr _, trivial⟩⟩
    · skip
      have g2' := g2
      try simp only [qq] at g2'
      refine dr_no rfl rfl (less_b g2) rfl rfl ?_
      refine dr_no rfl rfl (less_b g2) rfl rfl ?_
      refine dr_no rfl rfl (less_b g2) rfl rfl ?_
      refine dr_no rfl rfl (less_b g2) rfl rfl ?_
      refine dr_no rfl rfl (less_b g2) rfl rfl ?_
      refine dr_no rfl rfl (less_b g2) rfl rfl ?_
      refine dr_no rfl rfl (less_b g2) rfl rfl ?_
      refine dr_no rfl rfl (less_b g2) rfl rfl ?_
      refine dr_no rfl rfl (less_b g2) rfl rfl ?_
      refine dr_ev rfl (ev_pickF (v := .raw _) (less_b g2) (lr _)) ?_
      refine dr_ev rfl (ev_mv (v := .raw _) (lr _)) ?_
      refine dr_no rfl rfl (lr _) rfl rfl ?_
      refine dr_no rfl rfl (lr _) rfl rfl ?_
      refine dr_no rfl rfl (lr _) rfl rfl ?_
      refine dr_no rfl rfl (lr _) rfl rfl ?_
      refine dr_no rfl rfl (lr _) rfl rfl ?_
      refine dr_no rfl rfl (lr _) rfl rfl ?_
      refine dr_no rfl rfl (lr _) rfl rfl ?_
      refine dr_no rfl rfl (lr _) rfl rfl ?_
      refine dr_no rfl rfl (lr _) rfl rfl ?_
      refine dr_ev rfl (ev_pickF (v := .raw _) (lr _) (lr _)) ?_
      refine dr_end (sq_nil ?_)
      refine aw_false (lr _) ?_
      refine aw_skip (aw_region ?_)
      refine mvr (lr _) rfl ?_
      refine sq_ev rfl (ev_add (lr _) (lr _) (wr (by omega) (by omega))) ?_
      refine asr (lr _) rfl ?_
      refine sq_nil ?_
      have hnk : fitsP p L[k] [a, b, c] = false := by rw [hf3]; simp [*]
      exact ⟨⟨k + 1, by omega, fun i h hi => (by by_cases e : i = k; (subst e; exact hnk); exact hno i h (by omega))⟩, by simp only; omega, Sub.slots ⟨lr _, lr _, lr _, lr _, lr _, lr _, trivial⟩⟩
  · skip
    have c1' := c1
    try simp only [qq] at c1'
    have hnone : (L.any fun l => fitsP p l [a, b, c]) = false := by
      rw [List.any_eq_false]
      intro x hx
      obtain ⟨i, hi, rfl⟩ := List.getElem_of_mem hx
      rw [hno i hi (by omega)]; decide
    refine aw_exit (aw_seq (aw_region ?_))
    refine asr (lr _) rfl ?_
    refine sq_nil (aw_ret ?_)
    exact retQ_pure (v := .raw _) rfl rfl (Less.eq (by rw [hnone]))
set_option maxHeartbeats 2000000 in
theorem rMisses_pure (p : Pl) (gp : GP p) (wp : WP p) : APure Tryz.prog 68 [plan p] ((match missed p with | some h => .tup [ints h, B true] | none => .tup [.sl 1 [], B false])) := by
 refine apure_of (rs := [.tmp 2, .tmp 3]) Tryz.func68 rfl rfl (Nat.le_of_ble_eq_true rfl) (by simp [AV.pureL, AV.pureB, AV.pureE, pureE_map]) (by split <;> simp [AV.pureB, AV.pureL, AV.pureE, pureE_map]) fun e0 he0 => ?_
 refine aw_seq (aw_region ?_)
 refine sq_box rfl (lr _) rfl ?_
 refine asr (lr _) rfl ?_
 refine asr (lr _) rfl ?_
 refine sq_nil (aw_seq ?_)
 have hal := allC_len gp
 have b1 := gp.s0l
 have b2 := gp.s0h
 have b3 := gp.s1l
 have b4 := gp.s1h
 have b5 := gp.dl
 have b6 := gp.dh
 have w1 := wp.s0
 have w2 := wp.s1
 have w3 := wp.d
 have e1 : (wid p.s0l p.s0h : Int) = p.s0h - p.s0l + 1 := by unfold wid; omega
 have e2 : (wid p.s1l p.s1h : Int) = p.s1h - p.s1l + 1 := by unfold wid; omega
 have e3 : (wid p.dl p.dh : Int) = p.dh - p.dl + 1 := by unfold wid; omega
 refine aw_region ?_
 refine sq_ev rfl (ev_load_agg (lr _) rfl ty27 rfl) ?_
 refine sq_ev rfl (ev_call en92 (lr _) (all_pure gp) ⟨lr _, trivial⟩) ?_
 refine ass rfl (lr _) ?_
 refine sq_nil (aw_seq (aw_region ?_))
 refine asr (lr _) rfl ?_
 refine sq_nil (aw_seq (aw_seq (aw_region ?_)))
 refine asr (lr _) rfl ?_
 refine sq_nil (aw_block ?_)
 refine aw_sub (sub_token 5 6 (lr _)) ?_
 refine aw_loopk (ι := { q : Nat // q ≤ (allC p).length }) [1, 4] (fun i => [(6, I i.1), (5, .own 1 6 (((allC p).take i.1).map (wcells p)))]) (fun H i => H.set 1 (.tok (((allC p).take i.1).map (wcells p)).length)) (fun i => (allC p).length - i.1) (⟨0, Nat.zero_le _⟩) ⟨lr _, lr _, lr _, lr _, trivial⟩ rfl ?_
 rintro ⟨q, hq⟩
 dsimp only [keepS, St.put, sget, slotsOf, List.map_cons, List.map_nil, List.cons_append, List.nil_append, List.length_cons, List.length_nil, Nat.reduceBEq, Nat.reduceAdd, cond_true, cond_false]
 refine aw_seq (aw_seq (aw_region ?_))
 refine mvr (lr _) rfl ?_
 refine mvs rfl (lr _) ?_
 refine sq_ev rfl (ev_len_map sl30 (lr _)) ?_
 refine sq_ev rfl (ev_lss (lr _) (lr _)) ?_
 refine sq_nil ?_
 refine aw_cond (lr _) (fun c1 => ?_) (fun c1 => ?_)
 ·
  have c1' := c1
  try simp only [qq] at c1'
  have hq' : q < (allC p).length := by omega
  have eS : ((allC p).take (q + 1)).map (wcells p) = ((allC p).take q).map (wcells p) ++ [wcells p (allC p)[q]] := map_take_succ _ hq'
  refine aw_skip (aw_seq (aw_block ?_))
  refine aw_draw 8 mo (by kernel_rfl) ?_
  refine dr_ev rfl (ev_mv (v := .own _ _ _) (lr _)) ?_
  refine dr_ev rfl (ev_load_agg (lr _) rfl ty27 rfl) ?_
  refine dr_ev rfl (ev_mv (v := .sl _ _) (lr _)) ?_
  refine dr_ev rfl (ev_mv (v := .raw _) (lr _)) ?_
  refine dr_ev rfl (ev_index_map sl30 (lr _) (lr _) rfl (by omega)) ?_
  refine dr_ev rfl (ev_load_i (lr _) ty34 rfl) ?_
  refine dr_ev rfl (ev_call en110 (lr _) (whole_pure p (allC p)[q] gp (allC_mem gp _ (List.getElem_mem hq'))) ⟨lr _, lr _, trivial⟩) ?_
  refine dr_ev rfl (ev_buildSlice (es := [[_, _, _, _, _, _]]) sf153 rfl rfl rfl rfl) ?_
  refine dr_end ?_
  refine sq_append rfl sf153 Tryz.underlying153 rfl rfl (less_slx _ _) (Nat.succ_pos _) (by simp; omega) (by simp; omega) ?_
  refine sq_ev rfl (ev_as (v := .own _ _ _) (lr _)) ?_
  refine sq_nil (aw_region ?_)
  refine mvr (lr _) rfl ?_
  refine sq_ev rfl (ev_add (lr _) (lr _) (wr (by omega) (by omega))) ?_
  refine asr (lr _) rfl ?_
  refine sq_nil ?_
  exact ⟨⟨q + 1, by omega⟩, by simp only; omega, Sub.fin 2 ⟨lr _, Less.eq (b := .own 1 6 (((allC p).take (q + 1)).map (wcells p))) (by rw [eS] <;> rfl), lr _, lr _, trivial⟩ (congrArg (fun n => [_, AObj.tok n]) (congrArg List.length eS.symm)) (by simp [slotsIn, objsIn, sget, keepS, AObj.inB, AV.inB, AV.inL, AV.inE, inE_map, inE_ints, inE_wc, inE_sc, -List.map_append, -List.map_take, -List.map_map]) (by simp [slotsIn, objsIn, sget, keepS, AObj.inB, AV.inB, AV.inL, AV.inE, inE_map, inE_ints, inE_wc, inE_sc, -List.map_append, -List.map_take, -List.map_map]) (by simp [he0])⟩
 ·
  have c1' := c1
  try simp only [qq] at c1'
  obtain rfl : q = (allC p).length := by omega
  refine aw_exit (aw_seq (aw_seq (aw_region ?_)))
  refine sq_ev rfl (ev_fieldAddr fo27_1 (lr _)) ?_
  refine sq_ev rfl (ev_index_box ar24 (lr _) (lr _) rfl (by decide)) ?_
  refine sq_ev rfl (ev_fieldAddr fo23_0 (lr _)) ?_
  refine sq_ev rfl (ev_load (lr _) rfl ty3 rfl) ?_
  refine asr (lr _) rfl ?_
  refine sq_nil (aw_block ?_)
  refine aw_loopk (ι := { i : Nat // i ≤ wid p.s0l p.s0h ∧ (fm i (msA p)).find? (missH p) = none }) [1, 5] (fun i => [(7, I (p.s0l + i.1))]) (fun H i => H) (fun i => wid p.s0l p.s0h - i.1) (⟨0, Nat.zero_le _, rfl⟩) ⟨(by exact less_int (by simp)), lr _, lr _, trivial⟩ rfl ?_
  rintro ⟨i, hi, hi0⟩
  dsimp only [keepS, St.put, sget, slotsOf, List.map_cons, List.map_nil, List.cons_append, List.nil_append, List.length_cons, List.length_nil, Nat.reduceBEq, Nat.reduceAdd, cond_true, cond_false]
  refine aw_seq (aw_seq (aw_region ?_))
  refine mvr (lr _) rfl ?_
  refine sq_ev rfl (ev_fieldAddr fo27_1 (lr _)) ?_
  refine sq_ev rfl (ev_index_box ar24 (lr _) (lr _) rfl (by decide)) ?_
  refine sq_ev rfl (ev_fieldAddr fo23_1 (lr _)) ?_
  refine sq_ev rfl (ev_load (lr _) rfl ty3 rfl) ?_
  refine sq_ev rfl (ev_leq (lr _) (lr _)) ?_
  refine sq_nil ?_
  refine aw_cond (lr _) (fun c2 => ?_) (fun c2 => ?_)
  ·
   have c2' := c2
   try simp only [qq] at c2'
   have hi2 : i < wid p.s0l p.s0h := by omega
   refine aw_skip (aw_seq (aw_block (aw_seq (aw_region ?_))))
   refine sq_ev rfl (ev_fieldAddr fo27_1 (lr _)) ?_
   refine sq_ev rfl (ev_index_box ar24 (lr _) (lr _) rfl (by decide)) ?_
   refine sq_ev rfl (ev_fieldAddr fo23_0 (lr _)) ?_
   refine sq_ev rfl (ev_load (lr _) rfl ty3 rfl) ?_
   refine asr (lr _) rfl ?_
   refine sq_nil (aw_block ?_)
   refine aw_loopk (ι := { j : Nat // j ≤ wid p.s1l p.s1h ∧ (fm j (msB p i)).find? (missH p) = none }) [1, 5, 7] (fun j => [(8, I (p.s1l + j.1))]) (fun H j => H) (fun j => wid p.s1l p.s1h - j.1) (⟨0, Nat.zero_le _, rfl⟩) ⟨(by exact less_int (by simp)), lr _, lr _, lr _, trivial⟩ rfl ?_
   rintro ⟨j, hj, hj0⟩
   dsimp only [keepS, St.put, sget, slotsOf, List.map_cons, List.map_nil, List.cons_append, List.nil_append, List.length_cons, List.length_nil, Nat.reduceBEq, Nat.reduceAdd, cond_true, cond_false]
   refine aw_seq (aw_seq (aw_region ?_))
   refine mvr (lr _) rfl ?_
   refine sq_ev rfl (ev_fieldAddr fo27_1 (lr _)) ?_
   refine sq_ev rfl (ev_index_box ar24 (lr _) (lr _) rfl (by decide)) ?_
   refine sq_ev rfl (ev_fieldAddr fo23_1 (lr _)) ?_
   refine sq_ev rfl (ev_load (lr _) rfl ty3 rfl) ?_
   refine sq_ev rfl (ev_leq (lr _) (lr _)) ?_
   refine sq_nil ?_
   refine aw_cond (lr _) (fun c3 => ?_) (fun c3 => ?_)
   ·
    have c3' := c3
    try simp only [qq] at c3'
    have hj2 : j < wid p.s1l p.s1h := by omega
    refine aw_skip (aw_seq (aw_block (aw_seq (aw_region ?_))))
    refine sq_ev rfl (ev_fieldAddr fo27_2 (lr _)) ?_
    refine sq_ev rfl (ev_fieldAddr fo23_0 (lr _)) ?_
    refine sq_ev rfl (ev_load (lr _) rfl ty3 rfl) ?_
    refine asr (lr _) rfl ?_
    refine sq_nil (aw_block ?_)
    refine aw_loopk (ι := { k : Nat // k ≤ wid p.dl p.dh ∧ (fm k (msC p i j)).find? (missH p) = none }) [1, 5, 7, 8] (fun k => [(9, I (p.dl + k.1))]) (fun H k => H) (fun k => wid p.dl p.dh - k.1) (⟨0, Nat.zero_le _, rfl⟩) ⟨(by exact less_int (by simp)), lr _, lr _, lr _, lr _, trivial⟩ rfl ?_
    rintro ⟨k, hk, hk0⟩
    dsimp only [keepS, St.put, sget, slotsOf, List.map_cons, List.map_nil, List.cons_append, List.nil_append, List.length_cons, List.length_nil, Nat.reduceBEq, Nat.reduceAdd, cond_true, cond_false]
    refine aw_seq (aw_seq (aw_region ?_))
    refine mvr (lr _) rfl ?_
    refine sq_ev rfl (ev_fieldAddr fo27_2 (lr _)) ?_
    refine sq_ev rfl (ev_fieldAddr fo23_1 (lr _)) ?_
    refine sq_ev rfl (ev_load (lr _) rfl ty3 rfl) ?_
    refine sq_ev rfl (ev_leq (lr _) (lr _)) ?_
    refine sq_nil ?_
    refine aw_cond (lr _) (fun c4 => ?_) (fun c4 => ?_)
    ·
     have c4' := c4
     try simp only [qq] at c4'
     have hk2 : k < wid p.dl p.dh := by omega
     refine aw_skip (aw_seq (aw_block (aw_seq (aw_region ?_))))
     refine sq_ev rfl (ev_load_agg (lr _) rfl ty27 rfl) ?_
     refine sq_ev rfl (ev_mv (v := .own _ _ _) (lr _)) ?_
     refine mvr (lr _) rfl ?_
     refine mvr (lr _) rfl ?_
     refine mvr (lr _) rfl ?_
     refine sq_ev rfl (ev_call en131 (lr _) (rfit_pure p (allC p) (p.s0l + i) (p.s1l + j) (p.dl + k) gp wp (allC_mem gp) (by omega) (by omega) (by omega) (by omega)) ⟨lr _, Less.trans (less_own _ _ _) (Less.eq (by rw [List.take_length])), lr _, lr _, lr _, trivial⟩) ?_
     refine sq_ev rfl (ev_not (lr _)) ?_
     refine sq_nil ?_
     refine aw_cond (lr _) (fun c5 => ?_) (fun c5 => ?_)
     ·
      have c5' := c5
      try simp only [qq] at c5'
      have hm : missed p = some [p.s0l + i, p.s1l + j, p.dl + k] := fm_find _ hi2 hi0 (fm_find _ hj2 hj0 (fm_find _ hk2 hk0 (by unfold msC; rw [List.find?_cons_of_pos]; unfold missH; exact c5)))
      refine aw_seq (aw_region ?_)
      refine mvr (lr _) rfl ?_
      refine mvr (lr _) rfl ?_
      refine mvr (lr _) rfl ?_
      refine sq_ev rfl (ev_buildSlice (es := [[_], [_], [_]]) sf34 rfl rfl rfl rfl) ?_
      refine sq_ev rfl (ev_as (v := .slx _ _) (lr _)) ?_
      refine asr (lr _) rfl ?_
      refine sq_nil (aw_ret ?_)
      exact retQ_pure (v := .tup [.slx _ _, .raw _]) rfl rfl (Less.trans (b := .tup [ints [p.s0l + i, p.s1l + j, p.dl + k], B true]) (less_tup ⟨less_slx _ _, lr _, trivial⟩) (Less.eq (by rw [hm] <;> rfl)))
     ·
      have c5' := c5
      try simp only [qq] at c5'
      have hn : (msC p i j k).find? (missH p) = none := by unfold msC; rw [List.find?_cons_of_neg (by unfold missH; rw [c5]; decide)]; rfl
      refine aw_skip (aw_region ?_)
      refine mvr (lr _) rfl ?_
      refine sq_ev rfl (ev_add (lr _) (lr _) (wr (by omega) (by omega))) ?_
      refine asr (lr _) rfl ?_
      refine sq_nil ?_
      exact ⟨⟨k + 1, by omega, fm_find_succ hk0 hn⟩, by simp only; omega, Sub.slots ⟨(by exact less_int (by simp only; omega)), lr _, lr _, lr _, lr _, trivial⟩⟩
    ·
     have c4' := c4
     try simp only [qq] at c4'
     obtain rfl : k = wid p.dl p.dh := by omega
     refine aw_exit (aw_region ?_)
     refine mvr (lr _) rfl ?_
     refine sq_ev rfl (ev_add (lr _) (lr _) (wr (by omega) (by omega))) ?_
     refine asr (lr _) rfl ?_
     refine sq_nil ?_
     exact ⟨⟨j + 1, by omega, fm_find_succ hj0 hk0⟩, by simp only; omega, Sub.slots ⟨(by exact less_int (by simp only; omega)), lr _, lr _, lr _, trivial⟩⟩
   ·
    have c3' := c3
    try simp only [qq] at c3'
    obtain rfl : j = wid p.s1l p.s1h := by omega
    refine aw_exit (aw_region ?_)
    refine mvr (lr _) rfl ?_
    refine sq_ev rfl (ev_add (lr _) (lr _) (wr (by omega) (by omega))) ?_
    refine asr (lr _) rfl ?_
    refine sq_nil ?_
    exact ⟨⟨i + 1, by omega, fm_find_succ hi0 hj0⟩, by simp only; omega, Sub.slots ⟨(by exact less_int (by simp only; omega)), lr _, lr _, trivial⟩⟩
  ·
   have c2' := c2
   try simp only [qq] at c2'
   obtain rfl : i = wid p.s0l p.s0h := by omega
   refine aw_exit (aw_seq (aw_region ?_))
   refine asr (lr _) rfl ?_
   refine asr (lr _) rfl ?_
   refine sq_nil (aw_ret ?_)
   exact retQ_pure (v := .tup [.raw _, .raw _]) rfl rfl (Less.trans (b := .tup [.sl 1 [], B false]) (less_tup ⟨less_nil 1, lr _, trivial⟩) (Less.eq (by rw [show missed p = none from hi0] <;> rfl)))
end Go.Proofs.YtjghdbdiejaacaaGreatDoor
