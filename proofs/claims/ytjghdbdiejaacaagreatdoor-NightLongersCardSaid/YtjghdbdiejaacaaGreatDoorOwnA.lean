/-
  A part of the proof: conditions: none beyond each theorem's own.
-/
import Derived.Test.YtjghdbdiejaacaaGreatDoorSpecA
import Derived.Test.YtjghdbdiejaacaaGreatDoorLogicC
import Derived.KernelRfl
import Derived.Lib.LaidTab
import Derived.Lib.ItoaNum
import Derived.Test.YtjghdbdiejaacaaGreatDoorProg
import Derived.Test.YtjghdbdiejaacaaGreatDoorWalkF
import Derived.Test.YtjghdbdiejaacaaGreatDoorWalkG
import Derived.Test.YtjghdbdiejaacaaGreatDoorLogicD
import Derived.Test.YtjghdbdiejaacaaGreatDoorLogicA
import Derived.Test.YtjghdbdiejaacaaGreatDoorLogicB
import Derived.Test.YtjghdbdiejaacaaGreatDoorShelf
import Derived.Test.YtjghdbdiejaacaaGreatDoorWalkA
import Derived.Test.YtjghdbdiejaacaaGreatDoorWalkB
import Derived.Test.YtjghdbdiejaacaaGreatDoorWalkC
import Derived.Test.YtjghdbdiejaacaaGreatDoorWalkD
import Derived.Test.YtjghdbdiejaacaaGreatDoorWalkE
import Derived.Test.YtjghdbdiejaacaaGreatDoorRow
set_option linter.all false
set_option maxHeartbeats 8000000
namespace Ni
theorem has_yes {l : List Int} {n : Int} {k : Nat} (h : k < l.length) (e : l[k] = n) : has l n = true := by
  simp only [has, decide_eq_true_eq]; exact e ▸ List.getElem_mem h
theorem has_no {l : List Int} {n : Int} {k : Nat} (hn : ¬ (k : Int) < l.length) (h : ∀ i, (h : i < l.length) → i < k → l[i] ≠ n) : has l n = false := by
  simp only [has, decide_eq_false_iff_not]
  intro hm
  obtain ⟨j, hj, e⟩ := List.getElem_of_mem hm
  exact h j hj (by omega) e
theorem ssum_take {f : Nat → Int} {c : Nat → Bool} {l : List Nat} {k : Nat} (h : k < l.length) : ssum f c (l.take (k + 1)) = ssum f c (l.take k) + (if c l[k] = true then f l[k] else 0) := by
  unfold ssum
  rw [List.take_succ_eq_append_getElem h, List.filter_append, List.map_append, List.sum_append]
  by_cases hc : c l[k] = true <;> simp [hc]
theorem ssum_bd {f : Nat → Int} {c : Nat → Bool} : ∀ {l : List Nat}, (∀ x ∈ l, 0 ≤ f x ∧ f x ≤ 10000) → 0 ≤ ssum f c l ∧ ssum f c l ≤ 10000 * l.length
  | [], _ => by simp [ssum]
  | x :: l, h => by
    have ih := ssum_bd (c := c) (l := l) (fun y hy => h y (List.mem_cons_of_mem _ hy))
    have hx := h x (by simp)
    have e : ssum f c (x :: l) = (if c x = true then f x else 0) + ssum f c l := by
      unfold ssum
      by_cases hc : c x = true <;> simp [hc]
    rw [e, List.length_cons]
    split <;> omega
theorem ssum_bd_take {f : Nat → Int} {c : Nat → Bool} {l : List Nat} (h : ∀ x ∈ l, 0 ≤ f x ∧ f x ≤ 10000) (hl : l.length ≤ 1000) (k : Nat) : 0 ≤ ssum f c (l.take k) ∧ ssum f c (l.take k) ≤ 10000000 := by
  have := ssum_bd (c := c) (l := l.take k) (fun x hx => h x (List.mem_of_mem_take hx))
  have := List.length_take_le' k l
  omega
theorem lo_bd {p : Pl} {l : List Nat} (gp : GP p) (cv : CV p l) (part a b : Int) (k : Nat) : 0 ≤ lo p (l.take k) part a b ∧ lo p (l.take k) part a b ≤ 10000000 := ssum_bd_take (fun x hx => gp.least (cv.rng x hx)) cv.len k
theorem hi_bd {p : Pl} {l : List Nat} (gp : GP p) (cv : CV p l) (part a b : Int) (k : Nat) : 0 ≤ hi p (l.take k) part a b ∧ hi p (l.take k) part a b ≤ 10000000 := ssum_bd_take (fun x hx => gp.most (cv.rng x hx)) cv.len k
theorem lo_take {p : Pl} {l : List Nat} {k : Nat} (h : k < l.length) (part a b : Int) : lo p (l.take (k + 1)) part a b = lo p (l.take k) part a b + (if inP p part a b l[k] = true then (scn p l[k]).least else 0) := ssum_take h
theorem hi_take {p : Pl} {l : List Nat} {k : Nat} (h : k < l.length) (part a b : Int) : hi p (l.take (k + 1)) part a b = hi p (l.take k) part a b + (if inP p part a b l[k] = true then (scn p l[k]).most else 0) := ssum_take h
theorem lo_bd' {p : Pl} {l : List Nat} (gp : GP p) (cv : CV p l) (part a b : Int) : 0 ≤ lo p l part a b ∧ lo p l part a b ≤ 10000000 := by have := lo_bd gp cv part a b l.length; rwa [List.take_length] at this
theorem hi_bd' {p : Pl} {l : List Nat} (gp : GP p) (cv : CV p l) (part a b : Int) : 0 ≤ hi p l part a b ∧ hi p l part a b ≤ 10000000 := by have := hi_bd gp cv part a b l.length; rwa [List.take_length] at this
theorem fm_zero {α : Type} (f : Nat → List α) : fm 0 f = [] := rfl
theorem hC_len (p : Pl) (l : List Nat) (a b : Int) (k : Nat) : (hC p l a b k).length ≤ 1 := by unfold hC; split <;> simp
theorem wid_le {a b : Int} (h : 0 ≤ a) (k : b ≤ 10000) : wid a b ≤ 10001 := by unfold wid; omega
theorem hB_len {p : Pl} (gp : GP p) (l : List Nat) (a : Int) (j : Nat) : (hB p l a j).length ≤ 10001 := by
  unfold hB; split
  · have := fm_len (hC_len p l a (p.s1l + j)) (wid p.dl p.dh)
    have := wid_le gp.dl.1 gp.dh.2
    omega
  · simp
theorem hA_len {p : Pl} (gp : GP p) (l : List Nat) (i : Nat) : (hA p l i).length ≤ 100020001 := by
  unfold hA; split
  · have := fm_len (hB_len gp l (p.s0l + i)) (wid p.s1l p.s1h)
    have := wid_le gp.s1l.1 gp.s1h.2
    omega
  · simp
theorem hAs_len {p : Pl} (gp : GP p) (l : List Nat) {i : Nat} (h : i ≤ wid p.s0l p.s0h) : (fm i (hA p l)).length ≤ 1000300030001 := by
  have := fm_len (hA_len gp l) i
  have := wid_le gp.s0l.1 gp.s0h.2
  omega
theorem hBs_len {p : Pl} (gp : GP p) (l : List Nat) (a : Int) {j : Nat} (h : j ≤ wid p.s1l p.s1h) : (fm j (hB p l a)).length ≤ 100020001 := by
  have := fm_len (hB_len gp l a) j
  have := wid_le gp.s1l.1 gp.s1h.2
  omega
theorem hCs_len {p : Pl} (gp : GP p) (l : List Nat) (a b : Int) {k : Nat} (h : k ≤ wid p.dl p.dh) : (fm k (hC p l a b)).length ≤ 10001 := by
  have := fm_len (hC_len p l a b) k
  have := wid_le gp.dl.1 gp.dh.2
  omega
theorem hB_eq {p : Pl} {l : List Nat} {a : Int} {j k : Nat} (hk0 : 0 < k → inn (p.s1l + j - a) (lo p l 1 0 10) (hi p l 1 0 10) = true) (h : k = wid p.dl p.dh ∨ inn (p.s1l + j - a) (lo p l 1 0 10) (hi p l 1 0 10) = false) :
    hB p l a j = fm k (hC p l a (p.s1l + j)) := by
  unfold hB
  cases hc : inn (p.s1l + j - a) (lo p l 1 0 10) (hi p l 1 0 10) with
  | true =>
    rw [hc] at h
    rcases h with h | h
    · rw [if_pos rfl, h]
    · cases h
  | false =>
    rw [hc] at hk0
    have : k = 0 := by
      rcases Nat.eq_zero_or_pos k with h0 | h0
      · exact h0
      · have := hk0 h0; cases this
    subst this; rfl
theorem hA_eq {p : Pl} {l : List Nat} {i k : Nat} (hk0 : 0 < k → inn (p.s0l + i - p.beg) (lo p l 0 0 10) (hi p l 0 0 10) = true) (h : k = wid p.s1l p.s1h ∨ inn (p.s0l + i - p.beg) (lo p l 0 0 10) (hi p l 0 0 10) = false) :
    hA p l i = fm k (hB p l (p.s0l + i)) := by
  unfold hA
  cases hc : inn (p.s0l + i - p.beg) (lo p l 0 0 10) (hi p l 0 0 10) with
  | true =>
    rw [hc] at h
    rcases h with h | h
    · rw [if_pos rfl, h]
    · cases h
  | false =>
    rw [hc] at hk0
    have : k = 0 := by
      rcases Nat.eq_zero_or_pos k with h0 | h0
      · exact h0
      · have := hk0 h0; cases this
    subst this; rfl
theorem nxt_nil {now : List Nat} (h : now.length = 0) : nxt now = 0 := by have := List.length_eq_zero_iff.1 h; subst this; rfl
theorem nxt_last {now : List Nat} (h : now.length - 1 < now.length) : nxt now = now[now.length - 1] + 1 := by
  unfold nxt
  rw [List.getLast?_eq_getElem?, List.getElem?_eq_getElem h]
theorem lsts_part {n m : Nat} (now : List Nat) {k : Nat} (hn : n ≤ 16) (h : k ≤ n - nxt now) : (fm k fun i => lsts n m (now ++ [nxt now + i])).length ≤ 65536 := by
  have := fm_pow (d := n - nxt now) (f := fun i => lsts n m (now ++ [nxt now + i])) (fun i hi => by
    have := lsts_len n m (now ++ [nxt now + i])
    rw [nxt_app] at this
    rwa [show n - (nxt now + i + 1) = n - nxt now - (i + 1) by omega] at this) k h
  have h3 : 2 ^ (n - nxt now) ≤ 2 ^ 16 := Nat.pow_le_pow_right (by decide) (by omega)
  exact Nat.le_trans (Nat.le_trans (Nat.le_add_right _ _) this) h3
end Ni
namespace Ni
def FitH (p : Pl) (l : List Nat) (h : Hr) : Prop := Fit p l h.1 h.2.1 h.2.2
theorem mem_hrsH {p : Pl} {l : List Nat} (wp : WP p) (cv : CV p l) {h : Hr} : h ∈ hrs p l ↔ FitH p l h := by
  obtain ⟨a, b, c⟩ := h; exact mem_hrs wp cv
theorem rect {A B C D L H : Int} (h1 : A ≤ B) (h2 : C ≤ D) (h3 : L ≤ H) (h4 : L ≤ D - A) (h5 : C - B ≤ H) : ∃ x y, A ≤ x ∧ x ≤ B ∧ C ≤ y ∧ y ≤ D ∧ L ≤ y - x ∧ y - x ≤ H :=
  ⟨max A (C - H), max C (max A (C - H) + L), by omega, by omega, by omega, by omega, by omega, by omega⟩
theorem pickF {lo hi L H t : Int} (h1 : lo ≤ hi) (h2 : L ≤ H) (h3 : lo - H ≤ t) (h4 : t ≤ hi - L) : ∃ s, lo ≤ s ∧ s ≤ hi ∧ L ≤ s - t ∧ s - t ≤ H :=
  ⟨max lo (t + L), by omega, by omega, by omega, by omega⟩
section
variable {p : Pl} {l : List Nat}
theorem fw1 : fw p l 1 = (max (p.beg + pl p l 0) p.s0l, min (p.beg + ph p l 0) p.s0h) := rfl
theorem fw2 : fw p l 2 = (max ((fw p l 1).1 + pl p l 1) p.s1l, min ((fw p l 1).2 + ph p l 1) p.s1h) := rfl
theorem bw0 : bw p l 0 = (p.dl, p.dh) := rfl
theorem bw1 : bw p l 1 = (max p.s1l (p.dl - ph p l 2), min p.s1h (p.dh - pl p l 2)) := rfl
theorem bw2 : bw p l 2 = (max p.s0l ((bw p l 1).1 - ph p l 1), min p.s0h ((bw p l 1).2 - pl p l 1)) := rfl
theorem fit_rg {h : Hr} (f : FitH p l h) {k : Nat} (hk : k < 3) : Rg p l k (prH p h k).1 (prH p h k).2 := by
  obtain ⟨a, b, c⟩ := h
  obtain ⟨h1, h2, h3, h4, h5, h6, h7, h8, h9, h10, h11, h12⟩ := f
  simp only at h1 h2 h3 h4 h5 h6 h7 h8 h9 h10 h11 h12
  have f0 : fw p l 0 = (p.beg, p.beg) := rfl
  rcases k with _ | _ | _ | k
  · constructor <;> simp only [prH, if_true, f0, bw2, bw1, Nat.sub_zero] <;> omega
  · constructor <;> simp only [prH, if_true, fw1, bw1, Nat.reduceSub, Nat.reduceAdd, Nat.reduceEqDiff, if_false] <;> omega
  · constructor <;> simp only [prH, fw2, fw1, bw0, Nat.reduceSub, Nat.reduceAdd, Nat.reduceEqDiff, if_false] <;> omega
  · omega
theorem rg_fit (wp : WP p) (cv : CV p l) (hc : can p l = true) {k : Nat} (hk : k < 3) {x y : Int} (r : Rg p l k x y) : ∃ h, FitH p l h ∧ prH p h k = (x, y) := by
  obtain ⟨a', b', c', f⟩ := (can_fit wp cv).1 hc
  obtain ⟨h1, h2, h3, h4, h5, h6, h7, h8, h9, h10, h11, h12⟩ := f
  obtain ⟨x1, x2, y1, y2, d1, d2⟩ := r
  have q0 := pl_le wp cv 0; have q1 := pl_le wp cv 1; have q2 := pl_le wp cv 2
  have f0 : fw p l 0 = (p.beg, p.beg) := rfl
  rcases k with _ | _ | _ | k
  · simp only [f0, bw2, bw1, Nat.sub_zero] at x1 x2 y1 y2
    obtain ⟨b, b1, b2, b3, b4⟩ := pickF (lo := max p.s1l (p.dl - ph p l 2)) (hi := min p.s1h (p.dh - pl p l 2)) (t := y) (by omega) q1 (by omega) (by omega)
    obtain ⟨c, c1, c2, c3, c4⟩ := pickF (lo := p.dl) (hi := p.dh) (t := b) (by omega) q2 (by omega) (by omega)
    obtain rfl : x = p.beg := by omega
    exact ⟨(y, b, c), ⟨by simp only; omega, by simp only; omega, by simp only; omega, by simp only; omega, by simp only; omega, by simp only; omega, by simp only; omega, by simp only; omega, by simp only; omega, by simp only; omega, by simp only; omega, by simp only; omega⟩, rfl⟩
  · simp only [fw1, bw1, Nat.reduceSub, Nat.reduceAdd] at x1 x2 y1 y2 d1 d2
    obtain ⟨c, c1, c2, c3, c4⟩ := pickF (lo := p.dl) (hi := p.dh) (t := y) (by omega) q2 (by omega) (by omega)
    exact ⟨(x, y, c), ⟨by simp only; omega, by simp only; omega, by simp only; omega, by simp only; omega, by simp only; omega, by simp only; omega, by simp only; omega, by simp only; omega, by simp only; omega, by simp only; omega, by simp only; omega, by simp only; omega⟩, rfl⟩
  · simp only [fw2, fw1, bw0, Nat.reduceSub, Nat.reduceAdd] at x1 x2 y1 y2 d1 d2
    obtain ⟨a, a1, a2, a3, a4⟩ := pick (lo := max (p.beg + pl p l 0) p.s0l) (hi := min (p.beg + ph p l 0) p.s0h) (t := x) (by omega) q1 (by omega) (by omega)
    exact ⟨(a, x, y), ⟨by simp only; omega, by simp only; omega, by simp only; omega, by simp only; omega, by simp only; omega, by simp only; omega, by simp only; omega, by simp only; omega, by simp only; omega, by simp only; omega, by simp only; omega, by simp only; omega⟩, rfl⟩
  · omega
theorem rg_some (wp : WP p) (cv : CV p l) (hc : can p l = true) {k : Nat} (hk : k < 3) : (fw p l k).1 ≤ (fw p l k).2 ∧ (bw p l (2 - k)).1 ≤ (bw p l (2 - k)).2 ∧ pl p l k ≤ ph p l k ∧ pl p l k ≤ (bw p l (2 - k)).2 - (fw p l k).1 ∧ (bw p l (2 - k)).1 - (fw p l k).2 ≤ ph p l k := by
  obtain ⟨a', b', c', f⟩ := (can_fit wp cv).1 hc
  have r := fit_rg (h := (a', b', c')) f hk
  obtain ⟨x1, x2, y1, y2, d1, d2⟩ := r
  have := pl_le wp cv k
  omega
end
theorem wd_char : ∀ {vs : List (Int × Int)}, vs ≠ [] → (∃ v ∈ vs, v.1 = (wd vs).1) ∧ (∀ v ∈ vs, (wd vs).1 ≤ v.1) ∧ (∃ v ∈ vs, v.2 = (wd vs).2) ∧ (∀ v ∈ vs, v.2 ≤ (wd vs).2) := by
  intro vs
  generalize hn : vs.length = n
  induction n generalizing vs with
  | zero => intro h; exact absurd (List.length_eq_zero_iff.1 hn) h
  | succ n ih =>
    intro _
    have e : vs = vs.dropLast ++ [vs.getLast (by intro e; rw [e] at hn; cases hn)] := (List.dropLast_concat_getLast _).symm
    generalize vs.getLast (by intro e; rw [e] at hn; cases hn) = v at e
    generalize hw : vs.dropLast = ws at e
    have hl : ws.length = n := by rw [e, List.length_append] at hn; simpa using hn
    subst e
    by_cases h0 : ws = []
    · subst h0
      simp [wd]
    · obtain ⟨⟨u, u1, u2⟩, g1, ⟨w, w1, w2⟩, g2⟩ := ih hl h0
      rw [wd_app h0]
      refine ⟨?_, ?_, ?_, ?_⟩
      · simp only
        rcases Int.le_total (wd ws).1 v.1 with h | h
        · exact ⟨u, by simp [u1], by omega⟩
        · exact ⟨v, by simp, by omega⟩
      · intro x hx; simp only
        rcases List.mem_append.1 hx with hx | hx
        · have := g1 x hx; omega
        · simp only [List.mem_singleton] at hx; subst hx; omega
      · simp only
        rcases Int.le_total v.2 (wd ws).2 with h | h
        · exact ⟨w, by simp [w1], by omega⟩
        · exact ⟨v, by simp, by omega⟩
      · intro x hx; simp only
        rcases List.mem_append.1 hx with hx | hx
        · have := g2 x hx; omega
        · simp only [List.mem_singleton] at hx; subst hx; omega
theorem wd_flat {α β : Type} {L : List α} {hs : α → List β} {f : α → β → Int × Int} {g : α → Int × Int} (h : ∀ l ∈ L, Met (hs l) (f l) (g l)) :
    wd (L.flatMap fun l => (hs l).map (f l)) = wd (L.map g) := by
  by_cases h0 : L = []
  · subst h0; rfl
  · have hG : L.map g ≠ [] := by simpa using h0
    obtain ⟨x, hx⟩ := List.exists_mem_of_ne_nil _ h0
    obtain ⟨b, hb, _⟩ := (h x hx).low
    have hF : (L.flatMap fun l => (hs l).map (f l)) ≠ [] := fun e => by
      have : f x b ∈ (L.flatMap fun l => (hs l).map (f l)) := List.mem_flatMap.2 ⟨x, hx, List.mem_map.2 ⟨b, hb, rfl⟩⟩
      rw [e] at this; cases this
    obtain ⟨⟨u, u1, u2⟩, g1, ⟨w, w1, w2⟩, g2⟩ := wd_char hF
    obtain ⟨⟨u', u1', u2'⟩, g1', ⟨w', w1', w2'⟩, g2'⟩ := wd_char hG
    obtain ⟨lu, m1, m2⟩ := List.mem_flatMap.1 u1
    obtain ⟨bu, m3, rfl⟩ := List.mem_map.1 m2
    obtain ⟨lw, n1, n2⟩ := List.mem_flatMap.1 w1
    obtain ⟨bw, n3, rfl⟩ := List.mem_map.1 n2
    obtain ⟨lu', r1, rfl⟩ := List.mem_map.1 u1'
    obtain ⟨lw', s1, rfl⟩ := List.mem_map.1 w1'
    obtain ⟨b1, c1, c2⟩ := (h lu' r1).low
    obtain ⟨b2, d1, d2⟩ := (h lw' s1).high
    have k1 := g1 _ (List.mem_flatMap.2 ⟨lu', r1, List.mem_map.2 ⟨b1, c1, rfl⟩⟩)
    have k2 := g2 _ (List.mem_flatMap.2 ⟨lw', s1, List.mem_map.2 ⟨b2, d1, rfl⟩⟩)
    have k3 := (h lu m1).lows bu m3
    have k4 := (h lw n1).highs bw n3
    have k5 := g1' _ (List.mem_map.2 ⟨lu, m1, rfl⟩)
    have k6 := g2' _ (List.mem_map.2 ⟨lw, n1, rfl⟩)
    exact Prod.ext (by omega) (by omega)
section
variable {p : Pl} {l : List Nat} (wp : WP p) (cv : CV p l) (hc : can p l = true)
include wp cv hc
end
end Ni
namespace Go.Proofs.YtjghdbdiejaacaaGreatDoor
open Go Go.Ab Ni
section
variable [Tabs] {c : Ctx} {ops : Array Oper} {Q : AExit → St → Prop} {i : Nat} {rest : List Oper} {s : St} {d : Option Tmp} {x y z : Operand} {t : TypeId} {p : String} {af : Array Edge} {v : Value} {j u n : Nat} {want : Bool} {l : List (List AV)}
theorem pf (hd : dOK c.nt d = true) (hx : Less (s.op x) (.raw (.bool false))) (h : Less (s.op z) (.raw v)) (k : SeqWP c ops Q (i + 1) rest (s.put d (.raw v))) : SeqWP c ops Q i (⟨d, .pick x y z, t, p, af, none⟩ :: rest) s := sq_ev hd (ev_pickF hx h) k
theorem ysl (hj : gslot ops j = some u) (ht : Nat.blt u c.nt = true) (hb : Less (sget s.sl u) (.raw (.bool want))) (hd : dOK c.nt d = true) (h : Less (s.op x) (.sl n l)) (k : SeqWP c ops Q (i + 1) rest (s.put d (.sl n l))) : SeqWP c ops Q i (⟨d, .move x, t, p, af, some (j, want)⟩ :: rest) s := sq_yes hj ht hb hd (ev_mv h) k
theorem xtr {m : List AV} {w : AV} (hd : dOK c.nt d = true) (hx : Less (s.op x) (.tup m)) (hv : m[n]? = some w) (k : SeqWP c ops Q (i + 1) rest (s.put d w)) : SeqWP c ops Q i (⟨d, .extract x n, t, p, af, none⟩ :: rest) s := sq_ev hd (ev_extract hx hv) k
theorem mvs (hd : dOK c.nt d = true) (h : Less (s.op x) (.sl n l)) (k : SeqWP c ops Q (i + 1) rest (s.put d (.sl n l))) : SeqWP c ops Q i (⟨d, .move x, t, p, af, none⟩ :: rest) s := sq_ev hd (ev_mv h) k
theorem ass (hd : dOK c.nt d = true) (h : Less (s.op x) (.sl n l)) (k : SeqWP c ops Q (i + 1) rest (s.put d (.sl n l))) : SeqWP c ops Q i (⟨d, .assign x, t, p, af, none⟩ :: rest) s := sq_ev hd (ev_as h) k
theorem ymr (hj : gslot ops j = some u) (ht : Nat.blt u c.nt = true) (hb : Less (sget s.sl u) (.raw (.bool want))) (hd : dOK c.nt d = true) (h : Less (s.op x) (.raw v)) (k : SeqWP c ops Q (i + 1) rest (s.put d (.raw v))) : SeqWP c ops Q i (⟨d, .move x, t, p, af, some (j, want)⟩ :: rest) s := sq_yes hj ht hb hd (ev_mv h) k
end
theorem en35 : Ent Tryz.prog 35 := Ent.of Tryz.func35 (by kernel_rfl) rfl
theorem en62 : Ent Tryz.prog 62 := Ent.of Tryz.func62 (by kernel_rfl) rfl
theorem en89 : Ent Tryz.prog 89 := Ent.of Tryz.func89 (by kernel_rfl) rfl
theorem en90 : Ent Tryz.prog 90 := Ent.of Tryz.func90 (by kernel_rfl) rfl
theorem en91 : Ent Tryz.prog 91 := Ent.of Tryz.func91 (by kernel_rfl) rfl
theorem in_pure (n lo hi : Int) : APure Tryz.prog 89 [I n, I lo, I hi] (B (inn n lo hi)) := by
 refine apure_of (rs := [.tmp 6]) Tryz.func89 rfl rfl (Nat.le_of_ble_eq_true rfl) (by simp [AV.pureL, AV.pureB, AV.pureE, pureE_map]) (rfl) fun e0 he0 => ?_
 refine aw_seq (aw_region ?_)
 refine asr (lr _) rfl (sq_nil (aw_seq (aw_region ?_)))
 refine mvr (lr _) rfl (mvr (lr _) rfl (sq_ev rfl (ev_geq (lr _) (lr _)) ?_))
 refine mvr (lr _) rfl ?_
 refine sq_split 10 (lr _) (fun g1 => ?_) (fun g1 => ?_)
 ·
  have g1' := g1
  try simp only [qq] at g1'
  refine sq_yes rfl rfl (less_b g1) rfl (ev_mv (v := .raw _) (lr _)) ?_
  refine sq_yes rfl rfl (less_b g1) rfl (ev_mv (v := .raw _) (lr _)) ?_
  refine sq_yes rfl rfl (less_b g1) rfl (ev_leq (lr _) (lr _)) ?_
  refine sq_ev rfl (ev_pickT (v := .raw _) (less_b g1) (lr _)) ?_
  refine asr (lr _) rfl (sq_nil (aw_ret ?_))
  exact retQ_pure (v := .raw _) rfl rfl (Less.eq (by simp [inn, *]))
 ·
  have g1' := g1
  try simp only [qq] at g1'
  refine sq_no rfl rfl (less_b g1) rfl rfl ?_
  refine sq_no rfl rfl (less_b g1) rfl rfl ?_
  refine sq_no rfl rfl (less_b g1) rfl rfl ?_
  refine sq_ev rfl (ev_pickF (v := .raw _) (less_b g1) (lr _)) ?_
  refine asr (lr _) rfl (sq_nil (aw_ret ?_))
  exact retQ_pure (v := .raw _) rfl rfl (Less.eq (by simp [inn, *]))
theorem window_pure (lo hi : Int) : APure Tryz.prog 90 [.agg [I lo, I hi]] (B (wnd lo hi)) := by
 refine apure_of (rs := [.tmp 2]) Tryz.func90 rfl rfl (Nat.le_of_ble_eq_true rfl) (by simp [AV.pureL, AV.pureB, AV.pureE, pureE_map]) (rfl) fun e0 he0 => ?_
 refine aw_seq (aw_region ?_)
 refine sq_box rfl (lr _) rfl (asr (lr _) rfl (sq_nil (aw_seq (aw_region ?_))))
 refine sq_ev rfl (ev_fieldAddr fo23_0 (lr _)) ?_
 refine sq_ev rfl (ev_load (lr _) rfl ty3 rfl) ?_
 refine sq_ev rfl (ev_call en89 (lr _) (in_pure _ _ _) ⟨lr _, lr _, lr _, trivial⟩) ?_
 refine mvr (lr _) rfl ?_
 refine sq_split 6 (lr _) (fun g1 => ?_) (fun g1 => ?_)
 ·
  have g1' := g1
  try simp only [qq] at g1'
  refine sq_yes rfl rfl (less_b g1) rfl (ev_fieldAddr fo23_1 (lr _)) ?_
  refine sq_yes rfl rfl (less_b g1) rfl (ev_load (lr _) rfl ty3 rfl) ?_
  refine sq_yes rfl rfl (less_b g1) rfl (ev_fieldAddr fo23_0 (lr _)) ?_
  refine sq_yes rfl rfl (less_b g1) rfl (ev_load (lr _) rfl ty3 rfl) ?_
  refine sq_yes rfl rfl (less_b g1) rfl (ev_call en89 (lr _) (in_pure _ _ _) ⟨lr _, lr _, lr _, trivial⟩) ?_
  refine sq_ev rfl (ev_pickT (v := .raw _) (less_b g1) (lr _)) ?_
  refine mvr (lr _) rfl ?_
  refine sq_split 13 (lr _) (fun g2 => ?_) (fun g2 => ?_)
  ·
   have g2' := g2
   try simp only [qq] at g2'
   simp only [inn, Bool.and_eq_true, decide_eq_true_eq] at g1' g2'
   refine sq_yes rfl rfl (less_b g2) rfl (ev_fieldAddr fo23_1 (lr _)) ?_
   refine sq_yes rfl rfl (less_b g2) rfl (ev_load (lr _) rfl ty3 rfl) ?_
   refine sq_yes rfl rfl (less_b g2) rfl (ev_fieldAddr fo23_0 (lr _)) ?_
   refine sq_yes rfl rfl (less_b g2) rfl (ev_load (lr _) rfl ty3 rfl) ?_
   refine sq_yes rfl rfl (less_b g2) rfl (ev_sub (lr _) (lr _) (wr (by omega) (by omega))) ?_
   refine sq_yes rfl rfl (less_b g2) rfl (ev_leq (lr _) (lr _)) ?_
   refine sq_ev rfl (ev_pickT (v := .raw _) (less_b g2) (lr _)) ?_
   refine asr (lr _) rfl (sq_nil (aw_ret ?_))
   exact retQ_pure (v := .raw _) rfl rfl (Less.eq (by simp [wnd, *]))
  ·
   have g2' := g2
   try simp only [qq] at g2'
   refine sq_no rfl rfl (less_b g2) rfl rfl ?_
   refine sq_no rfl rfl (less_b g2) rfl rfl ?_
   refine sq_no rfl rfl (less_b g2) rfl rfl ?_
   refine sq_no rfl rfl (less_b g2) rfl rfl ?_
   refine sq_no rfl rfl (less_b g2) rfl rfl ?_
   refine sq_no rfl rfl (less_b g2) rfl rfl ?_
   refine sq_ev rfl (ev_pickF (v := .raw _) (less_b g2) (lr _)) ?_
   refine asr (lr _) rfl (sq_nil (aw_ret ?_))
   exact retQ_pure (v := .raw _) rfl rfl (Less.eq (by simp [wnd, *]))
 ·
  have g1' := g1
  try simp only [qq] at g1'
  refine sq_no rfl rfl (less_b g1) rfl rfl ?_
  refine sq_no rfl rfl (less_b g1) rfl rfl ?_
  refine sq_no rfl rfl (less_b g1) rfl rfl ?_
  refine sq_no rfl rfl (less_b g1) rfl rfl ?_
  refine sq_no rfl rfl (less_b g1) rfl rfl ?_
  refine sq_ev rfl (ev_pickF (v := .raw _) (less_b g1) (lr _)) ?_
  refine mvr (lr _) rfl (sq_no rfl rfl (lr _) rfl rfl (sq_no rfl rfl (lr _) rfl rfl (sq_no rfl rfl (lr _) rfl rfl ?_)))
  refine sq_no rfl rfl (lr _) rfl rfl (sq_no rfl rfl (lr _) rfl rfl (sq_no rfl rfl (lr _) rfl rfl (pf rfl (lr _) (lr _) (asr (lr _) rfl (sq_nil (aw_ret ?_))))))
  exact retQ_pure (v := .raw _) rfl rfl (Less.eq (by simp [wnd, *]))
theorem scenes_pure (p : Pl) (hl : p.scenes.length ≤ 1000000) : APure Tryz.prog 91 [plan p] (B (decide (ScOK p.scenes))) := by
 refine apure_of (rs := [.tmp 2]) Tryz.func91 rfl rfl (Nat.le_of_ble_eq_true rfl) (by simp [AV.pureL, AV.pureB, AV.pureE, pureE_map]) (rfl) fun e0 he0 => ?_
 refine aw_seq (aw_region ?_)
 refine sq_box rfl (lr _) rfl (asr (lr _) rfl (sq_nil (aw_seq (aw_region ?_))))
 refine asr (lr _) rfl (sq_nil (aw_seq (aw_seq (aw_region ?_))))
 refine asr (lr _) rfl (sq_nil (aw_block ?_))
 refine aw_loopk (ι := { k : Nat // k ≤ p.scenes.length ∧ ∀ i, (h : i < p.scenes.length) → i < k → scBad p.scenes i h = false }) [1] (fun i => [(3, I (loosies (p.scenes.take i.1))), (4, I i.1)]) (fun H i => H) (fun i => p.scenes.length - i.1) (⟨0, Nat.zero_le _, by omega⟩) ⟨lr _, lr _, lr _, trivial⟩ rfl ?_
 rintro ⟨k, hk, hok⟩
 dsimp only [keepS, St.put, sget, slotsOf, List.map_cons, List.map_nil, List.cons_append, List.nil_append, List.length_cons, List.length_nil, Nat.reduceBEq, Nat.reduceAdd, cond_true, cond_false]
 have hlo := loosies_le (p.scenes.take k)
 have hlt := List.length_take_le k p.scenes
 refine aw_seq (aw_seq (aw_region ?_))
 refine mvr (lr _) rfl (sq_ev rfl (ev_fieldAddr fo27_3 (lr _)) ?_)
 refine sq_ev rfl (ev_load (lr _) rfl ty25 rfl) ?_
 refine sq_ev rfl (ev_len_map sl25 (lr _)) ?_
 refine sq_ev rfl (ev_lss (lr _) (lr _)) ?_
 refine sq_nil ?_
 refine aw_cond (lr _) (fun c1 => ?_) (fun c1 => ?_)
 ·
  have c1' := c1
  try simp only [qq] at c1'
  refine aw_skip (aw_seq (aw_block (aw_seq (aw_region ?_))))
  refine sq_ev rfl (ev_fieldAddr fo27_3 (lr _)) ?_
  refine sq_ev rfl (ev_load (lr _) rfl ty25 rfl) ?_
  refine mvr (lr _) rfl (sq_ev rfl (ev_index_map sl25 (lr _) (lr _) rfl (by omega)) ?_)
  refine sq_ev rfl (ev_load_agg_i (lr _) ty84 (Nat.le_of_ble_eq_true rfl)) ?_
  refine sq_alloc rfl z84 ?_
  refine sq_store rfl (lr _) (lr _) rfl rfl ty84 rfl rfl ?_
  refine sq_nil (aw_seq (aw_seq ?_))
  refine aw_draw 50 mo (by kernel_rfl) ?_
  refine dr_ev rfl (ev_fieldAddr fo84_0 (lr _)) ?_
  refine dr_ev rfl (ev_load (lr _) rfl ty3 rfl) ?_
  refine dr_ev rfl (ev_call en89 (lr _) (in_pure _ _ _) ⟨lr _, lr _, lr _, trivial⟩) ?_
  refine dr_ev rfl (ev_not (lr _)) ?_
  refine dr_ev rfl (ev_mv (v := .raw _) (lr _)) ?_
  refine dr_split 22 (lr _) (fun g2 => ?_) (fun g2 => ?_)
  ·
   have g2' := g2
   try simp only [qq] at g2'
   refine dr_no rfl rfl (less_b g2) rfl rfl ?_
   refine dr_no rfl rfl (less_b g2) rfl rfl ?_
   refine dr_no rfl rfl (less_b g2) rfl rfl ?_
   refine dr_no rfl rfl (lr _) rfl rfl (dr_no rfl rfl (lr _) rfl rfl (dr_no rfl rfl (lr _) rfl rfl (dr_no rfl rfl (lr _) rfl rfl ?_)))
   refine dr_no rfl rfl (lr _) rfl rfl (dr_no rfl rfl (lr _) rfl rfl (dr_no rfl rfl (lr _) rfl rfl (dr_no rfl rfl (lr _) rfl rfl (dr_no rfl rfl (lr _) rfl rfl (dr_no rfl rfl (lr _) rfl rfl (dr_no rfl rfl (less_b g2) rfl rfl ?_))))))
   refine dr_ev rfl (ev_pickT (v := .raw _) (less_b g2) (lr _)) ?_
   refine dr_ev rfl (ev_mv (v := .raw _) (lr _)) ?_
   refine dr_no rfl rfl (lr _) rfl rfl (dr_no rfl rfl (lr _) rfl rfl (dr_no rfl rfl (lr _) rfl rfl (dr_no rfl rfl (lr _) rfl rfl ?_)))
   refine dr_ev rfl (ev_pickT (v := .raw _) (lr _) (lr _)) ?_
   refine dr_ev rfl (ev_mv (v := .raw _) (lr _)) ?_
   refine dr_no rfl rfl (lr _) rfl rfl (dr_no rfl rfl (lr _) rfl rfl (dr_no rfl rfl (lr _) rfl rfl (dr_no rfl rfl (lr _) rfl rfl (dr_no rfl rfl (lr _) rfl rfl (dr_no rfl rfl (lr _) rfl rfl ?_)))))
   refine dr_ev rfl (ev_pickT (v := .raw _) (lr _) (lr _)) ?_
   refine dr_ev rfl (ev_mv (v := .raw _) (lr _)) ?_
   refine dr_no rfl rfl (lr _) rfl rfl ?_
   refine dr_no rfl rfl (lr _) rfl rfl (dr_no rfl rfl (lr _) rfl rfl (dr_no rfl rfl (lr _) rfl rfl (dr_no rfl rfl (lr _) rfl rfl (dr_no rfl rfl (lr _) rfl rfl (dr_no rfl rfl (lr _) rfl rfl (dr_no rfl rfl (lr _) rfl rfl ?_))))))
   refine dr_ev rfl (ev_pickT (v := .raw _) (lr _) (lr _)) ?_
   refine dr_ev rfl (ev_mv (v := .raw _) (lr _)) ?_
   refine dr_no rfl rfl (lr _) rfl rfl (dr_no rfl rfl (lr _) rfl rfl (dr_no rfl rfl (lr _) rfl rfl (dr_no rfl rfl (lr _) rfl rfl ?_)))
   refine dr_ev rfl (ev_pickT (v := .raw _) (lr _) (lr _)) ?_
   refine dr_end (sq_nil ?_)
   refine aw_true (lr _) ?_
   refine aw_seq (aw_region ?_)
   refine asr (lr _) rfl (sq_nil (aw_ret ?_))
   exact retQ_pure (v := .raw _) rfl rfl (Less.eq (by rw [scOK_bad (i := k) (by omega) (by simp [scBad, *])]))
  ·
   have g2' := g2
   try simp only [qq] at g2'
   refine dr_yes rfl rfl (less_b g2) rfl (ev_mv (v := .raw _) (lr _)) ?_
   refine dr_yes rfl rfl (less_b g2) rfl (ev_gtr (lr _) (lr _)) ?_
   refine dr_yes rfl rfl (less_b g2) rfl (ev_mv (v := .raw _) (lr _)) ?_
   refine dr_split 25 (lr _) (fun g3 => ?_) (fun g3 => ?_)
   ·
    have g3' := g3
    try simp only [qq] at g3'
    have g3n : 0 < k := by omega
    refine dr_yes rfl rfl (less_b g3) rfl (ev_fieldAddr fo84_0 (lr _)) ?_
    refine dr_yes rfl rfl (less_b g3) rfl (ev_load (lr _) rfl ty3 rfl) ?_
    refine dr_yes rfl rfl (less_b g3) rfl (ev_fieldAddr fo27_3 (lr _)) ?_
    refine dr_yes rfl rfl (less_b g3) rfl (ev_load (lr _) rfl ty25 rfl) ?_
    refine dr_yes rfl rfl (less_b g3) rfl (ev_mv (v := .raw _) (lr _)) ?_
    refine dr_yes rfl rfl (less_b g3) rfl (ev_sub (lr _) (lr _) (wr (by omega) (by omega))) ?_
    refine dr_yes rfl rfl (less_b g3) rfl (ev_index_map sl25 (lr _) (lr _) (show ((k : Int) - 1) = ((k - 1 : Nat) : Int) by omega) (by omega)) ?_
    refine dr_yes rfl rfl (less_b g3) rfl (ev_fieldAddr_i fo84_0 (lr _)) ?_
    refine dr_yes rfl rfl (less_b g3) rfl (ev_load_i (lr _) ty3 rfl) ?_
    refine dr_yes rfl rfl (less_b g3) rfl (ev_lss (lr _) (lr _)) ?_
    refine dr_yes rfl rfl (less_b g2) rfl (ev_pickT (v := .raw _) (less_b g3) (lr _)) ?_
    refine dr_ev rfl (ev_pickF (v := .raw _) (less_b g2) (lr _)) ?_
    refine dr_ev rfl (ev_mv (v := .raw _) (lr _)) ?_
    refine dr_split 38 (lr _) (fun g4 => ?_) (fun g4 => ?_)
    ·
     have g4' := g4
     try simp only [qq] at g4'
     refine dr_no rfl rfl (less_b g4) rfl rfl ?_
     refine dr_no rfl rfl (less_b g4) rfl rfl ?_
     refine dr_no rfl rfl (less_b g4) rfl rfl ?_
     refine dr_no rfl rfl (less_b g4) rfl rfl ?_
     refine dr_ev rfl (ev_pickT (v := .raw _) (less_b g4) (lr _)) ?_
     refine dr_ev rfl (ev_mv (v := .raw _) (lr _)) ?_
     refine dr_no rfl rfl (lr _) rfl rfl (dr_no rfl rfl (lr _) rfl rfl (dr_no rfl rfl (lr _) rfl rfl (dr_no rfl rfl (lr _) rfl rfl (dr_no rfl rfl (lr _) rfl rfl (dr_no rfl rfl (lr _) rfl rfl ?_)))))
     refine dr_ev rfl (ev_pickT (v := .raw _) (lr _) (lr _)) ?_
     refine dr_ev rfl (ev_mv (v := .raw _) (lr _)) ?_
     refine dr_no rfl rfl (lr _) rfl rfl ?_
     refine dr_no rfl rfl (lr _) rfl rfl (dr_no rfl rfl (lr _) rfl rfl (dr_no rfl rfl (lr _) rfl rfl (dr_no rfl rfl (lr _) rfl rfl (dr_no rfl rfl (lr _) rfl rfl (dr_no rfl rfl (lr _) rfl rfl (dr_no rfl rfl (lr _) rfl rfl ?_))))))
     refine dr_ev rfl (ev_pickT (v := .raw _) (lr _) (lr _)) ?_
     refine dr_ev rfl (ev_mv (v := .raw _) (lr _)) ?_
     refine dr_no rfl rfl (lr _) rfl rfl (dr_no rfl rfl (lr _) rfl rfl (dr_no rfl rfl (lr _) rfl rfl (dr_no rfl rfl (lr _) rfl rfl ?_)))
     refine dr_ev rfl (ev_pickT (v := .raw _) (lr _) (lr _)) ?_
     refine dr_end (sq_nil ?_)
     refine aw_true (lr _) ?_
     refine aw_seq (aw_region ?_)
     refine asr (lr _) rfl (sq_nil (aw_ret ?_))
     exact retQ_pure (v := .raw _) rfl rfl (Less.eq (by rw [scOK_bad (i := k) (by omega) (by simp [scBad, *])]))
    ·
     have g4' := g4
     try simp only [qq] at g4'
     refine dr_yes rfl rfl (less_b g4) rfl (ev_fieldAddr fo84_1 (lr _)) ?_
     refine dr_yes rfl rfl (less_b g4) rfl (ev_load (lr _) rfl ty3 rfl) ?_
     refine dr_yes rfl rfl (less_b g4) rfl (ev_call en89 (lr _) (in_pure _ _ _) ⟨lr _, lr _, lr _, trivial⟩) ?_
     refine dr_yes rfl rfl (less_b g4) rfl (ev_not (lr _)) ?_
     refine dr_ev rfl (ev_pickF (v := .raw _) (less_b g4) (lr _)) ?_
     refine dr_ev rfl (ev_mv (v := .raw _) (lr _)) ?_
     refine dr_split 44 (lr _) (fun g5 => ?_) (fun g5 => ?_)
     ·
      have g5' := g5
      try simp only [qq] at g5'
      refine dr_no rfl rfl (less_b g5) rfl rfl ?_
      refine dr_no rfl rfl (less_b g5) rfl rfl ?_
      refine dr_no rfl rfl (less_b g5) rfl rfl ?_
      refine dr_no rfl rfl (less_b g5) rfl rfl ?_
      refine dr_no rfl rfl (less_b g5) rfl rfl ?_
      refine dr_no rfl rfl (less_b g5) rfl rfl ?_
      refine dr_ev rfl (ev_pickT (v := .raw _) (less_b g5) (lr _)) ?_
      refine dr_ev rfl (ev_mv (v := .raw _) (lr _)) ?_
      refine dr_no rfl rfl (lr _) rfl rfl ?_
      refine dr_no rfl rfl (lr _) rfl rfl (dr_no rfl rfl (lr _) rfl rfl (dr_no rfl rfl (lr _) rfl rfl (dr_no rfl rfl (lr _) rfl rfl (dr_no rfl rfl (lr _) rfl rfl (dr_no rfl rfl (lr _) rfl rfl (dr_no rfl rfl (lr _) rfl rfl ?_))))))
      refine dr_ev rfl (ev_pickT (v := .raw _) (lr _) (lr _)) ?_
      refine dr_ev rfl (ev_mv (v := .raw _) (lr _)) ?_
      refine dr_no rfl rfl (lr _) rfl rfl (dr_no rfl rfl (lr _) rfl rfl (dr_no rfl rfl (lr _) rfl rfl (dr_no rfl rfl (lr _) rfl rfl ?_)))
      refine dr_ev rfl (ev_pickT (v := .raw _) (lr _) (lr _)) ?_
      refine dr_end (sq_nil ?_)
      refine aw_true (lr _) ?_
      refine aw_seq (aw_region ?_)
      refine asr (lr _) rfl (sq_nil (aw_ret ?_))
      exact retQ_pure (v := .raw _) rfl rfl (Less.eq (by rw [scOK_bad (i := k) (by omega) (by simp [scBad, *])]))
     ·
      have g5' := g5
      try simp only [qq] at g5'
      refine dr_yes rfl rfl (less_b g5) rfl (ev_fieldAddr fo84_2 (lr _)) ?_
      refine dr_yes rfl rfl (less_b g5) rfl (ev_load (lr _) rfl ty3 rfl) ?_
      refine dr_yes rfl rfl (less_b g5) rfl (ev_fieldAddr fo84_1 (lr _)) ?_
      refine dr_yes rfl rfl (less_b g5) rfl (ev_load (lr _) rfl ty3 rfl) ?_
      refine dr_yes rfl rfl (less_b g5) rfl (ev_call en89 (lr _) (in_pure _ _ _) ⟨lr _, lr _, lr _, trivial⟩) ?_
      refine dr_yes rfl rfl (less_b g5) rfl (ev_not (lr _)) ?_
      refine dr_ev rfl (ev_pickF (v := .raw _) (less_b g5) (lr _)) ?_
      refine dr_ev rfl (ev_mv (v := .raw _) (lr _)) ?_
      refine dr_split 52 (lr _) (fun g6 => ?_) (fun g6 => ?_)
      ·
       have g6' := g6
       try simp only [qq] at g6'
       refine dr_no rfl rfl (less_b g6) rfl rfl ?_
       refine dr_no rfl rfl (less_b g6) rfl rfl ?_
       refine dr_no rfl rfl (less_b g6) rfl rfl ?_
       refine dr_no rfl rfl (less_b g6) rfl rfl ?_
       refine dr_no rfl rfl (less_b g6) rfl rfl ?_
       refine dr_no rfl rfl (less_b g6) rfl rfl ?_
       refine dr_no rfl rfl (less_b g6) rfl rfl ?_
       refine dr_no rfl rfl (less_b g6) rfl rfl ?_
       refine dr_ev rfl (ev_pickT (v := .raw _) (less_b g6) (lr _)) ?_
       refine dr_ev rfl (ev_mv (v := .raw _) (lr _)) ?_
       refine dr_no rfl rfl (lr _) rfl rfl (dr_no rfl rfl (lr _) rfl rfl (dr_no rfl rfl (lr _) rfl rfl (dr_no rfl rfl (lr _) rfl rfl ?_)))
       refine dr_ev rfl (ev_pickT (v := .raw _) (lr _) (lr _)) ?_
       refine dr_end (sq_nil ?_)
       refine aw_true (lr _) ?_
       refine aw_seq (aw_region ?_)
       refine asr (lr _) rfl (sq_nil (aw_ret ?_))
       exact retQ_pure (v := .raw _) rfl rfl (Less.eq (by rw [scOK_bad (i := k) (by omega) (by simp [scBad, *])]))
      ·
       have g6' := g6
       try simp only [qq] at g6'
       refine dr_yes rfl rfl (less_b g6) rfl (ev_fieldAddr fo84_4 (lr _)) ?_
       refine dr_yes rfl rfl (less_b g6) rfl (ev_load (lr _) rfl ty3 rfl) ?_
       refine dr_yes rfl rfl (less_b g6) rfl (ev_fieldAddr fo27_3 (lr _)) ?_
       refine dr_yes rfl rfl (less_b g6) rfl (ev_load (lr _) rfl ty25 rfl) ?_
       refine dr_yes rfl rfl (less_b g6) rfl (ev_len_map sl25 (lr _)) ?_
       refine dr_yes rfl rfl (less_b g6) rfl (ev_sub (lr _) (lr _) (wr (by omega) (by omega))) ?_
       refine dr_yes rfl rfl (less_b g6) rfl (ev_call en89 (lr _) (in_pure _ _ _) ⟨lr _, lr _, lr _, trivial⟩) ?_
       refine dr_yes rfl rfl (less_b g6) rfl (ev_not (lr _)) ?_
       refine dr_ev rfl (ev_pickF (v := .raw _) (less_b g6) (lr _)) ?_
       refine dr_ev rfl (ev_mv (v := .raw _) (lr _)) ?_
       refine dr_split 62 (lr _) (fun g7 => ?_) (fun g7 => ?_)
       ·
        have g7' := g7
        try simp only [qq] at g7'
        refine dr_no rfl rfl (less_b g7) rfl rfl ?_
        refine dr_no rfl rfl (less_b g7) rfl rfl ?_
        refine dr_no rfl rfl (less_b g7) rfl rfl ?_
        refine dr_no rfl rfl (less_b g7) rfl rfl ?_
        refine dr_ev rfl (ev_pickT (v := .raw _) (less_b g7) (lr _)) ?_
        refine dr_end (sq_nil ?_)
        refine aw_true (lr _) ?_
        refine aw_seq (aw_region ?_)
        refine asr (lr _) rfl (sq_nil (aw_ret ?_))
        exact retQ_pure (v := .raw _) rfl rfl (Less.eq (by rw [scOK_bad (i := k) (by omega) (by simp [scBad, *])]))
       ·
        have g7' := g7
        try simp only [qq] at g7'
        refine dr_yes rfl rfl (less_b g7) rfl (ev_fieldAddr fo84_4 (lr _)) ?_
        refine dr_yes rfl rfl (less_b g7) rfl (ev_load (lr _) rfl ty3 rfl) ?_
        refine dr_yes rfl rfl (less_b g7) rfl (ev_mv (v := .raw _) (lr _)) ?_
        refine dr_yes rfl rfl (less_b g7) rfl (ev_eql (lr _) (lr _)) ?_
        refine dr_ev rfl (ev_pickF (v := .raw _) (less_b g7) (lr _)) ?_
        refine dr_end (sq_nil ?_)
        refine aw_cond (lr _) (fun c8 => ?_) (fun c8 => ?_)
        ·
         have c8' := c8
         try simp only [qq] at c8'
         refine aw_seq (aw_region ?_)
         refine asr (lr _) rfl (sq_nil (aw_ret ?_))
         exact retQ_pure (v := .raw _) rfl rfl (Less.eq (by rw [scOK_bad (i := k) (by omega) (by simp [scBad, *])]))
        ·
         have c8' := c8
         try simp only [qq] at c8'
         refine aw_skip (aw_seq (aw_region ?_))
         refine sq_ev rfl (ev_fieldAddr fo84_3 (lr _)) ?_
         refine sq_ev rfl (ev_load (lr _) rfl ty4 rfl) ?_
         refine sq_nil ?_
         refine aw_cond (lr _) (fun c9 => ?_) (fun c9 => ?_)
         ·
          have c9' := c9
          try simp only [qq] at c9'
          refine aw_region ?_
          refine mvr (lr _) rfl (sq_ev rfl (ev_add (lr _) (lr _) (wr (by omega) (by omega))) ?_)
          refine asr (lr _) rfl (sq_nil (aw_region ?_))
          refine mvr (lr _) rfl (sq_ev rfl (ev_add (lr _) (lr _) (wr (by omega) (by omega))) ?_)
          refine asr (lr _) rfl (sq_nil ?_)
          have hstep := loosies_take (l := p.scenes) (k := k) (by omega)
          have hgood : scBad p.scenes k (by omega) = false := by simp [scBad, *]
          exact ⟨⟨k + 1, by omega, fun i h hi => (by by_cases e : i = k; (subst e; exact hgood); exact hok i h (by omega))⟩, by simp only; omega, Sub.fin 1 ⟨less_int (by rw [hstep]; simp [*]), lr _, lr _, trivial⟩ rfl (by simp [slotsIn, objsIn, sget, keepS, AObj.inB, AV.inB, AV.inL, AV.inE, inE_map]) (by simp [slotsIn, objsIn, sget, keepS, AObj.inB, AV.inB, AV.inL, AV.inE, inE_map]) (by simp [he0])⟩
         ·
          have c9' := c9
          try simp only [qq] at c9'
          refine aw_skip (aw_region ?_)
          refine mvr (lr _) rfl (sq_ev rfl (ev_add (lr _) (lr _) (wr (by omega) (by omega))) ?_)
          refine asr (lr _) rfl (sq_nil ?_)
          have hstep := loosies_take (l := p.scenes) (k := k) (by omega)
          have hgood : scBad p.scenes k (by omega) = false := by simp [scBad, *]
          exact ⟨⟨k + 1, by omega, fun i h hi => (by by_cases e : i = k; (subst e; exact hgood); exact hok i h (by omega))⟩, by simp only; omega, Sub.fin 1 ⟨less_int (by rw [hstep]; simp [*]), lr _, lr _, trivial⟩ rfl (by simp [slotsIn, objsIn, sget, keepS, AObj.inB, AV.inB, AV.inL, AV.inE, inE_map]) (by simp [slotsIn, objsIn, sget, keepS, AObj.inB, AV.inB, AV.inL, AV.inE, inE_map]) (by simp [he0])⟩
   ·
    have g3' := g3
    try simp only [qq] at g3'
    have g3n : ¬ (0 < k) := by omega
    refine dr_no rfl rfl (less_b g3) rfl rfl ?_
    refine dr_no rfl rfl (less_b g3) rfl rfl ?_
    refine dr_no rfl rfl (less_b g3) rfl rfl ?_
    refine dr_no rfl rfl (less_b g3) rfl rfl ?_
    refine dr_no rfl rfl (less_b g3) rfl rfl ?_
    refine dr_no rfl rfl (less_b g3) rfl rfl ?_
    refine dr_no rfl rfl (less_b g3) rfl rfl ?_
    refine dr_no rfl rfl (less_b g3) rfl rfl ?_
    refine dr_no rfl rfl (less_b g3) rfl rfl ?_
    refine dr_no rfl rfl (less_b g3) rfl rfl ?_
    refine dr_yes rfl rfl (less_b g2) rfl (ev_pickF (v := .raw _) (less_b g3) (lr _)) ?_
    refine dr_ev rfl (ev_pickF (v := .raw _) (less_b g2) (lr _)) ?_
    refine dr_ev rfl (ev_mv (v := .raw _) (lr _)) ?_
    refine dr_yes rfl rfl (lr _) rfl (ev_fieldAddr fo84_1 (lr _)) ?_
    refine dr_yes rfl rfl (lr _) rfl (ev_load (lr _) rfl ty3 rfl) ?_
    refine dr_yes rfl rfl (lr _) rfl (ev_call en89 (lr _) (in_pure _ _ _) ⟨lr _, lr _, lr _, trivial⟩) ?_
    refine dr_yes rfl rfl (lr _) rfl (ev_not (lr _)) ?_
    refine dr_ev rfl (ev_pickF (v := .raw _) (lr _) (lr _)) ?_
    refine dr_ev rfl (ev_mv (v := .raw _) (lr _)) ?_
    refine dr_split 44 (lr _) (fun g10 => ?_) (fun g10 => ?_)
    ·
     have g10' := g10
     try simp only [qq] at g10'
     refine dr_no rfl rfl (less_b g10) rfl rfl ?_
     refine dr_no rfl rfl (less_b g10) rfl rfl ?_
     refine dr_no rfl rfl (less_b g10) rfl rfl ?_
     refine dr_no rfl rfl (less_b g10) rfl rfl ?_
     refine dr_no rfl rfl (less_b g10) rfl rfl ?_
     refine dr_no rfl rfl (less_b g10) rfl rfl ?_
     refine dr_ev rfl (ev_pickT (v := .raw _) (less_b g10) (lr _)) ?_
     refine dr_ev rfl (ev_mv (v := .raw _) (lr _)) ?_
     refine dr_no rfl rfl (lr _) rfl rfl ?_
     refine dr_no rfl rfl (lr _) rfl rfl (dr_no rfl rfl (lr _) rfl rfl (dr_no rfl rfl (lr _) rfl rfl (dr_no rfl rfl (lr _) rfl rfl (dr_no rfl rfl (lr _) rfl rfl (dr_no rfl rfl (lr _) rfl rfl (dr_no rfl rfl (lr _) rfl rfl ?_))))))
     refine dr_ev rfl (ev_pickT (v := .raw _) (lr _) (lr _)) ?_
     refine dr_ev rfl (ev_mv (v := .raw _) (lr _)) ?_
     refine dr_no rfl rfl (lr _) rfl rfl (dr_no rfl rfl (lr _) rfl rfl (dr_no rfl rfl (lr _) rfl rfl (dr_no rfl rfl (lr _) rfl rfl ?_)))
     refine dr_ev rfl (ev_pickT (v := .raw _) (lr _) (lr _)) ?_
     refine dr_end (sq_nil ?_)
     refine aw_true (lr _) ?_
     refine aw_seq (aw_region ?_)
     refine asr (lr _) rfl (sq_nil (aw_ret ?_))
     exact retQ_pure (v := .raw _) rfl rfl (Less.eq (by rw [scOK_bad (i := k) (by omega) (by simp [scBad, *])]))
    ·
     have g10' := g10
     try simp only [qq] at g10'
     refine dr_yes rfl rfl (less_b g10) rfl (ev_fieldAddr fo84_2 (lr _)) ?_
     refine dr_yes rfl rfl (less_b g10) rfl (ev_load (lr _) rfl ty3 rfl) ?_
     refine dr_yes rfl rfl (less_b g10) rfl (ev_fieldAddr fo84_1 (lr _)) ?_
     refine dr_yes rfl rfl (less_b g10) rfl (ev_load (lr _) rfl ty3 rfl) ?_
     refine dr_yes rfl rfl (less_b g10) rfl (ev_call en89 (lr _) (in_pure _ _ _) ⟨lr _, lr _, lr _, trivial⟩) ?_
     refine dr_yes rfl rfl (less_b g10) rfl (ev_not (lr _)) ?_
     refine dr_ev rfl (ev_pickF (v := .raw _) (less_b g10) (lr _)) ?_
     refine dr_ev rfl (ev_mv (v := .raw _) (lr _)) ?_
     refine dr_split 52 (lr _) (fun g11 => ?_) (fun g11 => ?_)
     ·
      have g11' := g11
      try simp only [qq] at g11'
      refine dr_no rfl rfl (less_b g11) rfl rfl ?_
      refine dr_no rfl rfl (less_b g11) rfl rfl ?_
      refine dr_no rfl rfl (less_b g11) rfl rfl ?_
      refine dr_no rfl rfl (less_b g11) rfl rfl ?_
      refine dr_no rfl rfl (less_b g11) rfl rfl ?_
      refine dr_no rfl rfl (less_b g11) rfl rfl ?_
      refine dr_no rfl rfl (less_b g11) rfl rfl ?_
      refine dr_no rfl rfl (less_b g11) rfl rfl ?_
      refine dr_ev rfl (ev_pickT (v := .raw _) (less_b g11) (lr _)) ?_
      refine dr_ev rfl (ev_mv (v := .raw _) (lr _)) ?_
      refine dr_no rfl rfl (lr _) rfl rfl (dr_no rfl rfl (lr _) rfl rfl (dr_no rfl rfl (lr _) rfl rfl (dr_no rfl rfl (lr _) rfl rfl ?_)))
      refine dr_ev rfl (ev_pickT (v := .raw _) (lr _) (lr _)) ?_
      refine dr_end (sq_nil ?_)
      refine aw_true (lr _) ?_
      refine aw_seq (aw_region ?_)
      refine asr (lr _) rfl (sq_nil (aw_ret ?_))
      exact retQ_pure (v := .raw _) rfl rfl (Less.eq (by rw [scOK_bad (i := k) (by omega) (by simp [scBad, *])]))
     ·
      have g11' := g11
      try simp only [qq] at g11'
      refine dr_yes rfl rfl (less_b g11) rfl (ev_fieldAddr fo84_4 (lr _)) ?_
      refine dr_yes rfl rfl (less_b g11) rfl (ev_load (lr _) rfl ty3 rfl) ?_
      refine dr_yes rfl rfl (less_b g11) rfl (ev_fieldAddr fo27_3 (lr _)) ?_
      refine dr_yes rfl rfl (less_b g11) rfl (ev_load (lr _) rfl ty25 rfl) ?_
      refine dr_yes rfl rfl (less_b g11) rfl (ev_len_map sl25 (lr _)) ?_
      refine dr_yes rfl rfl (less_b g11) rfl (ev_sub (lr _) (lr _) (wr (by omega) (by omega))) ?_
      refine dr_yes rfl rfl (less_b g11) rfl (ev_call en89 (lr _) (in_pure _ _ _) ⟨lr _, lr _, lr _, trivial⟩) ?_
      refine dr_yes rfl rfl (less_b g11) rfl (ev_not (lr _)) ?_
      refine dr_ev rfl (ev_pickF (v := .raw _) (less_b g11) (lr _)) ?_
      refine dr_ev rfl (ev_mv (v := .raw _) (lr _)) ?_
      refine dr_split 62 (lr _) (fun g12 => ?_) (fun g12 => ?_)
      ·
       have g12' := g12
       try simp only [qq] at g12'
       refine dr_no rfl rfl (less_b g12) rfl rfl ?_
       refine dr_no rfl rfl (less_b g12) rfl rfl ?_
       refine dr_no rfl rfl (less_b g12) rfl rfl ?_
       refine dr_no rfl rfl (less_b g12) rfl rfl ?_
       refine dr_ev rfl (ev_pickT (v := .raw _) (less_b g12) (lr _)) ?_
       refine dr_end (sq_nil ?_)
       refine aw_true (lr _) ?_
       refine aw_seq (aw_region ?_)
       refine asr (lr _) rfl (sq_nil (aw_ret ?_))
       exact retQ_pure (v := .raw _) rfl rfl (Less.eq (by rw [scOK_bad (i := k) (by omega) (by simp [scBad, *])]))
      ·
       have g12' := g12
       try simp only [qq] at g12'
       refine dr_yes rfl rfl (less_b g12) rfl (ev_fieldAddr fo84_4 (lr _)) ?_
       refine dr_yes rfl rfl (less_b g12) rfl (ev_load (lr _) rfl ty3 rfl) ?_
       refine dr_yes rfl rfl (less_b g12) rfl (ev_mv (v := .raw _) (lr _)) ?_
       refine dr_yes rfl rfl (less_b g12) rfl (ev_eql (lr _) (lr _)) ?_
       refine dr_ev rfl (ev_pickF (v := .raw _) (less_b g12) (lr _)) ?_
       refine dr_end (sq_nil ?_)
       refine aw_cond (lr _) (fun c13 => ?_) (fun c13 => ?_)
       ·
        have c13' := c13
        try simp only [qq] at c13'
        refine aw_seq (aw_region ?_)
        refine asr (lr _) rfl (sq_nil (aw_ret ?_))
        exact retQ_pure (v := .raw _) rfl rfl (Less.eq (by rw [scOK_bad (i := k) (by omega) (by simp [scBad, *])]))
       ·
        have c13' := c13
        try simp only [qq] at c13'
        refine aw_skip (aw_seq (aw_region ?_))
        refine sq_ev rfl (ev_fieldAddr fo84_3 (lr _)) ?_
        refine sq_ev rfl (ev_load (lr _) rfl ty4 rfl) ?_
        refine sq_nil ?_
        refine aw_cond (lr _) (fun c14 => ?_) (fun c14 => ?_)
        ·
         have c14' := c14
         try simp only [qq] at c14'
         refine aw_region ?_
         refine mvr (lr _) rfl (sq_ev rfl (ev_add (lr _) (lr _) (wr (by omega) (by omega))) ?_)
         refine asr (lr _) rfl (sq_nil (aw_region ?_))
         refine mvr (lr _) rfl (sq_ev rfl (ev_add (lr _) (lr _) (wr (by omega) (by omega))) ?_)
         refine asr (lr _) rfl (sq_nil ?_)
         have hstep := loosies_take (l := p.scenes) (k := k) (by omega)
         have hgood : scBad p.scenes k (by omega) = false := by simp [scBad, *]
         exact ⟨⟨k + 1, by omega, fun i h hi => (by by_cases e : i = k; (subst e; exact hgood); exact hok i h (by omega))⟩, by simp only; omega, Sub.fin 1 ⟨less_int (by rw [hstep]; simp [*]), lr _, lr _, trivial⟩ rfl (by simp [slotsIn, objsIn, sget, keepS, AObj.inB, AV.inB, AV.inL, AV.inE, inE_map]) (by simp [slotsIn, objsIn, sget, keepS, AObj.inB, AV.inB, AV.inL, AV.inE, inE_map]) (by simp [he0])⟩
        ·
         have c14' := c14
         try simp only [qq] at c14'
         refine aw_skip (aw_region ?_)
         refine mvr (lr _) rfl (sq_ev rfl (ev_add (lr _) (lr _) (wr (by omega) (by omega))) ?_)
         refine asr (lr _) rfl (sq_nil ?_)
         have hstep := loosies_take (l := p.scenes) (k := k) (by omega)
         have hgood : scBad p.scenes k (by omega) = false := by simp [scBad, *]
         exact ⟨⟨k + 1, by omega, fun i h hi => (by by_cases e : i = k; (subst e; exact hgood); exact hok i h (by omega))⟩, by simp only; omega, Sub.fin 1 ⟨less_int (by rw [hstep]; simp [*]), lr _, lr _, trivial⟩ rfl (by simp [slotsIn, objsIn, sget, keepS, AObj.inB, AV.inB, AV.inL, AV.inE, inE_map]) (by simp [slotsIn, objsIn, sget, keepS, AObj.inB, AV.inB, AV.inL, AV.inE, inE_map]) (by simp [he0])⟩
 ·
  have c1' := c1
  try simp only [qq] at c1'
  refine aw_exit (aw_seq (aw_region ?_))
  refine mvr (lr _) rfl (sq_ev rfl (ev_leq (lr _) (lr _)) ?_)
  refine asr (lr _) rfl (sq_nil (aw_ret ?_))
  exact retQ_pure (v := .raw _) rfl rfl (Less.eq (by rw [scOK_end hk c1' hok]))
theorem plan_pure (p : Pl) (hl : p.scenes.length ≤ 1000000) : APure Tryz.prog 24 [plan p] (B (PlOK p)) := by
 refine apure_of (rs := [.tmp 2]) Tryz.func24 rfl rfl (Nat.le_of_ble_eq_true rfl) (by simp [AV.pureL, AV.pureB, AV.pureE, pureE_map]) (rfl) fun e0 he0 => ?_
 refine aw_seq (aw_region ?_)
 refine sq_box rfl (lr _) rfl (asr (lr _) rfl (sq_nil (aw_seq (aw_region ?_))))
 refine sq_ev rfl (ev_fieldAddr fo27_0 (lr _)) ?_
 refine sq_ev rfl (ev_load (lr _) rfl ty3 rfl) ?_
 refine sq_ev rfl (ev_call en89 (lr _) (in_pure _ _ _) ⟨lr _, lr _, lr _, trivial⟩) ?_
 refine mvr (lr _) rfl ?_
 refine sq_split 6 (lr _) (fun g1 => ?_) (fun g1 => ?_)
 ·
  have g1' := g1
  try simp only [qq] at g1'
  refine sq_yes rfl rfl (less_b g1) rfl (ev_fieldAddr fo27_1 (lr _)) ?_
  refine sq_yes rfl rfl (less_b g1) rfl (ev_index_box ar24 (lr _) (lr _) rfl (by decide)) ?_
  refine sq_yes rfl rfl (less_b g1) rfl (ev_load_agg (lr _) rfl ty23 rfl) ?_
  refine sq_yes rfl rfl (less_b g1) rfl (ev_call en90 (lr _) (window_pure _ _) ⟨lr _, trivial⟩) ?_
  refine sq_ev rfl (ev_pickT (v := .raw _) (less_b g1) (lr _)) ?_
  refine mvr (lr _) rfl ?_
  refine sq_split 12 (lr _) (fun g2 => ?_) (fun g2 => ?_)
  ·
   have g2' := g2
   try simp only [qq] at g2'
   refine sq_yes rfl rfl (less_b g2) rfl (ev_fieldAddr fo27_1 (lr _)) ?_
   refine sq_yes rfl rfl (less_b g2) rfl (ev_index_box ar24 (lr _) (lr _) rfl (by decide)) ?_
   refine sq_yes rfl rfl (less_b g2) rfl (ev_load_agg (lr _) rfl ty23 rfl) ?_
   refine sq_yes rfl rfl (less_b g2) rfl (ev_call en90 (lr _) (window_pure _ _) ⟨lr _, trivial⟩) ?_
   refine sq_ev rfl (ev_pickT (v := .raw _) (less_b g2) (lr _)) ?_
   refine mvr (lr _) rfl ?_
   refine sq_split 18 (lr _) (fun g3 => ?_) (fun g3 => ?_)
   ·
    have g3' := g3
    try simp only [qq] at g3'
    refine sq_yes rfl rfl (less_b g3) rfl (ev_fieldAddr fo27_2 (lr _)) ?_
    refine sq_yes rfl rfl (less_b g3) rfl (ev_load_agg (lr _) rfl ty23 rfl) ?_
    refine sq_yes rfl rfl (less_b g3) rfl (ev_call en90 (lr _) (window_pure _ _) ⟨lr _, trivial⟩) ?_
    refine sq_ev rfl (ev_pickT (v := .raw _) (less_b g3) (lr _)) ?_
    refine mvr (lr _) rfl ?_
    refine sq_split 23 (lr _) (fun g4 => ?_) (fun g4 => ?_)
    ·
     have g4' := g4
     try simp only [qq] at g4'
     refine sq_yes rfl rfl (less_b g4) rfl (ev_fieldAddr fo27_3 (lr _)) ?_
     refine sq_yes rfl rfl (less_b g4) rfl (ev_load (lr _) rfl ty25 rfl) ?_
     refine sq_yes rfl rfl (less_b g4) rfl (ev_len_map sl25 (lr _)) ?_
     refine sq_yes rfl rfl (less_b g4) rfl (ev_call en89 (lr _) (in_pure _ _ _) ⟨lr _, lr _, lr _, trivial⟩) ?_
     refine sq_ev rfl (ev_pickT (v := .raw _) (less_b g4) (lr _)) ?_
     refine mvr (lr _) rfl ?_
     refine sq_split 29 (lr _) (fun g5 => ?_) (fun g5 => ?_)
     ·
      have g5' := g5
      try simp only [qq] at g5'
      refine sq_yes rfl rfl (less_b g5) rfl (ev_load_agg (lr _) rfl ty27 rfl) ?_
      refine sq_yes rfl rfl (less_b g5) rfl (ev_call en91 (lr _) (scenes_pure _ hl) ⟨lr _, trivial⟩) ?_
      refine sq_ev rfl (ev_pickT (v := .raw _) (less_b g5) (lr _)) ?_
      refine asr (lr _) rfl (sq_nil (aw_ret ?_))
      exact retQ_pure (v := .raw _) rfl rfl (Less.eq (by simp [PlOK, *]))
     ·
      have g5' := g5
      try simp only [qq] at g5'
      refine sq_no rfl rfl (less_b g5) rfl rfl ?_
      refine sq_no rfl rfl (less_b g5) rfl rfl ?_
      refine sq_ev rfl (ev_pickF (v := .raw _) (less_b g5) (lr _)) ?_
      refine asr (lr _) rfl (sq_nil (aw_ret ?_))
      exact retQ_pure (v := .raw _) rfl rfl (Less.eq (by simp [PlOK, *]))
    ·
     have g4' := g4
     try simp only [qq] at g4'
     refine sq_no rfl rfl (less_b g4) rfl rfl ?_
     refine sq_no rfl rfl (less_b g4) rfl rfl ?_
     refine sq_no rfl rfl (less_b g4) rfl rfl ?_
     refine sq_no rfl rfl (less_b g4) rfl rfl ?_
     refine sq_ev rfl (ev_pickF (v := .raw _) (less_b g4) (lr _)) ?_
     refine mvr (lr _) rfl (sq_no rfl rfl (lr _) rfl rfl (sq_no rfl rfl (lr _) rfl rfl (pf rfl (lr _) (lr _) (asr (lr _) rfl (sq_nil (aw_ret ?_))))))
     exact retQ_pure (v := .raw _) rfl rfl (Less.eq (by simp [PlOK, *]))
   ·
    have g3' := g3
    try simp only [qq] at g3'
    refine sq_no rfl rfl (less_b g3) rfl rfl ?_
    refine sq_no rfl rfl (less_b g3) rfl rfl ?_
    refine sq_no rfl rfl (less_b g3) rfl rfl ?_
    refine sq_ev rfl (ev_pickF (v := .raw _) (less_b g3) (lr _)) ?_
    refine mvr (lr _) rfl (sq_no rfl rfl (lr _) rfl rfl (sq_no rfl rfl (lr _) rfl rfl (sq_no rfl rfl (lr _) rfl rfl (sq_no rfl rfl (lr _) rfl rfl (pf rfl (lr _) (lr _) ?_)))))
    refine mvr (lr _) rfl (sq_no rfl rfl (lr _) rfl rfl (sq_no rfl rfl (lr _) rfl rfl (pf rfl (lr _) (lr _) (asr (lr _) rfl (sq_nil (aw_ret ?_))))))
    exact retQ_pure (v := .raw _) rfl rfl (Less.eq (by simp [PlOK, *]))
  ·
   have g2' := g2
   try simp only [qq] at g2'
   refine sq_no rfl rfl (less_b g2) rfl rfl ?_
   refine sq_no rfl rfl (less_b g2) rfl rfl ?_
   refine sq_no rfl rfl (less_b g2) rfl rfl ?_
   refine sq_no rfl rfl (less_b g2) rfl rfl ?_
   refine sq_ev rfl (ev_pickF (v := .raw _) (less_b g2) (lr _)) ?_
   refine mvr (lr _) rfl (sq_no rfl rfl (lr _) rfl rfl (sq_no rfl rfl (lr _) rfl rfl (sq_no rfl rfl (lr _) rfl rfl ?_)))
   refine pf rfl (lr _) (lr _) (mvr (lr _) rfl (sq_no rfl rfl (lr _) rfl rfl (sq_no rfl rfl (lr _) rfl rfl (sq_no rfl rfl (lr _) rfl rfl (sq_no rfl rfl (lr _) rfl rfl (pf rfl (lr _) (lr _) ?_))))))
   refine mvr (lr _) rfl (sq_no rfl rfl (lr _) rfl rfl (sq_no rfl rfl (lr _) rfl rfl (pf rfl (lr _) (lr _) (asr (lr _) rfl (sq_nil (aw_ret ?_))))))
   exact retQ_pure (v := .raw _) rfl rfl (Less.eq (by simp [PlOK, *]))
 ·
  have g1' := g1
  try simp only [qq] at g1'
  refine sq_no rfl rfl (less_b g1) rfl rfl ?_
  refine sq_no rfl rfl (less_b g1) rfl rfl ?_
  refine sq_no rfl rfl (less_b g1) rfl rfl ?_
  refine sq_no rfl rfl (less_b g1) rfl rfl ?_
  refine sq_ev rfl (ev_pickF (v := .raw _) (less_b g1) (lr _)) ?_
  refine mvr (lr _) rfl (sq_no rfl rfl (lr _) rfl rfl (sq_no rfl rfl (lr _) rfl rfl ?_))
  refine sq_no rfl rfl (lr _) rfl rfl (sq_no rfl rfl (lr _) rfl rfl (pf rfl (lr _) (lr _) (mvr (lr _) rfl (sq_no rfl rfl (lr _) rfl rfl (sq_no rfl rfl (lr _) rfl rfl (sq_no rfl rfl (lr _) rfl rfl ?_))))))
  refine pf rfl (lr _) (lr _) (mvr (lr _) rfl (sq_no rfl rfl (lr _) rfl rfl (sq_no rfl rfl (lr _) rfl rfl (sq_no rfl rfl (lr _) rfl rfl (sq_no rfl rfl (lr _) rfl rfl (pf rfl (lr _) (lr _) ?_))))))
  refine mvr (lr _) rfl (sq_no rfl rfl (lr _) rfl rfl (sq_no rfl rfl (lr _) rfl rfl (pf rfl (lr _) (lr _) (asr (lr _) rfl (sq_nil (aw_ret ?_))))))
  exact retQ_pure (v := .raw _) rfl rfl (Less.eq (by simp [PlOK, *]))
theorem scene_pure (p : Pl) (n : Int) (hl : p.scenes.length ≤ 1000000) : APure Tryz.prog 35 [plan p, I n] (B (isSc p n)) := by
 refine apure_of (rs := [.tmp 4]) Tryz.func35 rfl rfl (Nat.le_of_ble_eq_true rfl) (by simp [AV.pureL, AV.pureB, AV.pureE, pureE_map]) (rfl) fun e0 he0 => ?_
 refine aw_seq (aw_region ?_)
 refine sq_box rfl (lr _) rfl (asr (lr _) rfl (sq_nil (aw_seq (aw_region ?_))))
 refine mvr (lr _) rfl (sq_ev rfl (ev_fieldAddr fo27_3 (lr _)) ?_)
 refine sq_ev rfl (ev_load (lr _) rfl ty25 rfl) ?_
 refine sq_ev rfl (ev_len_map sl25 (lr _)) ?_
 refine sq_ev rfl (ev_sub (lr _) (lr _) (wr (by omega) (by omega))) ?_
 refine sq_ev rfl (ev_call en89 (lr _) (in_pure _ _ _) ⟨lr _, lr _, lr _, trivial⟩) ?_
 refine asr (lr _) rfl (sq_nil (aw_ret ?_))
 exact retQ_pure (v := .raw _) rfl rfl (Less.eq (by simp [isSc]))
theorem has_pure (l : List Int) (n : Int) (hl : l.length ≤ 1000000) : APure Tryz.prog 62 [ints l, I n] (B (has l n)) := by
 refine apure_of (rs := [.tmp 4]) Tryz.func62 rfl rfl (Nat.le_of_ble_eq_true rfl) (by simp [AV.pureL, AV.pureB, AV.pureE, pureE_map]) (rfl) fun e0 he0 => ?_
 refine aw_seq (aw_region ?_)
 refine asr (lr _) rfl (sq_nil (aw_seq (aw_seq (aw_region ?_))))
 refine asr (lr _) rfl (sq_nil (aw_block ?_))
 refine aw_loopk (ι := { k : Nat // k ≤ l.length ∧ ∀ j, (h : j < l.length) → j < k → l[j] ≠ n }) [0, 1] (fun i => [(5, I i.1)]) (fun H i => H) (fun i => l.length - i.1) (⟨0, Nat.zero_le _, by omega⟩) ⟨lr _, lr _, lr _, trivial⟩ rfl ?_
 rintro ⟨k, hk, hok⟩
 dsimp only [keepS, St.put, sget, slotsOf, List.map_cons, List.map_nil, List.cons_append, List.nil_append, List.length_cons, List.length_nil, Nat.reduceBEq, Nat.reduceAdd, cond_true, cond_false]
 refine aw_seq (aw_seq (aw_region ?_))
 refine mvr (lr _) rfl (mvs rfl (lr _) (sq_ev rfl (ev_len_map sl34 (lr _)) ?_))
 refine sq_ev rfl (ev_lss (lr _) (lr _)) ?_
 refine sq_nil ?_
 refine aw_cond (lr _) (fun c1 => ?_) (fun c1 => ?_)
 ·
  have c1' := c1
  try simp only [qq] at c1'
  refine aw_skip (aw_seq (aw_block (aw_seq (aw_region ?_))))
  refine mvs rfl (lr _) (mvr (lr _) rfl (sq_ev rfl (ev_index_map sl34 (lr _) (lr _) rfl (by omega)) ?_))
  refine sq_ev rfl (ev_load_i (lr _) ty3 rfl) ?_
  refine mvr (lr _) rfl (sq_ev rfl (ev_eql (lr _) (lr _)) ?_)
  refine sq_nil ?_
  refine aw_cond (lr _) (fun c2 => ?_) (fun c2 => ?_)
  ·
   have c2' := c2
   try simp only [qq] at c2'
   refine aw_seq (aw_region ?_)
   refine asr (lr _) rfl (sq_nil (aw_ret ?_))
   exact retQ_pure (v := .raw _) rfl rfl (Less.eq (by rw [has_yes (k := k) (by omega) c2']))
  ·
   have c2' := c2
   try simp only [qq] at c2'
   refine aw_skip (aw_region ?_)
   refine mvr (lr _) rfl (sq_ev rfl (ev_add (lr _) (lr _) (wr (by omega) (by omega))) ?_)
   refine asr (lr _) rfl (sq_nil ?_)
   exact ⟨⟨k + 1, by omega, fun j h hj => (by by_cases e : j = k; (subst e; exact c2'); exact hok j h (by omega))⟩, by simp only; omega, Sub.slots ⟨lr _, lr _, lr _, trivial⟩⟩
 ·
  have c1' := c1
  try simp only [qq] at c1'
  refine aw_exit (aw_seq (aw_region ?_))
  refine asr (lr _) rfl (sq_nil (aw_ret ?_))
  exact retQ_pure (v := .raw _) rfl rfl (Less.eq (by rw [has_no c1' hok]))
theorem choice_pure (p : Pl) (l : List Int) (hp : p.scenes.length ≤ 1000000) (hl : l.length ≤ 1000000) : APure Tryz.prog 78 [plan p, ints l] (B (isCh p l)) := by
 refine apure_of (rs := [.tmp 4]) Tryz.func78 rfl rfl (Nat.le_of_ble_eq_true rfl) (by simp [AV.pureL, AV.pureB, AV.pureE, pureE_map]) (rfl) fun e0 he0 => ?_
 refine aw_seq (aw_region ?_)
 refine sq_box rfl (lr _) rfl (asr (lr _) rfl (sq_nil (aw_seq (aw_seq (aw_region ?_)))))
 refine asr (lr _) rfl (sq_nil (aw_block ?_))
 refine aw_loopk (ι := { k : Nat // k ≤ p.scenes.length ∧ ∀ i, (h : i < p.scenes.length) → i < k → chBad p l i h = false }) [1, 2] (fun i => [(5, I i.1)]) (fun H i => H) (fun i => p.scenes.length - i.1) (⟨0, Nat.zero_le _, by omega⟩) ⟨lr _, lr _, lr _, trivial⟩ rfl ?_
 rintro ⟨k, hk, hok⟩
 dsimp only [keepS, St.put, sget, slotsOf, List.map_cons, List.map_nil, List.cons_append, List.nil_append, List.length_cons, List.length_nil, Nat.reduceBEq, Nat.reduceAdd, cond_true, cond_false]
 refine aw_seq (aw_seq (aw_region ?_))
 refine mvr (lr _) rfl (sq_ev rfl (ev_fieldAddr fo27_3 (lr _)) ?_)
 refine sq_ev rfl (ev_load (lr _) rfl ty25 rfl) ?_
 refine sq_ev rfl (ev_len_map sl25 (lr _)) ?_
 refine sq_ev rfl (ev_lss (lr _) (lr _)) ?_
 refine sq_nil ?_
 refine aw_cond (lr _) (fun c1 => ?_) (fun c1 => ?_)
 ·
  have c1' := c1
  try simp only [qq] at c1'
  refine aw_skip (aw_seq (aw_block (aw_seq (aw_region ?_))))
  refine sq_ev rfl (ev_fieldAddr fo27_3 (lr _)) ?_
  refine sq_ev rfl (ev_load (lr _) rfl ty25 rfl) ?_
  refine mvr (lr _) rfl (sq_ev rfl (ev_index_map sl25 (lr _) (lr _) rfl (by omega)) ?_)
  refine sq_ev rfl (ev_load_agg_i (lr _) ty84 (Nat.le_of_ble_eq_true rfl)) ?_
  refine sq_alloc rfl z84 ?_
  refine sq_store rfl (lr _) (lr _) rfl rfl ty84 rfl rfl ?_
  refine sq_nil (aw_seq (aw_region ?_))
  refine mvs rfl (lr _) (mvr (lr _) rfl (sq_ev rfl (ev_call en62 (lr _) (has_pure _ _ hl) ⟨lr _, lr _, trivial⟩) ?_))
  refine sq_ev rfl (ev_not (lr _)) ?_
  refine mvr (lr _) rfl ?_
  refine sq_split 23 (lr _) (fun g2 => ?_) (fun g2 => ?_)
  ·
   have g2' := g2
   try simp only [qq] at g2'
   refine sq_yes rfl rfl (less_b g2) rfl (ev_fieldAddr fo84_3 (lr _)) ?_
   refine sq_yes rfl rfl (less_b g2) rfl (ev_load (lr _) rfl ty4 rfl) ?_
   refine sq_yes rfl rfl (less_b g2) rfl (ev_not (lr _)) ?_
   refine sq_ev rfl (ev_pickT (v := .raw _) (less_b g2) (lr _)) ?_
   refine mvr (lr _) rfl ?_
   refine sq_split 28 (lr _) (fun g3 => ?_) (fun g3 => ?_)
   ·
    have g3' := g3
    try simp only [qq] at g3'
    refine sq_no rfl rfl (less_b g3) rfl rfl ?_
    refine sq_no rfl rfl (less_b g3) rfl rfl ?_
    refine sq_no rfl rfl (less_b g3) rfl rfl ?_
    refine sq_no rfl rfl (less_b g3) rfl rfl ?_
    refine sq_no rfl rfl (lr _) rfl rfl (sq_no rfl rfl (lr _) rfl rfl (sq_no rfl rfl (lr _) rfl rfl (sq_no rfl rfl (less_b g3) rfl rfl ?_)))
    refine sq_no rfl rfl (less_b g3) rfl rfl ?_
    refine sq_no rfl rfl (lr _) rfl rfl (sq_no rfl rfl (lr _) rfl rfl (sq_no rfl rfl (lr _) rfl rfl (sq_no rfl rfl (lr _) rfl rfl (sq_no rfl rfl (lr _) rfl rfl (sq_no rfl rfl (less_b g3) rfl rfl ?_)))))
    refine sq_ev rfl (ev_pickT (v := .raw _) (less_b g3) (lr _)) ?_
    refine sq_nil ?_
    refine aw_true (lr _) ?_
    refine aw_seq (aw_region ?_)
    refine asr (lr _) rfl (sq_nil (aw_ret ?_))
    exact retQ_pure (v := .raw _) rfl rfl (Less.eq (by rw [isCh, okAll_bad (i := k) (by omega) (by first | (simp [chBad, *]; done) | (simp_all [chBad]; done))]))
   ·
    have g3' := g3
    try simp only [qq] at g3'
    refine sq_yes rfl rfl (less_b g3) rfl (ev_mv (v := .sl _ _) (lr _)) ?_
    refine sq_yes rfl rfl (less_b g3) rfl (ev_mv (v := .raw _) (lr _)) ?_
    refine sq_yes rfl rfl (less_b g3) rfl (ev_call en62 (lr _) (has_pure _ _ hl) ⟨lr _, lr _, trivial⟩) ?_
    refine sq_yes rfl rfl (less_b g3) rfl (ev_mv (v := .raw _) (lr _)) ?_
    refine sq_split 32 (lr _) (fun g4 => ?_) (fun g4 => ?_)
    ·
     have g4' := g4
     try simp only [qq] at g4'
     refine sq_yes rfl rfl (less_b g4) rfl (ev_fieldAddr fo84_4 (lr _)) ?_
     refine sq_yes rfl rfl (less_b g4) rfl (ev_load (lr _) rfl ty3 rfl) ?_
     refine sq_yes rfl rfl (less_b g4) rfl (ev_geq (lr _) (lr _)) ?_
     refine sq_yes rfl rfl (less_b g3) rfl (ev_pickT (v := .raw _) (less_b g4) (lr _)) ?_
     refine sq_yes rfl rfl (less_b g3) rfl (ev_mv (v := .raw _) (lr _)) ?_
     refine sq_split 37 (lr _) (fun g5 => ?_) (fun g5 => ?_)
     ·
      have g5' := g5
      try simp only [qq] at g5'
      refine sq_yes rfl rfl (less_b g5) rfl (ev_mv (v := .sl _ _) (lr _)) ?_
      refine sq_yes rfl rfl (less_b g5) rfl (ev_fieldAddr fo84_4 (lr _)) ?_
      refine sq_yes rfl rfl (less_b g5) rfl (ev_load (lr _) rfl ty3 rfl) ?_
      refine sq_yes rfl rfl (less_b g5) rfl (ev_call en62 (lr _) (has_pure _ _ hl) ⟨lr _, lr _, trivial⟩) ?_
      refine sq_yes rfl rfl (less_b g5) rfl (ev_not (lr _)) ?_
      refine sq_yes rfl rfl (less_b g3) rfl (ev_pickT (v := .raw _) (less_b g5) (lr _)) ?_
      refine sq_ev rfl (ev_pickF (v := .raw _) (less_b g3) (lr _)) ?_
      refine sq_nil ?_
      refine aw_cond (lr _) (fun c6 => ?_) (fun c6 => ?_)
      ·
       have c6' := c6
       try simp only [qq] at c6'
       refine aw_seq (aw_region ?_)
       refine asr (lr _) rfl (sq_nil (aw_ret ?_))
       exact retQ_pure (v := .raw _) rfl rfl (Less.eq (by rw [isCh, okAll_bad (i := k) (by omega) (by first | (simp [chBad, *]; done) | (simp_all [chBad]; done))]))
      ·
       have c6' := c6
       try simp only [qq] at c6'
       refine aw_skip (aw_region ?_)
       refine mvr (lr _) rfl (sq_ev rfl (ev_add (lr _) (lr _) (wr (by omega) (by omega))) ?_)
       refine asr (lr _) rfl (sq_nil ?_)
       have hgood : chBad p l k (by omega) = false := by first | (simp [chBad, *]; done) | (simp_all [chBad]; done)
       exact ⟨⟨k + 1, by omega, fun i h hi => (by by_cases e : i = k; (subst e; exact hgood); exact hok i h (by omega))⟩, by simp only; omega, Sub.fin 1 ⟨lr _, lr _, lr _, trivial⟩ rfl (by simp [slotsIn, objsIn, sget, keepS, AObj.inB, AV.inB, AV.inL, AV.inE, inE_map]) (by simp [slotsIn, objsIn, sget, keepS, AObj.inB, AV.inB, AV.inL, AV.inE, inE_map]) (by simp [he0])⟩
     ·
      have g5' := g5
      try simp only [qq] at g5'
      refine sq_no rfl rfl (less_b g5) rfl rfl ?_
      refine sq_no rfl rfl (less_b g5) rfl rfl ?_
      refine sq_no rfl rfl (less_b g5) rfl rfl ?_
      refine sq_no rfl rfl (less_b g5) rfl rfl ?_
      refine sq_no rfl rfl (less_b g5) rfl rfl ?_
      refine sq_yes rfl rfl (less_b g3) rfl (ev_pickF (v := .raw _) (less_b g5) (lr _)) ?_
      refine sq_ev rfl (ev_pickF (v := .raw _) (less_b g3) (lr _)) ?_
      refine sq_nil ?_
      refine aw_false (lr _) ?_
      refine aw_skip (aw_region ?_)
      refine mvr (lr _) rfl (sq_ev rfl (ev_add (lr _) (lr _) (wr (by omega) (by omega))) ?_)
      refine asr (lr _) rfl (sq_nil ?_)
      have hgood : chBad p l k (by omega) = false := by first | (simp [chBad, *]; done) | (simp_all [chBad]; done)
      exact ⟨⟨k + 1, by omega, fun i h hi => (by by_cases e : i = k; (subst e; exact hgood); exact hok i h (by omega))⟩, by simp only; omega, Sub.fin 1 ⟨lr _, lr _, lr _, trivial⟩ rfl (by simp [slotsIn, objsIn, sget, keepS, AObj.inB, AV.inB, AV.inL, AV.inE, inE_map]) (by simp [slotsIn, objsIn, sget, keepS, AObj.inB, AV.inB, AV.inL, AV.inE, inE_map]) (by simp [he0])⟩
    ·
     have g4' := g4
     try simp only [qq] at g4'
     refine sq_no rfl rfl (less_b g4) rfl rfl ?_
     refine sq_no rfl rfl (less_b g4) rfl rfl ?_
     refine sq_no rfl rfl (less_b g4) rfl rfl ?_
     refine sq_yes rfl rfl (less_b g3) rfl (ev_pickF (v := .raw _) (less_b g4) (lr _)) ?_
     refine sq_yes rfl rfl (less_b g3) rfl (ev_mv (v := .raw _) (lr _)) ?_
     refine sq_no rfl rfl (lr _) rfl rfl (sq_no rfl rfl (lr _) rfl rfl (sq_no rfl rfl (lr _) rfl rfl (sq_no rfl rfl (lr _) rfl rfl (sq_no rfl rfl (lr _) rfl rfl (sq_yes rfl rfl (less_b g3) rfl (ev_pickF (v := .raw _) (lr _) (lr _)) ?_)))))
     refine sq_ev rfl (ev_pickF (v := .raw _) (less_b g3) (lr _)) ?_
     refine sq_nil ?_
     refine aw_false (lr _) ?_
     refine aw_skip (aw_region ?_)
     refine mvr (lr _) rfl (sq_ev rfl (ev_add (lr _) (lr _) (wr (by omega) (by omega))) ?_)
     refine asr (lr _) rfl (sq_nil ?_)
     have hgood : chBad p l k (by omega) = false := by first | (simp [chBad, *]; done) | (simp_all [chBad]; done)
     exact ⟨⟨k + 1, by omega, fun i h hi => (by by_cases e : i = k; (subst e; exact hgood); exact hok i h (by omega))⟩, by simp only; omega, Sub.fin 1 ⟨lr _, lr _, lr _, trivial⟩ rfl (by simp [slotsIn, objsIn, sget, keepS, AObj.inB, AV.inB, AV.inL, AV.inE, inE_map]) (by simp [slotsIn, objsIn, sget, keepS, AObj.inB, AV.inB, AV.inL, AV.inE, inE_map]) (by simp [he0])⟩
  ·
   have g2' := g2
   try simp only [qq] at g2'
   refine sq_no rfl rfl (less_b g2) rfl rfl ?_
   refine sq_no rfl rfl (less_b g2) rfl rfl ?_
   refine sq_no rfl rfl (less_b g2) rfl rfl ?_
   refine sq_ev rfl (ev_pickF (v := .raw _) (less_b g2) (lr _)) ?_
   refine mvr (lr _) rfl ?_
   refine ysl rfl rfl (lr _) rfl (lr _) ?_
   refine ymr rfl rfl (lr _) rfl (lr _) (sq_yes rfl rfl (lr _) rfl (ev_call en62 (lr _) (has_pure _ _ hl) ⟨lr _, lr _, trivial⟩) ?_)
   refine ymr rfl rfl (lr _) rfl (lr _) ?_
   refine sq_split 32 (lr _) (fun g7 => ?_) (fun g7 => ?_)
   ·
    have g7' := g7
    try simp only [qq] at g7'
    refine sq_yes rfl rfl (less_b g7) rfl (ev_fieldAddr fo84_4 (lr _)) ?_
    refine sq_yes rfl rfl (less_b g7) rfl (ev_load (lr _) rfl ty3 rfl) ?_
    refine sq_yes rfl rfl (less_b g7) rfl (ev_geq (lr _) (lr _)) ?_
    refine sq_yes rfl rfl (lr _) rfl (ev_pickT (v := .raw _) (less_b g7) (lr _)) ?_
    refine ymr rfl rfl (lr _) rfl (lr _) ?_
    refine sq_split 37 (lr _) (fun g8 => ?_) (fun g8 => ?_)
    ·
     have g8' := g8
     try simp only [qq] at g8'
     refine sq_yes rfl rfl (less_b g8) rfl (ev_mv (v := .sl _ _) (lr _)) ?_
     refine sq_yes rfl rfl (less_b g8) rfl (ev_fieldAddr fo84_4 (lr _)) ?_
     refine sq_yes rfl rfl (less_b g8) rfl (ev_load (lr _) rfl ty3 rfl) ?_
     refine sq_yes rfl rfl (less_b g8) rfl (ev_call en62 (lr _) (has_pure _ _ hl) ⟨lr _, lr _, trivial⟩) ?_
     refine sq_yes rfl rfl (less_b g8) rfl (ev_not (lr _)) ?_
     refine sq_yes rfl rfl (lr _) rfl (ev_pickT (v := .raw _) (less_b g8) (lr _)) ?_
     refine pf rfl (lr _) (lr _) (sq_nil ?_)
     refine aw_cond (lr _) (fun c9 => ?_) (fun c9 => ?_)
     ·
      have c9' := c9
      try simp only [qq] at c9'
      refine aw_seq (aw_region ?_)
      refine asr (lr _) rfl (sq_nil (aw_ret ?_))
      exact retQ_pure (v := .raw _) rfl rfl (Less.eq (by rw [isCh, okAll_bad (i := k) (by omega) (by first | (simp [chBad, *]; done) | (simp_all [chBad]; done))]))
     ·
      have c9' := c9
      try simp only [qq] at c9'
      refine aw_skip (aw_region ?_)
      refine mvr (lr _) rfl (sq_ev rfl (ev_add (lr _) (lr _) (wr (by omega) (by omega))) ?_)
      refine asr (lr _) rfl (sq_nil ?_)
      have hgood : chBad p l k (by omega) = false := by first | (simp [chBad, *]; done) | (simp_all [chBad]; done)
      exact ⟨⟨k + 1, by omega, fun i h hi => (by by_cases e : i = k; (subst e; exact hgood); exact hok i h (by omega))⟩, by simp only; omega, Sub.fin 1 ⟨lr _, lr _, lr _, trivial⟩ rfl (by simp [slotsIn, objsIn, sget, keepS, AObj.inB, AV.inB, AV.inL, AV.inE, inE_map]) (by simp [slotsIn, objsIn, sget, keepS, AObj.inB, AV.inB, AV.inL, AV.inE, inE_map]) (by simp [he0])⟩
    ·
     have g8' := g8
     try simp only [qq] at g8'
     refine sq_no rfl rfl (less_b g8) rfl rfl ?_
     refine sq_no rfl rfl (less_b g8) rfl rfl ?_
     refine sq_no rfl rfl (less_b g8) rfl rfl ?_
     refine sq_no rfl rfl (less_b g8) rfl rfl ?_
     refine sq_no rfl rfl (less_b g8) rfl rfl ?_
     refine sq_yes rfl rfl (lr _) rfl (ev_pickF (v := .raw _) (less_b g8) (lr _)) ?_
     refine pf rfl (lr _) (lr _) (sq_nil ?_)
     refine aw_false (lr _) ?_
     refine aw_skip (aw_region ?_)
     refine mvr (lr _) rfl (sq_ev rfl (ev_add (lr _) (lr _) (wr (by omega) (by omega))) ?_)
     refine asr (lr _) rfl (sq_nil ?_)
     have hgood : chBad p l k (by omega) = false := by first | (simp [chBad, *]; done) | (simp_all [chBad]; done)
     exact ⟨⟨k + 1, by omega, fun i h hi => (by by_cases e : i = k; (subst e; exact hgood); exact hok i h (by omega))⟩, by simp only; omega, Sub.fin 1 ⟨lr _, lr _, lr _, trivial⟩ rfl (by simp [slotsIn, objsIn, sget, keepS, AObj.inB, AV.inB, AV.inL, AV.inE, inE_map]) (by simp [slotsIn, objsIn, sget, keepS, AObj.inB, AV.inB, AV.inL, AV.inE, inE_map]) (by simp [he0])⟩
   ·
    have g7' := g7
    try simp only [qq] at g7'
    refine sq_no rfl rfl (less_b g7) rfl rfl ?_
    refine sq_no rfl rfl (less_b g7) rfl rfl ?_
    refine sq_no rfl rfl (less_b g7) rfl rfl ?_
    refine sq_yes rfl rfl (lr _) rfl (ev_pickF (v := .raw _) (less_b g7) (lr _)) ?_
    refine ymr rfl rfl (lr _) rfl (lr _) (sq_no rfl rfl (lr _) rfl rfl (sq_no rfl rfl (lr _) rfl rfl (sq_no rfl rfl (lr _) rfl rfl (sq_no rfl rfl (lr _) rfl rfl (sq_no rfl rfl (lr _) rfl rfl (sq_yes rfl rfl (lr _) rfl (ev_pickF (v := .raw _) (lr _) (lr _)) ?_))))))
    refine pf rfl (lr _) (lr _) (sq_nil ?_)
    refine aw_false (lr _) ?_
    refine aw_skip (aw_region ?_)
    refine mvr (lr _) rfl (sq_ev rfl (ev_add (lr _) (lr _) (wr (by omega) (by omega))) ?_)
    refine asr (lr _) rfl (sq_nil ?_)
    have hgood : chBad p l k (by omega) = false := by first | (simp [chBad, *]; done) | (simp_all [chBad]; done)
    exact ⟨⟨k + 1, by omega, fun i h hi => (by by_cases e : i = k; (subst e; exact hgood); exact hok i h (by omega))⟩, by simp only; omega, Sub.fin 1 ⟨lr _, lr _, lr _, trivial⟩ rfl (by simp [slotsIn, objsIn, sget, keepS, AObj.inB, AV.inB, AV.inL, AV.inE, inE_map]) (by simp [slotsIn, objsIn, sget, keepS, AObj.inB, AV.inB, AV.inL, AV.inE, inE_map]) (by simp [he0])⟩
 ·
  have c1' := c1
  try simp only [qq] at c1'
  refine aw_exit (aw_seq (aw_region ?_))
  refine asr (lr _) rfl (sq_nil (aw_ret ?_))
  exact retQ_pure (v := .raw _) rfl rfl (Less.eq (by rw [isCh, okAll_end hk c1' hok]))
end Go.Proofs.YtjghdbdiejaacaaGreatDoor
namespace Go.Proofs.YtjghdbdiejaacaaGreatDoor
open Go Go.Ab Ni
abbrev wpart (p : Pl) (l : List Nat) (k : Nat) : List AV :=
  [I (if 0 < k then lo p l 0 0 10 else 0), I (if 0 < k then hi p l 0 0 10 else 0), I (if 1 < k then lo p l 1 0 10 else 0), I (if 1 < k then hi p l 1 0 10 else 0), I (if 2 < k then lo p l 2 0 10 else 0), I (if 2 < k then hi p l 2 0 10 else 0)]
abbrev wcells (p : Pl) (l : List Nat) : List AV := [I (lo p l 0 0 10), I (hi p l 0 0 10), I (lo p l 1 0 10), I (hi p l 1 0 10), I (lo p l 2 0 10), I (hi p l 2 0 10)]
theorem en104 : Ent Tryz.prog 104 := Ent.of Tryz.func104 (by kernel_rfl) rfl
theorem long_pure (p : Pl) (l : List Nat) (part a b : Int) (gp : GP p) (cv : CV p l) : APure Tryz.prog 104 [plan p, nats l, I part, I a, I b] (.agg (spanC (lo p l part a b) (hi p l part a b))) := by
 refine apure_of (rs := [.cell 10 23]) Tryz.func104 rfl rfl (Nat.le_of_ble_eq_true rfl) (by simp [AV.pureL, AV.pureB, AV.pureE, pureE_map]) (rfl) fun e0 he0 => ?_
 refine aw_seq (aw_region ?_)
 refine sq_box rfl (lr _) rfl ?_
 refine sq_alloc rfl z23 ?_
 refine sq_nil (aw_seq (aw_region ?_))
 refine sq_alloc rfl z23 ?_
 refine sq_nil (aw_seq (aw_seq (aw_region ?_)))
 refine asr (lr _) rfl (sq_nil (aw_block ?_))
 refine aw_loopk (ι := { k : Nat // k ≤ l.length }) [1, 2, 3, 4, 5, 10, 11] (fun i => [(12, I i.1)]) (fun H i => H.set 2 (.cells (spanC (lo p (l.take i.1) part a b) (hi p (l.take i.1) part a b)))) (fun i => l.length - i.1) (⟨0, Nat.zero_le _⟩) ⟨lr _, lr _, lr _, lr _, lr _, lr _, lr _, lr _, trivial⟩ rfl ?_
 rintro ⟨k, hk⟩
 dsimp only [keepS, St.put, sget, slotsOf, List.map_cons, List.map_nil, List.cons_append, List.nil_append, List.length_cons, List.length_nil, Nat.reduceBEq, Nat.reduceAdd, cond_true, cond_false]
 have hl1 := cv.len
 have hl2 := gp.len
 have hb1 := lo_bd gp cv part a b k
 have hb2 := hi_bd gp cv part a b k
 refine aw_seq (aw_seq (aw_region ?_))
 refine mvr (lr _) rfl (mvs rfl (lr _) (sq_ev rfl (ev_len_map sl34 (lr _)) ?_))
 refine sq_ev rfl (ev_lss (lr _) (lr _)) ?_
 refine sq_nil ?_
 refine aw_cond (lr _) (fun c1 => ?_) (fun c1 => ?_)
 ·
  have c1' := c1
  try simp only [qq] at c1'
  have hk' : k < l.length := by omega
  have hlt := cv.rng _ (List.getElem_mem hk')
  have hv1 := gp.least hlt
  have hv2 := gp.most hlt
  rw [scn_eq hlt] at hv1 hv2
  have he := scn_eq hlt
  refine aw_skip (aw_seq (aw_block (aw_seq ?_)))
  refine aw_draw 9 mo (by kernel_rfl) ?_
  refine dr_ev rfl (ev_fieldAddr fo27_3 (lr _)) ?_
  refine dr_ev rfl (ev_load (lr _) rfl ty25 rfl) ?_
  refine dr_ev rfl (ev_mv (v := .sl _ _) (lr _)) ?_
  refine dr_ev rfl (ev_mv (v := .raw _) (lr _)) ?_
  refine dr_ev rfl (ev_index_map sl34 (lr _) (lr _) rfl (by omega)) ?_
  refine dr_ev rfl (ev_load_i (lr _) ty3 rfl) ?_
  refine dr_ev rfl (ev_index_map sl25 (lr _) (lr _) rfl (by omega)) ?_
  refine dr_ev rfl (ev_load_agg_i (lr _) ty84 (Nat.le_of_ble_eq_true rfl)) ?_
  refine dr_alloc rfl z84 ?_
  refine dr_end ?_
  refine sq_store rfl (lr _) (lr _) rfl rfl ty84 rfl rfl ?_
  refine sq_nil (aw_seq (aw_region ?_))
  refine sq_ev rfl (ev_fieldAddr fo84_0 (lr _)) ?_
  refine sq_ev rfl (ev_load (lr _) rfl ty3 rfl) ?_
  refine mvr (lr _) rfl (sq_ev rfl (ev_eql (lr _) (lr _)) ?_)
  refine mvr (lr _) rfl ?_
  refine sq_split 32 (lr _) (fun g2 => ?_) (fun g2 => ?_)
  ·
   have g2' := g2
   try simp only [qq] at g2'
   refine sq_yes rfl rfl (less_b g2) rfl (ev_mv (v := .sl _ _) (lr _)) ?_
   refine sq_yes rfl rfl (less_b g2) rfl (ev_mv (v := .raw _) (lr _)) ?_
   refine sq_yes rfl rfl (less_b g2) rfl (ev_index_map sl34 (lr _) (lr _) rfl (by omega)) ?_
   refine sq_yes rfl rfl (less_b g2) rfl (ev_load_i (lr _) ty3 rfl) ?_
   refine sq_yes rfl rfl (less_b g2) rfl (ev_mv (v := .raw _) (lr _)) ?_
   refine sq_yes rfl rfl (less_b g2) rfl (ev_geq (lr _) (lr _)) ?_
   refine sq_ev rfl (ev_pickT (v := .raw _) (less_b g2) (lr _)) ?_
   refine mvr (lr _) rfl ?_
   refine sq_split 40 (lr _) (fun g3 => ?_) (fun g3 => ?_)
   ·
    have g3' := g3
    try simp only [qq] at g3'
    refine sq_yes rfl rfl (less_b g3) rfl (ev_mv (v := .sl _ _) (lr _)) ?_
    refine sq_yes rfl rfl (less_b g3) rfl (ev_mv (v := .raw _) (lr _)) ?_
    refine sq_yes rfl rfl (less_b g3) rfl (ev_index_map sl34 (lr _) (lr _) rfl (by omega)) ?_
    refine sq_yes rfl rfl (less_b g3) rfl (ev_load_i (lr _) ty3 rfl) ?_
    refine sq_yes rfl rfl (less_b g3) rfl (ev_mv (v := .raw _) (lr _)) ?_
    refine sq_yes rfl rfl (less_b g3) rfl (ev_leq (lr _) (lr _)) ?_
    refine sq_ev rfl (ev_pickT (v := .raw _) (less_b g3) (lr _)) ?_
    refine sq_nil ?_
    refine aw_cond (lr _) (fun c4 => ?_) (fun c4 => ?_)
    ·
     have c4' := c4
     try simp only [qq] at c4'
     refine aw_region ?_
     refine sq_ev rfl (ev_fieldAddr fo23_0 (lr _)) ?_
     refine sq_ev rfl (ev_load (lr _) rfl ty3 rfl) ?_
     refine sq_ev rfl (ev_fieldAddr fo84_1 (lr _)) ?_
     refine sq_ev rfl (ev_load (lr _) rfl ty3 rfl) ?_
     refine sq_ev rfl (ev_add (lr _) (lr _) (wr (by omega) (by omega))) ?_
     refine sq_ev rfl (ev_fieldAddr fo23_1 (lr _)) ?_
     refine sq_ev rfl (ev_load (lr _) rfl ty3 rfl) ?_
     refine sq_ev rfl (ev_fieldAddr fo84_2 (lr _)) ?_
     refine sq_ev rfl (ev_load (lr _) rfl ty3 rfl) ?_
     refine sq_ev rfl (ev_add (lr _) (lr _) (wr (by omega) (by omega))) ?_
     refine sq_ev rfl (ev_build bi23 rfl) ?_
     refine sq_store rfl (lr _) (lr _) rfl rfl ty23 rfl rfl ?_
     refine sq_nil (aw_region ?_)
     refine mvr (lr _) rfl (sq_ev rfl (ev_add (lr _) (lr _) (wr (by omega) (by omega))) ?_)
     refine asr (lr _) rfl (sq_nil ?_)
     exact ⟨⟨k + 1, by omega⟩, by simp only; omega, Sub.fin 3 ⟨lr _, lr _, lr _, lr _, lr _, lr _, lr _, lr _, trivial⟩ (by have e1 := lo_take (p := p) hk' part a b; have e2 := hi_take (p := p) hk' part a b; simp [inP, *] at e1 e2; rw [e1, e2]; rfl) (by simp [slotsIn, objsIn, sget, keepS, AObj.inB, AV.inB, AV.inL, AV.inE, inE_map]) (by simp [slotsIn, objsIn, sget, keepS, AObj.inB, AV.inB, AV.inL, AV.inE, inE_map]) (by simp [he0])⟩
    ·
     have c4' := c4
     try simp only [qq] at c4'
     refine aw_skip (aw_region ?_)
     refine mvr (lr _) rfl (sq_ev rfl (ev_add (lr _) (lr _) (wr (by omega) (by omega))) ?_)
     refine asr (lr _) rfl (sq_nil ?_)
     exact ⟨⟨k + 1, by omega⟩, by simp only; omega, Sub.fin 3 ⟨lr _, lr _, lr _, lr _, lr _, lr _, lr _, lr _, trivial⟩ (by have e1 := lo_take (p := p) hk' part a b; have e2 := hi_take (p := p) hk' part a b; simp [inP, *] at e1 e2; rw [e1, e2]; rfl) (by simp [slotsIn, objsIn, sget, keepS, AObj.inB, AV.inB, AV.inL, AV.inE, inE_map]) (by simp [slotsIn, objsIn, sget, keepS, AObj.inB, AV.inB, AV.inL, AV.inE, inE_map]) (by simp [he0])⟩
   ·
    have g3' := g3
    try simp only [qq] at g3'
    refine sq_no rfl rfl (less_b g3) rfl rfl ?_
    refine sq_no rfl rfl (less_b g3) rfl rfl ?_
    refine sq_no rfl rfl (less_b g3) rfl rfl ?_
    refine sq_no rfl rfl (less_b g3) rfl rfl ?_
    refine sq_no rfl rfl (less_b g3) rfl rfl ?_
    refine sq_no rfl rfl (less_b g3) rfl rfl ?_
    refine sq_ev rfl (ev_pickF (v := .raw _) (less_b g3) (lr _)) ?_
    refine sq_nil ?_
    refine aw_false (lr _) ?_
    refine aw_skip (aw_region ?_)
    refine mvr (lr _) rfl (sq_ev rfl (ev_add (lr _) (lr _) (wr (by omega) (by omega))) ?_)
    refine asr (lr _) rfl (sq_nil ?_)
    exact ⟨⟨k + 1, by omega⟩, by simp only; omega, Sub.fin 3 ⟨lr _, lr _, lr _, lr _, lr _, lr _, lr _, lr _, trivial⟩ (by have e1 := lo_take (p := p) hk' part a b; have e2 := hi_take (p := p) hk' part a b; simp [inP, *] at e1 e2; rw [e1, e2]; rfl) (by simp [slotsIn, objsIn, sget, keepS, AObj.inB, AV.inB, AV.inL, AV.inE, inE_map]) (by simp [slotsIn, objsIn, sget, keepS, AObj.inB, AV.inB, AV.inL, AV.inE, inE_map]) (by simp [he0])⟩
  ·
   have g2' := g2
   try simp only [qq] at g2'
   refine sq_no rfl rfl (less_b g2) rfl rfl ?_
   refine sq_no rfl rfl (less_b g2) rfl rfl ?_
   refine sq_no rfl rfl (less_b g2) rfl rfl ?_
   refine sq_no rfl rfl (less_b g2) rfl rfl ?_
   refine sq_no rfl rfl (less_b g2) rfl rfl ?_
   refine sq_no rfl rfl (less_b g2) rfl rfl ?_
   refine sq_ev rfl (ev_pickF (v := .raw _) (less_b g2) (lr _)) ?_
   refine mvr (lr _) rfl (sq_no rfl rfl (lr _) rfl rfl ?_)
   refine sq_no rfl rfl (lr _) rfl rfl (sq_no rfl rfl (lr _) rfl rfl (sq_no rfl rfl (lr _) rfl rfl (sq_no rfl rfl (lr _) rfl rfl (sq_no rfl rfl (lr _) rfl rfl (pf rfl (lr _) (lr _) (sq_nil ?_))))))
   refine aw_false (lr _) ?_
   refine aw_skip (aw_region ?_)
   refine mvr (lr _) rfl (sq_ev rfl (ev_add (lr _) (lr _) (wr (by omega) (by omega))) ?_)
   refine asr (lr _) rfl (sq_nil ?_)
   exact ⟨⟨k + 1, by omega⟩, by simp only; omega, Sub.fin 3 ⟨lr _, lr _, lr _, lr _, lr _, lr _, lr _, lr _, trivial⟩ (by have e1 := lo_take (p := p) hk' part a b; have e2 := hi_take (p := p) hk' part a b; simp [inP, *] at e1 e2; rw [e1, e2]; rfl) (by simp [slotsIn, objsIn, sget, keepS, AObj.inB, AV.inB, AV.inL, AV.inE, inE_map]) (by simp [slotsIn, objsIn, sget, keepS, AObj.inB, AV.inB, AV.inL, AV.inE, inE_map]) (by simp [he0])⟩
 ·
  have c1' := c1
  try simp only [qq] at c1'
  obtain rfl : k = l.length := by omega
  refine aw_exit (aw_seq (aw_region ?_))
  refine sq_ev rfl (ev_load_agg (lr _) rfl ty23 rfl) ?_
  refine sq_store rfl (lr _) (lr _) rfl rfl ty23 rfl rfl ?_
  refine sq_nil (aw_ret ?_)
  exact retQ_res (vs := [.agg _]) rfl rfl ⟨resVar_cell rfl rfl ty23 rfl, trivial⟩ (Less.eq (by simp [lo, hi]))
theorem within_pure (n a b : Int) : APure Tryz.prog 111 [I n, .agg [I a, I b]] (B (inn n a b)) := by
 refine apure_of (rs := [.tmp 4]) Tryz.func111 rfl rfl (Nat.le_of_ble_eq_true rfl) (by simp [AV.pureL, AV.pureB, AV.pureE, pureE_map]) (rfl) fun e0 he0 => ?_
 refine aw_seq (aw_region ?_)
 refine sq_box rfl (lr _) rfl (asr (lr _) rfl (sq_nil (aw_seq (aw_region ?_))))
 refine mvr (lr _) rfl (sq_ev rfl (ev_fieldAddr fo23_0 (lr _)) ?_)
 refine sq_ev rfl (ev_load (lr _) rfl ty3 rfl) ?_
 refine sq_ev rfl (ev_fieldAddr fo23_1 (lr _)) ?_
 refine sq_ev rfl (ev_load (lr _) rfl ty3 rfl) ?_
 refine sq_ev rfl (ev_call en89 (lr _) (in_pure _ _ _) ⟨lr _, lr _, lr _, trivial⟩) ?_
 refine asr (lr _) rfl (sq_nil (aw_ret ?_))
 exact retQ_pure (v := .raw _) rfl rfl (Less.eq (by simp))
theorem whole_pure (p : Pl) (l : List Nat) (gp : GP p) (cv : CV p l) : APure Tryz.prog 110 [plan p, nats l] (.agg (wcells p l)) := by
 refine apure_of (rs := [.cell 4 120]) Tryz.func110 rfl rfl (Nat.le_of_ble_eq_true rfl) (by simp [AV.pureL, AV.pureB, AV.pureE, pureE_map]) (rfl) fun e0 he0 => ?_
 refine aw_seq (aw_region ?_)
 refine sq_box rfl (lr _) rfl ?_
 refine sq_alloc rfl z120 ?_
 refine sq_nil (aw_seq (aw_region ?_))
 refine sq_alloc rfl z120 ?_
 refine sq_nil (aw_seq (aw_seq (aw_region ?_)))
 refine asr (lr _) rfl (sq_nil (aw_block ?_))
 refine aw_loopk (ι := { k : Nat // k ≤ 3 }) [1, 2, 4, 5] (fun i => [(6, I i.1)]) (fun H i => H.set 2 (.cells (wpart p l i.1))) (fun i => 3 - i.1) (⟨0, by omega⟩) ⟨lr _, lr _, lr _, lr _, lr _, trivial⟩ rfl ?_
 rintro ⟨k, hk⟩
 dsimp only [keepS, St.put, sget, slotsOf, List.map_cons, List.map_nil, List.cons_append, List.nil_append, List.length_cons, List.length_nil, Nat.reduceBEq, Nat.reduceAdd, cond_true, cond_false]
 refine aw_seq (aw_seq (aw_region ?_))
 refine mvr (lr _) rfl (sq_ev rfl (ev_lss (lr _) (lr _)) ?_)
 refine sq_nil ?_
 refine aw_cond (lr _) (fun c1 => ?_) (fun c1 => ?_)
 ·
  have c1' := c1
  try simp only [qq] at c1'
  refine aw_skip (aw_seq (aw_block (aw_region ?_)))
  refine mvr (lr _) rfl (sq_ev rfl (ev_load_agg (lr _) rfl ty27 rfl) ?_)
  refine mvs rfl (lr _) (mvr (lr _) rfl (sq_ev rfl (ev_call en104 (lr _) (long_pure _ _ _ _ _ gp cv) ⟨lr _, lr _, lr _, lr _, lr _, trivial⟩) ?_))
  refine sq_ev rfl (ev_index_box ar120 (lr _) (lr _) rfl (by omega)) ?_
  refine sq_store rfl (lr _) (lr _) rfl rfl ty23 rfl (by rcases k with _ | _ | _ | k <;> first | rfl | omega) ?_
  refine sq_nil (aw_region ?_)
  refine mvr (lr _) rfl (sq_ev rfl (ev_add (lr _) (lr _) (wr (by omega) (by omega))) ?_)
  refine asr (lr _) rfl (sq_nil ?_)
  exact ⟨⟨k + 1, by omega⟩, by simp only; omega, Sub.fin 3 ⟨lr _, lr _, lr _, lr _, lr _, trivial⟩ (by rcases k with _ | _ | _ | k <;> first | rfl | omega) (by simp [slotsIn, objsIn, sget, keepS, AObj.inB, AV.inB, AV.inL, AV.inE, inE_map]) (by simp [slotsIn, objsIn, sget, keepS, AObj.inB, AV.inB, AV.inL, AV.inE, inE_map]) (by simp [he0])⟩
 ·
  have c1' := c1
  try simp only [qq] at c1'
  obtain rfl : k = 3 := by omega
  refine aw_exit (aw_seq (aw_region ?_))
  refine sq_ev rfl (ev_load_agg (lr _) rfl ty120 rfl) ?_
  refine sq_store rfl (lr _) (lr _) rfl rfl ty120 rfl rfl ?_
  refine sq_nil (aw_ret ?_)
  exact retQ_res (vs := [.agg _]) rfl rfl ⟨resVar_cell rfl rfl ty120 rfl, trivial⟩ (Less.eq (by simp))
end Go.Proofs.YtjghdbdiejaacaaGreatDoor
namespace Go.Proofs.YtjghdbdiejaacaaGreatDoor
open Go Go.Ab Ni
abbrev hourC (h : Int × Int × Int) : List AV := [I h.1, I h.2.1, I h.2.2]
theorem inE_hour (n : Nat) (l : List (Int × Int × Int)) : AV.inE n (l.map hourC) = true := inE_map fun x _ => by simp [AV.inL, AV.inB]
abbrev hourS (l : List (Int × Int × Int)) : AV := .sl 3 (l.map hourC)
theorem bi125 : bldInfo Tryz.prog 125 = some ([.raw (.int .i64 0), .raw (.int .i64 0), .raw (.int .i64 0)], false, [], 1) := by kernel_rfl
theorem en102 : Ent Tryz.prog 102 := Ent.of Tryz.func102 (by kernel_rfl) rfl
theorem en110 : Ent Tryz.prog 110 := Ent.of Tryz.func110 (by kernel_rfl) rfl
theorem en111 : Ent Tryz.prog 111 := Ent.of Tryz.func111 (by kernel_rfl) rfl
theorem sf122 : SlFact Tryz.prog 122 125 3 24 := SlFact.of (by kernel_rfl)
theorem sl122 : slElem Tryz.prog 122 = some (125, 3) := by kernel_rfl
theorem hours_pure (p : Pl) (l : List Nat) (gp : GP p) (cv : CV p l) : APure Tryz.prog 102 [plan p, nats l] (hourS (hrs p l)) := by
 refine apure_of (rs := [.tmp 4]) Tryz.func102 rfl rfl (Nat.le_of_ble_eq_true rfl) (by simp [AV.pureL, AV.pureB, AV.pureE, pureE_map]) (by simp [AV.pureL, AV.pureB, AV.pureE, pureE_map]) fun e0 he0 => ?_
 refine aw_seq (aw_region ?_)
 refine sq_box rfl (lr _) rfl (asr (lr _) rfl (sq_nil (aw_seq (aw_region ?_))))
 refine sq_ev rfl (ev_load_agg (lr _) rfl ty27 rfl) ?_
 refine mvs rfl (lr _) (sq_ev rfl (ev_call en110 (lr _) (whole_pure _ _ gp cv) ⟨lr _, lr _, trivial⟩) ?_)
 refine sq_alloc rfl z120 ?_
 refine sq_store rfl (lr _) (lr _) rfl rfl ty120 rfl rfl ?_
 refine sq_nil (aw_seq (aw_region ?_))
 refine asr (lr _) rfl (sq_nil (aw_seq (aw_seq (aw_region ?_))))
 refine sq_ev rfl (ev_fieldAddr fo27_1 (lr _)) ?_
 refine sq_ev rfl (ev_index_box ar24 (lr _) (lr _) rfl (by decide)) ?_
 refine sq_ev rfl (ev_fieldAddr fo23_0 (lr _)) ?_
 refine sq_ev rfl (ev_load (lr _) rfl ty3 rfl) ?_
 refine asr (lr _) rfl (sq_nil (aw_block ?_))
 refine aw_sub (sub_token 6 3 (lr _)) ?_
 refine aw_loopk (ι := { i : Nat // i ≤ wid p.s0l p.s0h }) [2, 5] (fun i => [(7, I (p.s0l + i.1)), (6, .own 2 3 ((fm i.1 (hA p l)).map hourC))]) (fun H i => H.set 2 (.tok ((fm i.1 (hA p l)).map hourC).length)) (fun i => wid p.s0l p.s0h - i.1) (⟨0, Nat.zero_le _⟩) ⟨(by exact less_int (by simp)), lr _, lr _, lr _, trivial⟩ rfl ?_
 rintro ⟨i, i1⟩
 dsimp only [keepS, St.put, sget, slotsOf, List.map_cons, List.map_nil, List.cons_append, List.nil_append, List.length_cons, List.length_nil, Nat.reduceBEq, Nat.reduceAdd, cond_true, cond_false]
 have g1 := gp.beg
 have g2 := gp.s0l
 have g3 := gp.s0h
 have g4 := gp.s1l
 have g5 := gp.s1h
 have g6 := gp.dl
 have g7 := gp.dh
 have q1 := hAs_len gp l i1
 have w1 : wid p.s0l p.s0h = (p.s0h - p.s0l + 1).toNat := rfl
 have w2 : wid p.s1l p.s1h = (p.s1h - p.s1l + 1).toNat := rfl
 have w3 : wid p.dl p.dh = (p.dh - p.dl + 1).toNat := rfl
 refine aw_seq (aw_seq (aw_region ?_))
 refine mvr (lr _) rfl (sq_ev rfl (ev_fieldAddr fo27_1 (lr _)) ?_)
 refine sq_ev rfl (ev_index_box ar24 (lr _) (lr _) rfl (by decide)) ?_
 refine sq_ev rfl (ev_fieldAddr fo23_1 (lr _)) ?_
 refine sq_ev rfl (ev_load (lr _) rfl ty3 rfl) ?_
 refine sq_ev rfl (ev_leq (lr _) (lr _)) ?_
 refine sq_nil ?_
 refine aw_cond (lr _) (fun c1 => ?_) (fun c1 => ?_)
 ·
  have c1' := c1
  try simp only [qq] at c1'
  refine aw_skip (aw_seq (aw_block (aw_seq (aw_region ?_))))
  refine sq_ev rfl (ev_fieldAddr fo27_1 (lr _)) ?_
  refine sq_ev rfl (ev_index_box ar24 (lr _) (lr _) rfl (by decide)) ?_
  refine sq_ev rfl (ev_fieldAddr fo23_0 (lr _)) ?_
  refine sq_ev rfl (ev_load (lr _) rfl ty3 rfl) ?_
  refine asr (lr _) rfl (sq_nil (aw_block ?_))
  refine aw_loopk (ι := { j : Nat // j ≤ wid p.s1l p.s1h ∧ (0 < j → inn (p.s0l + i - p.beg) (lo p l 0 0 10) (hi p l 0 0 10) = true) }) [2, 5, 7] (fun j => [(8, I (p.s1l + j.1)), (6, .own 2 3 ((fm i (hA p l) ++ fm j.1 (hB p l (p.s0l + i))).map hourC))]) (fun H j => H.set 2 (.tok (((fm i (hA p l) ++ fm j.1 (hB p l (p.s0l + i)))).map hourC).length)) (fun j => wid p.s1l p.s1h - j.1) (⟨0, Nat.zero_le _, by omega⟩) ⟨(by exact less_int (by simp)), (by exact Less.eq (a := .own 2 3 ((fm i (hA p l)).map hourC)) (by simp [fm_zero])), lr _, lr _, lr _, trivial⟩ (by rw [fm_zero, List.append_nil]; rfl) ?_
  rintro ⟨j, j1, hj0⟩
  dsimp only [keepS, St.put, sget, slotsOf, List.map_cons, List.map_nil, List.cons_append, List.nil_append, List.length_cons, List.length_nil, Nat.reduceBEq, Nat.reduceAdd, cond_true, cond_false]
  have q2 := hBs_len gp l (p.s0l + i) j1
  refine aw_seq (aw_seq (aw_region ?_))
  refine mvr (lr _) rfl (sq_ev rfl (ev_fieldAddr fo27_1 (lr _)) ?_)
  refine sq_ev rfl (ev_index_box ar24 (lr _) (lr _) rfl (by decide)) ?_
  refine sq_ev rfl (ev_fieldAddr fo23_1 (lr _)) ?_
  refine sq_ev rfl (ev_load (lr _) rfl ty3 rfl) ?_
  refine sq_ev rfl (ev_leq (lr _) (lr _)) ?_
  refine mvr (lr _) rfl ?_
  refine sq_split 35 (lr _) (fun g2 => ?_) (fun g2 => ?_)
  ·
   have g2' := g2
   try simp only [qq] at g2'
   refine sq_yes rfl rfl (less_b g2) rfl (ev_mv (v := .raw _) (lr _)) ?_
   refine sq_yes rfl rfl (less_b g2) rfl (ev_fieldAddr fo27_0 (lr _)) ?_
   refine sq_yes rfl rfl (less_b g2) rfl (ev_load (lr _) rfl ty3 rfl) ?_
   refine sq_yes rfl rfl (less_b g2) rfl (ev_sub (lr _) (lr _) (wr (by omega) (by omega))) ?_
   refine sq_yes rfl rfl (less_b g2) rfl (ev_index_box ar120 (lr _) (lr _) rfl (by decide)) ?_
   refine sq_yes rfl rfl (less_b g2) rfl (ev_load_agg (lr _) rfl ty23 rfl) ?_
   refine sq_yes rfl rfl (less_b g2) rfl (ev_call en111 (lr _) (within_pure _ _ _) ⟨lr _, lr _, trivial⟩) ?_
   refine sq_ev rfl (ev_pickT (v := .raw _) (less_b g2) (lr _)) ?_
   refine sq_nil ?_
   refine aw_cond (lr _) (fun c3 => ?_) (fun c3 => ?_)
   ·
    have c3' := c3
    try simp only [qq] at c3'
    refine aw_skip (aw_seq (aw_block (aw_seq (aw_region ?_))))
    refine sq_ev rfl (ev_fieldAddr fo27_2 (lr _)) ?_
    refine sq_ev rfl (ev_fieldAddr fo23_0 (lr _)) ?_
    refine sq_ev rfl (ev_load (lr _) rfl ty3 rfl) ?_
    refine asr (lr _) rfl (sq_nil (aw_block ?_))
    refine aw_loopk (ι := { k : Nat // k ≤ wid p.dl p.dh ∧ (0 < k → inn (p.s1l + j - (p.s0l + i)) (lo p l 1 0 10) (hi p l 1 0 10) = true) }) [2, 5, 7, 8] (fun k => [(9, I (p.dl + k.1)), (6, .own 2 3 ((fm i (hA p l) ++ fm j (hB p l (p.s0l + i)) ++ fm k.1 (hC p l (p.s0l + i) (p.s1l + j))).map hourC))]) (fun H k => H.set 2 (.tok (((fm i (hA p l) ++ fm j (hB p l (p.s0l + i)) ++ fm k.1 (hC p l (p.s0l + i) (p.s1l + j)))).map hourC).length)) (fun k => wid p.dl p.dh - k.1) (⟨0, Nat.zero_le _, by omega⟩) ⟨(by exact less_int (by simp)), (by exact Less.eq (a := .own 2 3 ((fm i (hA p l) ++ fm j (hB p l (p.s0l + i))).map hourC)) (by simp [fm_zero])), lr _, lr _, lr _, lr _, trivial⟩ (by rw [fm_zero, List.append_nil]; rfl) ?_
    rintro ⟨k, k1, hk0⟩
    dsimp only [keepS, St.put, sget, slotsOf, List.map_cons, List.map_nil, List.cons_append, List.nil_append, List.length_cons, List.length_nil, Nat.reduceBEq, Nat.reduceAdd, cond_true, cond_false]
    have q3 := hCs_len gp l (p.s0l + i) (p.s1l + j) k1
    refine aw_seq (aw_seq (aw_region ?_))
    refine mvr (lr _) rfl (sq_ev rfl (ev_fieldAddr fo27_2 (lr _)) ?_)
    refine sq_ev rfl (ev_fieldAddr fo23_1 (lr _)) ?_
    refine sq_ev rfl (ev_load (lr _) rfl ty3 rfl) ?_
    refine sq_ev rfl (ev_leq (lr _) (lr _)) ?_
    refine mvr (lr _) rfl ?_
    refine sq_split 54 (lr _) (fun g4 => ?_) (fun g4 => ?_)
    ·
     have g4' := g4
     try simp only [qq] at g4'
     refine sq_yes rfl rfl (less_b g4) rfl (ev_mv (v := .raw _) (lr _)) ?_
     refine sq_yes rfl rfl (less_b g4) rfl (ev_mv (v := .raw _) (lr _)) ?_
     refine sq_yes rfl rfl (less_b g4) rfl (ev_sub (lr _) (lr _) (wr (by omega) (by omega))) ?_
     refine sq_yes rfl rfl (less_b g4) rfl (ev_index_box ar120 (lr _) (lr _) rfl (by decide)) ?_
     refine sq_yes rfl rfl (less_b g4) rfl (ev_load_agg (lr _) rfl ty23 rfl) ?_
     refine sq_yes rfl rfl (less_b g4) rfl (ev_call en111 (lr _) (within_pure _ _ _) ⟨lr _, lr _, trivial⟩) ?_
     refine sq_ev rfl (ev_pickT (v := .raw _) (less_b g4) (lr _)) ?_
     refine sq_nil ?_
     refine aw_cond (lr _) (fun c5 => ?_) (fun c5 => ?_)
     ·
      have c5' := c5
      try simp only [qq] at c5'
      refine aw_skip (aw_seq (aw_block (aw_seq (aw_region ?_))))
      refine mvr (lr _) rfl (mvr (lr _) rfl (sq_ev rfl (ev_sub (lr _) (lr _) (wr (by omega) (by omega))) ?_))
      refine sq_ev rfl (ev_index_box ar120 (lr _) (lr _) rfl (by decide)) ?_
      refine sq_ev rfl (ev_load_agg (lr _) rfl ty23 rfl) ?_
      refine sq_ev rfl (ev_call en111 (lr _) (within_pure _ _ _) ⟨lr _, lr _, trivial⟩) ?_
      refine sq_nil ?_
      refine aw_cond (lr _) (fun c6 => ?_) (fun c6 => ?_)
      ·
       have c6' := c6
       try simp only [qq] at c6'
       have e3 : (fm i (hA p l) ++ fm j (hB p l (p.s0l + i)) ++ fm (k + 1) (hC p l (p.s0l + i) (p.s1l + j))).map hourC = (fm i (hA p l) ++ fm j (hB p l (p.s0l + i)) ++ fm k (hC p l (p.s0l + i) (p.s1l + j))).map hourC ++ [hourC (p.s0l + i, p.s1l + j, p.dl + k)] := by rw [fm_succ, hC, if_pos c6']; simp
       have e4 : ((fm i (hA p l) ++ fm j (hB p l (p.s0l + i)) ++ fm (k + 1) (hC p l (p.s0l + i) (p.s1l + j))).map hourC).length = ((fm i (hA p l) ++ fm j (hB p l (p.s0l + i)) ++ fm k (hC p l (p.s0l + i) (p.s1l + j))).map hourC ++ [hourC (p.s0l + i, p.s1l + j, p.dl + k)]).length := by rw [e3]
       refine aw_region ?_
       refine sq_ev rfl (ev_mv (v := .own _ _ _) (lr _)) ?_
       refine mvr (lr _) rfl (mvr (lr _) rfl (mvr (lr _) rfl (sq_ev rfl (ev_build bi125 rfl) ?_)))
       refine sq_ev rfl (ev_buildSlice (es := [[_, _, _]]) sf122 rfl rfl rfl rfl) ?_
       refine sq_append rfl sf122 Tryz.underlying122 rfl rfl (less_slx _ _) (Nat.succ_pos _) (by simp; omega) (by simp; omega) ?_
       refine sq_ev rfl (ev_as (v := .own _ _ _) (lr _)) ?_
       refine sq_nil (aw_region ?_)
       refine mvr (lr _) rfl (sq_ev rfl (ev_add (lr _) (lr _) (wr (by omega) (by omega))) ?_)
       refine asr (lr _) rfl (sq_nil ?_)
       exact ⟨⟨k + 1, by omega, fun _ => by assumption⟩, by simp only; omega, Sub.fin 3 ⟨less_int (by first | omega | (simp only; omega)), Less.eq (b := .own 2 3 ((fm i (hA p l) ++ fm j (hB p l (p.s0l + i)) ++ fm (k + 1) (hC p l (p.s0l + i) (p.s1l + j))).map hourC)) (by rw [e3]; rfl), lr _, lr _, lr _, lr _, trivial⟩ (congrArg (fun n => [_, _, AObj.tok n]) e4.symm) (by simp [slotsIn, objsIn, sget, keepS, AObj.inB, AV.inB, AV.inL, inE_hour, inE_map, -List.map_append]) (by simp [slotsIn, objsIn, sget, keepS, AObj.inB, AV.inB, AV.inL, inE_hour, inE_map, -List.map_append]) (by simp [he0])⟩
      ·
       have c6' := c6
       try simp only [qq] at c6'
       have e3 : (fm i (hA p l) ++ fm j (hB p l (p.s0l + i)) ++ fm (k + 1) (hC p l (p.s0l + i) (p.s1l + j))).map hourC = (fm i (hA p l) ++ fm j (hB p l (p.s0l + i)) ++ fm k (hC p l (p.s0l + i) (p.s1l + j))).map hourC := by rw [fm_succ, hC, if_neg (by simp [c6'])]; simp
       have e4 : ((fm i (hA p l) ++ fm j (hB p l (p.s0l + i)) ++ fm (k + 1) (hC p l (p.s0l + i) (p.s1l + j))).map hourC).length = ((fm i (hA p l) ++ fm j (hB p l (p.s0l + i)) ++ fm k (hC p l (p.s0l + i) (p.s1l + j))).map hourC).length := by rw [e3]
       refine aw_skip (aw_region ?_)
       refine mvr (lr _) rfl (sq_ev rfl (ev_add (lr _) (lr _) (wr (by omega) (by omega))) ?_)
       refine asr (lr _) rfl (sq_nil ?_)
       exact ⟨⟨k + 1, by omega, fun _ => by assumption⟩, by simp only; omega, Sub.fin 3 ⟨less_int (by first | omega | (simp only; omega)), Less.eq (b := .own 2 3 ((fm i (hA p l) ++ fm j (hB p l (p.s0l + i)) ++ fm (k + 1) (hC p l (p.s0l + i) (p.s1l + j))).map hourC)) (by rw [e3]; rfl), lr _, lr _, lr _, lr _, trivial⟩ (congrArg (fun n => [_, _, AObj.tok n]) e4.symm) (by simp [slotsIn, objsIn, sget, keepS, AObj.inB, AV.inB, AV.inL, inE_hour, inE_map, -List.map_append]) (by simp [slotsIn, objsIn, sget, keepS, AObj.inB, AV.inB, AV.inL, inE_hour, inE_map, -List.map_append]) (by simp [he0])⟩
     ·
      have c5' := c5
      try simp only [qq] at c5'
      refine aw_exit (aw_region ?_)
      refine mvr (lr _) rfl (sq_ev rfl (ev_add (lr _) (lr _) (wr (by omega) (by omega))) ?_)
      refine asr (lr _) rfl (sq_nil ?_)
      have e5 : fm i (hA p l) ++ fm (j + 1) (hB p l (p.s0l + i)) = fm i (hA p l) ++ fm j (hB p l (p.s0l + i)) ++ fm k (hC p l (p.s0l + i) (p.s1l + j)) := by rw [fm_succ, hB_eq hk0 (by first | (left; omega) | (right; assumption)), List.append_assoc]
      exact ⟨⟨j + 1, by omega, fun _ => by assumption⟩, by simp only; omega, Sub.fin 3 ⟨less_int (by first | omega | (simp only; omega)), Less.eq (b := .own 2 3 ((fm i (hA p l) ++ fm (j + 1) (hB p l (p.s0l + i))).map hourC)) (by rw [e5] <;> rfl), lr _, lr _, lr _, trivial⟩ (congrArg (fun n => [_, _, AObj.tok n]) (congrArg (fun L => (List.map hourC L).length) e5.symm)) (by simp [slotsIn, objsIn, sget, keepS, AObj.inB, AV.inB, AV.inL, inE_hour, inE_map, -List.map_append]) (by simp [slotsIn, objsIn, sget, keepS, AObj.inB, AV.inB, AV.inL, inE_hour, inE_map, -List.map_append]) (by simp [he0])⟩
    ·
     have g4' := g4
     try simp only [qq] at g4'
     refine sq_no rfl rfl (less_b g4) rfl rfl ?_
     refine sq_no rfl rfl (less_b g4) rfl rfl ?_
     refine sq_no rfl rfl (less_b g4) rfl rfl ?_
     refine sq_no rfl rfl (less_b g4) rfl rfl ?_
     refine sq_no rfl rfl (less_b g4) rfl rfl ?_
     refine sq_no rfl rfl (less_b g4) rfl rfl ?_
     refine sq_ev rfl (ev_pickF (v := .raw _) (less_b g4) (lr _)) ?_
     refine sq_nil ?_
     refine aw_false (lr _) ?_
     refine aw_exit (aw_region ?_)
     refine mvr (lr _) rfl (sq_ev rfl (ev_add (lr _) (lr _) (wr (by omega) (by omega))) ?_)
     refine asr (lr _) rfl (sq_nil ?_)
     have e5 : fm i (hA p l) ++ fm (j + 1) (hB p l (p.s0l + i)) = fm i (hA p l) ++ fm j (hB p l (p.s0l + i)) ++ fm k (hC p l (p.s0l + i) (p.s1l + j)) := by rw [fm_succ, hB_eq hk0 (by first | (left; omega) | (right; assumption)), List.append_assoc]
     exact ⟨⟨j + 1, by omega, fun _ => by assumption⟩, by simp only; omega, Sub.fin 3 ⟨less_int (by first | omega | (simp only; omega)), Less.eq (b := .own 2 3 ((fm i (hA p l) ++ fm (j + 1) (hB p l (p.s0l + i))).map hourC)) (by rw [e5] <;> rfl), lr _, lr _, lr _, trivial⟩ (congrArg (fun n => [_, _, AObj.tok n]) (congrArg (fun L => (List.map hourC L).length) e5.symm)) (by simp [slotsIn, objsIn, sget, keepS, AObj.inB, AV.inB, AV.inL, inE_hour, inE_map, -List.map_append]) (by simp [slotsIn, objsIn, sget, keepS, AObj.inB, AV.inB, AV.inL, inE_hour, inE_map, -List.map_append]) (by simp [he0])⟩
   ·
    have c3' := c3
    try simp only [qq] at c3'
    refine aw_exit (aw_region ?_)
    refine mvr (lr _) rfl (sq_ev rfl (ev_add (lr _) (lr _) (wr (by omega) (by omega))) ?_)
    refine asr (lr _) rfl (sq_nil ?_)
    have e6 : fm (i + 1) (hA p l) = fm i (hA p l) ++ fm j (hB p l (p.s0l + i)) := by rw [fm_succ, hA_eq hj0 (by first | (left; omega) | (right; assumption))]
    exact ⟨⟨i + 1, by omega⟩, by simp only; omega, Sub.fin 3 ⟨less_int (by first | omega | (simp only; omega)), Less.eq (b := .own 2 3 ((fm (i + 1) (hA p l)).map hourC)) (by rw [e6] <;> rfl), lr _, lr _, trivial⟩ (congrArg (fun n => [_, _, AObj.tok n]) (congrArg (fun L => (List.map hourC L).length) e6.symm)) (by simp [slotsIn, objsIn, sget, keepS, AObj.inB, AV.inB, AV.inL, inE_hour, inE_map, -List.map_append]) (by simp [slotsIn, objsIn, sget, keepS, AObj.inB, AV.inB, AV.inL, inE_hour, inE_map, -List.map_append]) (by simp [he0])⟩
  ·
   have g2' := g2
   try simp only [qq] at g2'
   refine sq_no rfl rfl (less_b g2) rfl rfl ?_
   refine sq_no rfl rfl (less_b g2) rfl rfl ?_
   refine sq_no rfl rfl (less_b g2) rfl rfl ?_
   refine sq_no rfl rfl (less_b g2) rfl rfl ?_
   refine sq_no rfl rfl (less_b g2) rfl rfl ?_
   refine sq_no rfl rfl (less_b g2) rfl rfl ?_
   refine sq_no rfl rfl (less_b g2) rfl rfl ?_
   refine sq_ev rfl (ev_pickF (v := .raw _) (less_b g2) (lr _)) ?_
   refine sq_nil ?_
   refine aw_false (lr _) ?_
   refine aw_exit (aw_region ?_)
   refine mvr (lr _) rfl (sq_ev rfl (ev_add (lr _) (lr _) (wr (by omega) (by omega))) ?_)
   refine asr (lr _) rfl (sq_nil ?_)
   have e6 : fm (i + 1) (hA p l) = fm i (hA p l) ++ fm j (hB p l (p.s0l + i)) := by rw [fm_succ, hA_eq hj0 (by first | (left; omega) | (right; assumption))]
   exact ⟨⟨i + 1, by omega⟩, by simp only; omega, Sub.fin 3 ⟨less_int (by first | omega | (simp only; omega)), Less.eq (b := .own 2 3 ((fm (i + 1) (hA p l)).map hourC)) (by rw [e6] <;> rfl), lr _, lr _, trivial⟩ (congrArg (fun n => [_, _, AObj.tok n]) (congrArg (fun L => (List.map hourC L).length) e6.symm)) (by simp [slotsIn, objsIn, sget, keepS, AObj.inB, AV.inB, AV.inL, inE_hour, inE_map, -List.map_append]) (by simp [slotsIn, objsIn, sget, keepS, AObj.inB, AV.inB, AV.inL, inE_hour, inE_map, -List.map_append]) (by simp [he0])⟩
 ·
  have c1' := c1
  try simp only [qq] at c1'
  obtain rfl : i = wid p.s0l p.s0h := by omega
  refine aw_exit (aw_seq (aw_region ?_))
  refine sq_ev rfl (ev_mv (v := .own _ _ _) (lr _)) ?_
  refine sq_ev rfl (ev_as (v := .own _ _ _) (lr _)) ?_
  refine sq_nil (aw_ret ?_)
  exact retQ_pure (v := .own _ _ _) rfl rfl (Less.trans (less_own _ _ _) (Less.eq (by rfl)))
theorem can_pure (p : Pl) (l : List Nat) (gp : GP p) (cv : CV p l) : APure Tryz.prog 48 [plan p, nats l] (B (can p l)) := by
 refine apure_of (rs := [.tmp 4]) Tryz.func48 rfl rfl (Nat.le_of_ble_eq_true rfl) (by simp [AV.pureL, AV.pureB, AV.pureE, pureE_map]) (rfl) fun e0 he0 => ?_
 refine aw_seq (aw_region ?_)
 refine sq_box rfl (lr _) rfl (asr (lr _) rfl (sq_nil (aw_seq (aw_region ?_))))
 refine sq_ev rfl (ev_load_agg (lr _) rfl ty27 rfl) ?_
 refine mvs rfl (lr _) (sq_ev rfl (ev_call en102 (lr _) (hours_pure _ _ gp cv) ⟨lr _, lr _, trivial⟩) ?_)
 refine sq_ev rfl (ev_len_map sl122 (lr _)) ?_
 refine sq_ev rfl (ev_gtr (lr _) (lr _)) ?_
 refine asr (lr _) rfl (sq_nil (aw_ret ?_))
 exact retQ_pure (v := .raw _) rfl rfl (Less.eq (by simp [can]))
end Go.Proofs.YtjghdbdiejaacaaGreatDoor
namespace Go.Proofs.YtjghdbdiejaacaaGreatDoor
open Go Go.Ab Ni
theorem en144 : Ent Tryz.prog 144 := Ent.of Tryz.func144 (by kernel_rfl) rfl
theorem lists_pure {p : Pl} (gp : GP p) (m : Nat) : ∀ (now : List Nat), (∀ x ∈ now, x < p.scenes.length) → now.length + m ≤ 16 → APure Tryz.prog 144 [plan p, nats now, I (now.length + m)] (natss (lsts p.scenes.length m now)) := by
 induction m using Nat.strongRecOn with
 | _ m ih =>
 intro now hn hlen
 refine apure_of (rs := [.tmp 6]) Tryz.func144 rfl rfl (Nat.le_of_ble_eq_true rfl) (by simp [AV.pureL, AV.pureB, AV.pureE, pureE_map]) (by simp [AV.pureL, AV.pureB, AV.pureE, pureE_map]) fun e0 he0 => ?_
 refine aw_seq (aw_region ?_)
 refine sq_box rfl (lr _) rfl (asr (lr _) rfl (sq_nil (aw_seq (aw_seq (aw_region ?_)))))
 refine mvs rfl (lr _) (sq_ev rfl (ev_len_map sl34 (lr _)) ?_)
 refine mvr (lr _) rfl (sq_ev rfl (ev_eql (lr _) (lr _)) ?_)
 refine sq_nil ?_
 refine aw_cond (lr _) (fun c1 => ?_) (fun c1 => ?_)
 ·
  have c1' := c1
  try simp only [qq] at c1'
  obtain rfl : m = 0 := by omega
  refine aw_seq (aw_region ?_)
  refine mvs rfl (lr _) (sq_ev rfl (ev_buildSlice (es := [[_]]) sf30 rfl rfl rfl rfl) ?_)
  refine sq_ev rfl (ev_as (v := .slx _ _) (lr _)) ?_
  refine sq_nil (aw_ret ?_)
  exact retQ_pure (v := .slx _ _) rfl rfl (less_slx _ _)
 ·
  have c1' := c1
  try simp only [qq] at c1'
  obtain ⟨m, rfl⟩ : ∃ m0, m = m0 + 1 := ⟨m - 1, by omega⟩
  have hnl := nxt_le hn
  have gl := gp.len
  refine aw_skip (aw_seq (aw_region ?_))
  refine asr (lr _) rfl (sq_nil (aw_seq (aw_seq (aw_region ?_))))
  refine mvs rfl (lr _) (sq_ev rfl (ev_len_map sl34 (lr _)) ?_)
  refine sq_ev rfl (ev_gtr (lr _) (lr _)) ?_
  refine sq_nil ?_
  refine aw_cond (lr _) (fun c2 => ?_) (fun c2 => ?_)
  ·
   have c2' := c2
   try simp only [qq] at c2'
   have hnx := nxt_last (now := now) (by omega)
   refine aw_region ?_
   refine mvs rfl (lr _) (mvs rfl (lr _) (sq_ev rfl (ev_len_map sl34 (lr _)) ?_))
   refine sq_ev rfl (ev_sub (lr _) (lr _) (wr (by omega) (by omega))) ?_
   refine sq_ev rfl (ev_index_map sl34 (lr _) (lr _) (show ((now.length : Int) - 1) = ((now.length - 1 : Nat) : Int) by omega) (by omega)) ?_
   refine sq_ev rfl (ev_load_i (lr _) ty3 rfl) ?_
   refine sq_ev rfl (ev_add (lr _) (lr _) (wr (by omega) (by omega))) ?_
   refine asr (lr _) rfl (sq_nil (aw_seq (aw_region ?_)))
   refine asr (lr _) rfl (sq_nil (aw_seq (aw_seq (aw_region ?_))))
   refine mvr (lr _) rfl (asr (lr _) rfl (sq_nil (aw_block ?_)))
   refine aw_sub (sub_token 8 1 (lr _)) ?_
   refine aw_loopk (ι := { k : Nat // k ≤ p.scenes.length - nxt now }) [1, 2, 3] (fun k => [(9, I (nxt now + k.1)), (8, .own 1 1 ((fm k.1 fun i => lsts p.scenes.length m (now ++ [nxt now + i])).map (fun x => [nats x])))]) (fun H k => H.set 1 (.tok ((fm k.1 fun i => lsts p.scenes.length m (now ++ [nxt now + i])).map (fun x => [nats x])).length)) (fun k => p.scenes.length - nxt now - k.1) (⟨0, Nat.zero_le _⟩) ⟨(by exact less_int (by first | omega | (simp only; omega))), lr _, lr _, lr _, lr _, trivial⟩ rfl ?_
   rintro ⟨k, k1⟩
   dsimp only [keepS, St.put, sget, slotsOf, List.map_cons, List.map_nil, List.cons_append, List.nil_append, List.length_cons, List.length_nil, Nat.reduceBEq, Nat.reduceAdd, cond_true, cond_false]
   have q1 := lsts_part (m := m) now gp.len k1
   have q2 := lsts_all (m := m) (now ++ [nxt now + k]) gp.len
   refine aw_seq (aw_seq (aw_region ?_))
   refine mvr (lr _) rfl (sq_ev rfl (ev_fieldAddr fo27_3 (lr _)) ?_)
   refine sq_ev rfl (ev_load (lr _) rfl ty25 rfl) ?_
   refine sq_ev rfl (ev_len_map sl25 (lr _)) ?_
   refine sq_ev rfl (ev_lss (lr _) (lr _)) ?_
   refine sq_nil ?_
   refine aw_cond (lr _) (fun c3 => ?_) (fun c3 => ?_)
   ·
    have c3' := c3
    try simp only [qq] at c3'
    refine aw_skip (aw_seq (aw_block ?_))
    refine aw_drawc [] [3, 6, 9] _ mo (by kernel_rfl) (HSub.refl _) ?_
    refine dc_ev rfl (ev_mv (v := .own _ _ _) (lr _)) ?_
    refine dc_ev rfl (ev_load_agg (lr _) rfl ty27 rfl) ?_
    refine dc_ev rfl (ev_mv (v := .sl _ _) (lr _)) ?_
    refine dc_eff rfl rfl (eff_append_new rfl sf34 Tryz.underlying34 (less_nilx _) (lr _) (by simp; omega) (by simp; omega)) (by apply HL.sub; repeat' (first | exact HL.nil _ | apply HL.same | apply HL.tok)) ?_
    refine dc_ev rfl (ev_mv (v := .raw _) (lr _)) ?_
    refine dc_ev rfl (ev_buildSlice (es := [[_]]) sf34 rfl rfl rfl rfl) ?_
    refine dc_eff rfl rfl (eff_append rfl sf34 Tryz.underlying34 rfl rfl (less_slx _ _) (by simp; omega) (by simp; omega)) (by apply HL.sub; repeat' (first | exact HL.nil _ | apply HL.same | apply HL.tok)) ?_
    refine dc_ev rfl (ev_mv (v := .raw _) (lr _)) ?_
    refine dc_ev rfl (ev_call en144 (lr _) (ih m (by omega) (now ++ [nxt now + k]) (fun x hx => (by rcases List.mem_append.1 hx with h | h; exact hn x h; simp at h; omega)) (by simp; omega)) ⟨lr _, Less.trans (less_own _ _ _) (Less.eq (by simp)), less_int (by simp; omega), trivial⟩) ?_
    refine dc_eff rfl rfl (eff_append rfl sf30 Tryz.underlying30 rfl rfl (lr _) (by simp; omega) (by simp; omega)) (by apply HL.sub; repeat' (first | exact HL.nil _ | apply HL.same | apply HL.tok)) ?_
    refine dc_ev rfl (ev_as (v := .own _ _ _) (lr _)) ?_
    refine dc_nil (aw_region ?_)
    refine mvr (lr _) rfl (sq_ev rfl (ev_add (lr _) (lr _) (wr (by omega) (by omega))) ?_)
    refine asr (lr _) rfl (sq_nil ?_)
    have e1 : (fm (k + 1) fun i => lsts p.scenes.length m (now ++ [nxt now + i])).map (fun x => [nats x]) = ((fm k fun i => lsts p.scenes.length m (now ++ [nxt now + i])).map (fun x => [nats x])) ++ (lsts p.scenes.length m (now ++ [nxt now + k])).map (fun x => [nats x]) := by rw [fm_succ, List.map_append]
    have e2 : ((fm (k + 1) fun i => lsts p.scenes.length m (now ++ [nxt now + i])).map (fun x => [nats x])).length = ((fm k fun i => lsts p.scenes.length m (now ++ [nxt now + i])).map (fun x => [nats x]) ++ (lsts p.scenes.length m (now ++ [nxt now + k])).map (fun x => [nats x])).length := by rw [e1]
    exact ⟨⟨k + 1, by omega⟩, by simp only; omega, Sub.fin 2 ⟨less_int (by first | omega | (simp only; omega)), Less.eq (b := .own 1 1 ((fm (k + 1) fun i => lsts p.scenes.length m (now ++ [nxt now + i])).map (fun x => [nats x]))) (by rw [e1] <;> rfl), lr _, lr _, lr _, trivial⟩ (congrArg (fun n => [_, AObj.tok n]) e2.symm) (by simp [slotsIn, objsIn, sget, keepS, AObj.inB, AV.inB, AV.inL, AV.inE, inE_map, inE_nats, -List.map_append]) (by simp [slotsIn, objsIn, sget, keepS, AObj.inB, AV.inB, AV.inL, AV.inE, inE_map, inE_nats, -List.map_append]) (by simp [he0])⟩
   ·
    have c3' := c3
    try simp only [qq] at c3'
    obtain rfl : k = p.scenes.length - nxt now := by omega
    refine aw_exit (aw_seq (aw_region ?_))
    refine sq_ev rfl (ev_mv (v := .own _ _ _) (lr _)) ?_
    refine sq_ev rfl (ev_as (v := .own _ _ _) (lr _)) ?_
    refine sq_nil (aw_ret ?_)
    exact retQ_pure (v := .own _ _ _) rfl rfl (Less.trans (less_own _ _ _) (Less.eq (by rfl)))
  ·
   have c2' := c2
   try simp only [qq] at c2'
   have hnx := nxt_nil (now := now) (by omega)
   refine aw_skip (aw_seq (aw_region ?_))
   refine asr (lr _) rfl (sq_nil (aw_seq (aw_seq (aw_region ?_))))
   refine mvr (lr _) rfl (asr (lr _) rfl (sq_nil (aw_block ?_)))
   refine aw_sub (sub_token 8 1 (lr _)) ?_
   refine aw_loopk (ι := { k : Nat // k ≤ p.scenes.length - nxt now }) [1, 2, 3] (fun k => [(9, I (nxt now + k.1)), (8, .own 1 1 ((fm k.1 fun i => lsts p.scenes.length m (now ++ [nxt now + i])).map (fun x => [nats x])))]) (fun H k => H.set 1 (.tok ((fm k.1 fun i => lsts p.scenes.length m (now ++ [nxt now + i])).map (fun x => [nats x])).length)) (fun k => p.scenes.length - nxt now - k.1) (⟨0, Nat.zero_le _⟩) ⟨(by exact less_int (by first | omega | (simp only; omega))), lr _, lr _, lr _, lr _, trivial⟩ rfl ?_
   rintro ⟨k, k1⟩
   dsimp only [keepS, St.put, sget, slotsOf, List.map_cons, List.map_nil, List.cons_append, List.nil_append, List.length_cons, List.length_nil, Nat.reduceBEq, Nat.reduceAdd, cond_true, cond_false]
   have q1 := lsts_part (m := m) now gp.len k1
   have q2 := lsts_all (m := m) (now ++ [nxt now + k]) gp.len
   refine aw_seq (aw_seq (aw_region ?_))
   refine mvr (lr _) rfl (sq_ev rfl (ev_fieldAddr fo27_3 (lr _)) ?_)
   refine sq_ev rfl (ev_load (lr _) rfl ty25 rfl) ?_
   refine sq_ev rfl (ev_len_map sl25 (lr _)) ?_
   refine sq_ev rfl (ev_lss (lr _) (lr _)) ?_
   refine sq_nil ?_
   refine aw_cond (lr _) (fun c4 => ?_) (fun c4 => ?_)
   ·
    have c4' := c4
    try simp only [qq] at c4'
    refine aw_skip (aw_seq (aw_block ?_))
    refine aw_drawc [] [3, 6, 9] _ mo (by kernel_rfl) (HSub.refl _) ?_
    refine dc_ev rfl (ev_mv (v := .own _ _ _) (lr _)) ?_
    refine dc_ev rfl (ev_load_agg (lr _) rfl ty27 rfl) ?_
    refine dc_ev rfl (ev_mv (v := .sl _ _) (lr _)) ?_
    refine dc_eff rfl rfl (eff_append_new rfl sf34 Tryz.underlying34 (less_nilx _) (lr _) (by simp; omega) (by simp; omega)) (by apply HL.sub; repeat' (first | exact HL.nil _ | apply HL.same | apply HL.tok)) ?_
    refine dc_ev rfl (ev_mv (v := .raw _) (lr _)) ?_
    refine dc_ev rfl (ev_buildSlice (es := [[_]]) sf34 rfl rfl rfl rfl) ?_
    refine dc_eff rfl rfl (eff_append rfl sf34 Tryz.underlying34 rfl rfl (less_slx _ _) (by simp; omega) (by simp; omega)) (by apply HL.sub; repeat' (first | exact HL.nil _ | apply HL.same | apply HL.tok)) ?_
    refine dc_ev rfl (ev_mv (v := .raw _) (lr _)) ?_
    refine dc_ev rfl (ev_call en144 (lr _) (ih m (by omega) (now ++ [nxt now + k]) (fun x hx => (by rcases List.mem_append.1 hx with h | h; exact hn x h; simp at h; omega)) (by simp; omega)) ⟨lr _, Less.trans (less_own _ _ _) (Less.eq (by simp)), less_int (by simp; omega), trivial⟩) ?_
    refine dc_eff rfl rfl (eff_append rfl sf30 Tryz.underlying30 rfl rfl (lr _) (by simp; omega) (by simp; omega)) (by apply HL.sub; repeat' (first | exact HL.nil _ | apply HL.same | apply HL.tok)) ?_
    refine dc_ev rfl (ev_as (v := .own _ _ _) (lr _)) ?_
    refine dc_nil (aw_region ?_)
    refine mvr (lr _) rfl (sq_ev rfl (ev_add (lr _) (lr _) (wr (by omega) (by omega))) ?_)
    refine asr (lr _) rfl (sq_nil ?_)
    have e1 : (fm (k + 1) fun i => lsts p.scenes.length m (now ++ [nxt now + i])).map (fun x => [nats x]) = ((fm k fun i => lsts p.scenes.length m (now ++ [nxt now + i])).map (fun x => [nats x])) ++ (lsts p.scenes.length m (now ++ [nxt now + k])).map (fun x => [nats x]) := by rw [fm_succ, List.map_append]
    have e2 : ((fm (k + 1) fun i => lsts p.scenes.length m (now ++ [nxt now + i])).map (fun x => [nats x])).length = ((fm k fun i => lsts p.scenes.length m (now ++ [nxt now + i])).map (fun x => [nats x]) ++ (lsts p.scenes.length m (now ++ [nxt now + k])).map (fun x => [nats x])).length := by rw [e1]
    exact ⟨⟨k + 1, by omega⟩, by simp only; omega, Sub.fin 2 ⟨less_int (by first | omega | (simp only; omega)), Less.eq (b := .own 1 1 ((fm (k + 1) fun i => lsts p.scenes.length m (now ++ [nxt now + i])).map (fun x => [nats x]))) (by rw [e1] <;> rfl), lr _, lr _, lr _, trivial⟩ (congrArg (fun n => [_, AObj.tok n]) e2.symm) (by simp [slotsIn, objsIn, sget, keepS, AObj.inB, AV.inB, AV.inL, AV.inE, inE_map, inE_nats, -List.map_append]) (by simp [slotsIn, objsIn, sget, keepS, AObj.inB, AV.inB, AV.inL, AV.inE, inE_map, inE_nats, -List.map_append]) (by simp [he0])⟩
   ·
    have c4' := c4
    try simp only [qq] at c4'
    obtain rfl : k = p.scenes.length - nxt now := by omega
    refine aw_exit (aw_seq (aw_region ?_))
    refine sq_ev rfl (ev_mv (v := .own _ _ _) (lr _)) ?_
    refine sq_ev rfl (ev_as (v := .own _ _ _) (lr _)) ?_
    refine sq_nil (aw_ret ?_)
    exact retQ_pure (v := .own _ _ _) rfl rfl (Less.trans (less_own _ _ _) (Less.eq (by rfl)))
end Go.Proofs.YtjghdbdiejaacaaGreatDoor
namespace Go.Proofs.YtjghdbdiejaacaaGreatDoor
open Go Go.Ab Ni
theorem choice_pureN (p : Pl) (l : List Nat) (gp : GP p) (cv : CV p l) : APure Tryz.prog 78 [plan p, nats l] (B (isC p l)) := by
  rw [nats_ints]
  exact choice_pure p (up l) (by have := gp.len; omega) (by have := cv.len; simp [up]; omega)
theorem lists0_pure {p : Pl} (gp : GP p) (i : Nat) (h : i ≤ p.scenes.length) : APure Tryz.prog 144 [plan p, nats [], I ((p.scenes.length : Int) - i)] (natss (aL p i)) := by
  have := lists_pure gp (p.scenes.length - i) [] (by simp) (by have := gp.len; simp; omega)
  rw [show ((p.scenes.length : Int) - i) = (([] : List Nat).length : Int) + ((p.scenes.length - i : Nat) : Int) by simp; omega]
  exact this
theorem en78 : Ent Tryz.prog 78 := Ent.of Tryz.func78 (by kernel_rfl) rfl
theorem all_pure {p : Pl} (gp : GP p) : APure Tryz.prog 92 [plan p] (natss (allC p)) := by
 refine apure_of (rs := [.tmp 2]) Tryz.func92 rfl rfl (Nat.le_of_ble_eq_true rfl) (by simp [AV.pureL, AV.pureB, AV.pureE, pureE_map]) (by simp [AV.pureL, AV.pureB, AV.pureE, pureE_map]) fun e0 he0 => ?_
 refine aw_seq (aw_region ?_)
 refine sq_box rfl (lr _) rfl (asr (lr _) rfl (sq_nil (aw_seq (aw_region ?_))))
 refine asr (lr _) rfl (sq_nil (aw_seq (aw_seq (aw_region ?_))))
 refine sq_ev rfl (ev_fieldAddr fo27_3 (lr _)) ?_
 refine sq_ev rfl (ev_load (lr _) rfl ty25 rfl) ?_
 refine sq_ev rfl (ev_len_map sl25 (lr _)) ?_
 refine asr (lr _) rfl (sq_nil (aw_block ?_))
 refine aw_sub (sub_token 3 1 (lr _)) ?_
 have gl := gp.len
 refine aw_loopk (ι := { i : Nat // i ≤ p.scenes.length + 1 }) [1] (fun i => [(4, I ((p.scenes.length : Int) - i.1)), (3, .own 1 1 ((fm i.1 (aA p)).map (fun x => [nats x])))]) (fun H i => H.set 1 (.tok ((fm i.1 (aA p)).map (fun x => [nats x])).length)) (fun i => p.scenes.length + 1 - i.1) (⟨0, Nat.zero_le _⟩) ⟨(by exact less_int (by simp)), lr _, lr _, trivial⟩ rfl ?_
 rintro ⟨i, i1⟩
 dsimp only [keepS, St.put, sget, slotsOf, List.map_cons, List.map_nil, List.cons_append, List.nil_append, List.length_cons, List.length_nil, Nat.reduceBEq, Nat.reduceAdd, cond_true, cond_false]
 have q1 := aAs_len gp i1
 have q2 := aL_len gp i
 refine aw_seq (aw_seq (aw_region ?_))
 refine mvr (lr _) rfl (sq_ev rfl (ev_geq (lr _) (lr _)) ?_)
 refine sq_nil ?_
 refine aw_cond (lr _) (fun c1 => ?_) (fun c1 => ?_)
 ·
  have c1' := c1
  try simp only [qq] at c1'
  refine aw_skip (aw_seq (aw_block (aw_seq (aw_region ?_))))
  refine sq_ev rfl (ev_load_agg (lr _) rfl ty27 rfl) ?_
  refine mvr (lr _) rfl (sq_ev rfl (ev_call en144 (lr _) (lists0_pure gp i (by omega)) ⟨lr _, (less_nil 1), lr _, trivial⟩) ?_)
  refine ass rfl (lr _) (sq_nil (aw_seq (aw_region ?_)))
  refine asr (lr _) rfl (sq_nil (aw_block ?_))
  refine aw_loopk (ι := { j : Nat // j ≤ (aL p i).length }) [1, 4, 5] (fun j => [(6, I j.1), (3, .own 1 1 ((fm i (aA p) ++ ((aL p i).take j.1).filter (isC p)).map (fun x => [nats x])))]) (fun H j => H.set 1 (.tok ((fm i (aA p) ++ ((aL p i).take j.1).filter (isC p)).map (fun x => [nats x])).length)) (fun j => (aL p i).length - j.1) (⟨0, Nat.zero_le _⟩) ⟨lr _, (by exact Less.eq (a := .own 1 1 ((fm i (aA p)).map (fun x => [nats x]))) (by simp)), lr _, lr _, lr _, trivial⟩ (by simp; rfl) ?_
  rintro ⟨j, j1⟩
  dsimp only [keepS, St.put, sget, slotsOf, List.map_cons, List.map_nil, List.cons_append, List.nil_append, List.length_cons, List.length_nil, Nat.reduceBEq, Nat.reduceAdd, cond_true, cond_false]
  have q3 := ft_len (isC p) (aL p i) j
  refine aw_seq (aw_seq (aw_region ?_))
  refine mvr (lr _) rfl (mvs rfl (lr _) (sq_ev rfl (ev_len_map sl30 (lr _)) ?_))
  refine sq_ev rfl (ev_lss (lr _) (lr _)) ?_
  refine sq_nil ?_
  refine aw_cond (lr _) (fun c2 => ?_) (fun c2 => ?_)
  ·
   have c2' := c2
   try simp only [qq] at c2'
   refine aw_skip (aw_seq (aw_block (aw_seq ?_)))
   refine aw_draw 6 mo (by kernel_rfl) ?_
   refine dr_ev rfl (ev_load_agg (lr _) rfl ty27 rfl) ?_
   refine dr_ev rfl (ev_mv (v := .sl _ _) (lr _)) ?_
   refine dr_ev rfl (ev_mv (v := .raw _) (lr _)) ?_
   refine dr_ev rfl (ev_index_map sl30 (lr _) (lr _) rfl (by omega)) ?_
   refine dr_ev rfl (ev_load_i (lr _) ty34 rfl) ?_
   refine dr_ev rfl (ev_call en78 (lr _) (choice_pureN p _ gp (aL_mem gp _ (List.getElem_mem (show j < (aL p i).length by omega)))) ⟨lr _, lr _, trivial⟩) ?_
   refine dr_end (sq_nil ?_)
   refine aw_cond (lr _) (fun c3 => ?_) (fun c3 => ?_)
   ·
    have c3' := c3
    try simp only [qq] at c3'
    have e1 : (fm i (aA p) ++ ((aL p i).take (j + 1)).filter (isC p)).map (fun x => [nats x]) = (fm i (aA p) ++ ((aL p i).take j).filter (isC p)).map (fun x => [nats x]) ++ [[nats ((aL p i)[j]'(by omega))]] := by rw [filter_take_succ (isC p) (show j < (aL p i).length by omega), if_pos c3']; simp
    have e2 : ((fm i (aA p) ++ ((aL p i).take (j + 1)).filter (isC p)).map (fun x => [nats x])).length = ((fm i (aA p) ++ ((aL p i).take j).filter (isC p)).map (fun x => [nats x]) ++ [[nats ((aL p i)[j]'(by omega))]]).length := by rw [e1]
    refine aw_region ?_
    refine sq_ev rfl (ev_mv (v := .own _ _ _) (lr _)) ?_
    refine mvs rfl (lr _) (mvr (lr _) rfl (sq_ev rfl (ev_index_map sl30 (lr _) (lr _) rfl (by omega)) ?_))
    refine sq_ev rfl (ev_load_i (lr _) ty34 rfl) ?_
    refine sq_ev rfl (ev_buildSlice (es := [[_]]) sf30 rfl rfl rfl rfl) ?_
    refine sq_append rfl sf30 Tryz.underlying30 rfl rfl (less_slx _ _) (Nat.succ_pos _) (by simp; omega) (by simp; omega) ?_
    refine sq_ev rfl (ev_as (v := .own _ _ _) (lr _)) ?_
    refine sq_nil (aw_region ?_)
    refine mvr (lr _) rfl (sq_ev rfl (ev_add (lr _) (lr _) (wr (by omega) (by omega))) ?_)
    refine asr (lr _) rfl (sq_nil ?_)
    exact ⟨⟨j + 1, by omega⟩, by simp only; omega, Sub.fin 2 ⟨lr _, Less.eq (b := .own 1 1 ((fm i (aA p) ++ ((aL p i).take (j + 1)).filter (isC p)).map (fun x => [nats x]))) (by rw [e1] <;> rfl), lr _, lr _, lr _, trivial⟩ (congrArg (fun n => [_, AObj.tok n]) e2.symm) (by simp [slotsIn, objsIn, sget, keepS, AObj.inB, AV.inB, AV.inL, AV.inE, inE_map, inE_nats, -List.map_append]) (by simp [slotsIn, objsIn, sget, keepS, AObj.inB, AV.inB, AV.inL, AV.inE, inE_map, inE_nats, -List.map_append]) (by simp [he0])⟩
   ·
    have c3' := c3
    try simp only [qq] at c3'
    have e1 : (fm i (aA p) ++ ((aL p i).take (j + 1)).filter (isC p)).map (fun x => [nats x]) = (fm i (aA p) ++ ((aL p i).take j).filter (isC p)).map (fun x => [nats x]) := by rw [filter_take_succ (isC p) (show j < (aL p i).length by omega), if_neg (by simp [c3'])]; simp
    have e2 : ((fm i (aA p) ++ ((aL p i).take (j + 1)).filter (isC p)).map (fun x => [nats x])).length = ((fm i (aA p) ++ ((aL p i).take j).filter (isC p)).map (fun x => [nats x])).length := by rw [e1]
    refine aw_skip (aw_region ?_)
    refine mvr (lr _) rfl (sq_ev rfl (ev_add (lr _) (lr _) (wr (by omega) (by omega))) ?_)
    refine asr (lr _) rfl (sq_nil ?_)
    exact ⟨⟨j + 1, by omega⟩, by simp only; omega, Sub.fin 2 ⟨lr _, Less.eq (b := .own 1 1 ((fm i (aA p) ++ ((aL p i).take (j + 1)).filter (isC p)).map (fun x => [nats x]))) (by rw [e1] <;> rfl), lr _, lr _, lr _, trivial⟩ (congrArg (fun n => [_, AObj.tok n]) e2.symm) (by simp [slotsIn, objsIn, sget, keepS, AObj.inB, AV.inB, AV.inL, AV.inE, inE_map, inE_nats, -List.map_append]) (by simp [slotsIn, objsIn, sget, keepS, AObj.inB, AV.inB, AV.inL, AV.inE, inE_map, inE_nats, -List.map_append]) (by simp [he0])⟩
  ·
   have c2' := c2
   try simp only [qq] at c2'
   refine aw_exit (aw_region ?_)
   refine mvr (lr _) rfl (sq_ev rfl (ev_sub (lr _) (lr _) (wr (by omega) (by omega))) ?_)
   refine asr (lr _) rfl (sq_nil ?_)
   have e3 : fm (i + 1) (aA p) = fm i (aA p) ++ ((aL p i).take j).filter (isC p) := by rw [fm_succ, aA, List.take_of_length_le (by omega)]
   exact ⟨⟨i + 1, by omega⟩, by simp only; omega, Sub.fin 2 ⟨less_int (by first | omega | (simp only; omega)), Less.eq (b := .own 1 1 ((fm (i + 1) (aA p)).map (fun x => [nats x]))) (by rw [e3] <;> rfl), lr _, trivial⟩ (congrArg (fun n => [_, AObj.tok n]) (congrArg (fun L => (List.map (fun x => [nats x]) L).length) e3.symm)) (by simp [slotsIn, objsIn, sget, keepS, AObj.inB, AV.inB, AV.inL, AV.inE, inE_map, inE_nats, -List.map_append]) (by simp [slotsIn, objsIn, sget, keepS, AObj.inB, AV.inB, AV.inL, AV.inE, inE_map, inE_nats, -List.map_append]) (by simp [he0])⟩
 ·
  have c1' := c1
  try simp only [qq] at c1'
  obtain rfl : i = p.scenes.length + 1 := by omega
  refine aw_exit (aw_seq (aw_region ?_))
  refine sq_ev rfl (ev_mv (v := .own _ _ _) (lr _)) ?_
  refine sq_ev rfl (ev_as (v := .own _ _ _) (lr _)) ?_
  refine sq_nil (aw_ret ?_)
  exact retQ_pure (v := .own _ _ _) rfl rfl (Less.trans (less_own _ _ _) (Less.eq (by rfl)))
end Go.Proofs.YtjghdbdiejaacaaGreatDoor
namespace Go.Proofs.YtjghdbdiejaacaaGreatDoor
open Go Go.Ab Ni
theorem can_pureN {p : Pl} {l : List Nat} (gp : GP p) (cv : CV p l) : APure Tryz.prog 48 [plan p, nats l] (B (can p l)) := can_pure p l gp cv
theorem en25 : Ent Tryz.prog 25 := Ent.of Tryz.func25 (by kernel_rfl) rfl
theorem en48 : Ent Tryz.prog 48 := Ent.of Tryz.func48 (by kernel_rfl) rfl
theorem en92 : Ent Tryz.prog 92 := Ent.of Tryz.func92 (by kernel_rfl) rfl
theorem choices_pure {p : Pl} (gp : GP p) : APure Tryz.prog 25 [plan p] (natss (choicesC p)) := by
 refine apure_of (rs := [.tmp 2]) Tryz.func25 rfl rfl (Nat.le_of_ble_eq_true rfl) (by simp [AV.pureL, AV.pureB, AV.pureE, pureE_map]) (by simp [AV.pureL, AV.pureB, AV.pureE, pureE_map]) fun e0 he0 => ?_
 refine aw_seq (aw_region ?_)
 refine sq_box rfl (lr _) rfl (asr (lr _) rfl (sq_nil (aw_seq (aw_region ?_))))
 refine sq_ev rfl (ev_load_agg (lr _) rfl ty27 rfl) ?_
 refine sq_ev rfl (ev_call en92 (lr _) (all_pure gp) ⟨lr _, trivial⟩) ?_
 refine ass rfl (lr _) (sq_nil (aw_seq (aw_region ?_)))
 refine asr (lr _) rfl (sq_nil (aw_seq (aw_seq (aw_region ?_))))
 refine asr (lr _) rfl (sq_nil (aw_block ?_))
 refine aw_sub (sub_token 4 1 (lr _)) ?_
 refine aw_loopk (ι := { j : Nat // j ≤ (allC p).length }) [1, 3] (fun j => [(5, I j.1), (4, .own 1 1 ((((allC p).take j.1).filter (can p)).map (fun x => [nats x])))]) (fun H j => H.set 1 (.tok ((((allC p).take j.1).filter (can p)).map (fun x => [nats x])).length)) (fun j => (allC p).length - j.1) (⟨0, Nat.zero_le _⟩) ⟨lr _, lr _, lr _, lr _, trivial⟩ rfl ?_
 rintro ⟨j, j1⟩
 dsimp only [keepS, St.put, sget, slotsOf, List.map_cons, List.map_nil, List.cons_append, List.nil_append, List.length_cons, List.length_nil, Nat.reduceBEq, Nat.reduceAdd, cond_true, cond_false]
 have q2 := allC_len gp
 have q3 := ft_len (can p) (allC p) j
 refine aw_seq (aw_seq (aw_region ?_))
 refine mvr (lr _) rfl (mvs rfl (lr _) (sq_ev rfl (ev_len_map sl30 (lr _)) ?_))
 refine sq_ev rfl (ev_lss (lr _) (lr _)) ?_
 refine sq_nil ?_
 refine aw_cond (lr _) (fun c1 => ?_) (fun c1 => ?_)
 ·
  have c1' := c1
  try simp only [qq] at c1'
  refine aw_skip (aw_seq (aw_block (aw_seq ?_)))
  refine aw_draw 6 mo (by kernel_rfl) ?_
  refine dr_ev rfl (ev_load_agg (lr _) rfl ty27 rfl) ?_
  refine dr_ev rfl (ev_mv (v := .sl _ _) (lr _)) ?_
  refine dr_ev rfl (ev_mv (v := .raw _) (lr _)) ?_
  refine dr_ev rfl (ev_index_map sl30 (lr _) (lr _) rfl (by omega)) ?_
  refine dr_ev rfl (ev_load_i (lr _) ty34 rfl) ?_
  refine dr_ev rfl (ev_call en48 (lr _) (can_pureN gp (allC_mem gp _ (List.getElem_mem (show j < (allC p).length by omega)))) ⟨lr _, lr _, trivial⟩) ?_
  refine dr_end (sq_nil ?_)
  refine aw_cond (lr _) (fun c2 => ?_) (fun c2 => ?_)
  ·
   have c2' := c2
   try simp only [qq] at c2'
   have e1 : (((allC p).take (j + 1)).filter (can p)).map (fun x => [nats x]) = (((allC p).take j).filter (can p)).map (fun x => [nats x]) ++ [[nats ((allC p)[j]'(by omega))]] := by rw [filter_take_succ (can p) (show j < (allC p).length by omega), if_pos c2']; simp
   have e2 : ((((allC p).take (j + 1)).filter (can p)).map (fun x => [nats x])).length = ((((allC p).take j).filter (can p)).map (fun x => [nats x]) ++ [[nats ((allC p)[j]'(by omega))]]).length := by rw [e1]
   refine aw_region ?_
   refine sq_ev rfl (ev_mv (v := .own _ _ _) (lr _)) ?_
   refine mvs rfl (lr _) (mvr (lr _) rfl (sq_ev rfl (ev_index_map sl30 (lr _) (lr _) rfl (by omega)) ?_))
   refine sq_ev rfl (ev_load_i (lr _) ty34 rfl) ?_
   refine sq_ev rfl (ev_buildSlice (es := [[_]]) sf30 rfl rfl rfl rfl) ?_
   refine sq_append rfl sf30 Tryz.underlying30 rfl rfl (less_slx _ _) (Nat.succ_pos _) (by simp; omega) (by simp; omega) ?_
   refine sq_ev rfl (ev_as (v := .own _ _ _) (lr _)) ?_
   refine sq_nil (aw_region ?_)
   refine mvr (lr _) rfl (sq_ev rfl (ev_add (lr _) (lr _) (wr (by omega) (by omega))) ?_)
   refine asr (lr _) rfl (sq_nil ?_)
   exact ⟨⟨j + 1, by omega⟩, by simp only; omega, Sub.fin 2 ⟨lr _, Less.eq (b := .own 1 1 ((((allC p).take (j + 1)).filter (can p)).map (fun x => [nats x]))) (by rw [e1] <;> rfl), lr _, lr _, trivial⟩ (congrArg (fun n => [_, AObj.tok n]) e2.symm) (by simp [slotsIn, objsIn, sget, keepS, AObj.inB, AV.inB, AV.inL, AV.inE, inE_map, inE_nats, -List.map_append]) (by simp [slotsIn, objsIn, sget, keepS, AObj.inB, AV.inB, AV.inL, AV.inE, inE_map, inE_nats, -List.map_append]) (by simp [he0])⟩
  ·
   have c2' := c2
   try simp only [qq] at c2'
   have e1 : (((allC p).take (j + 1)).filter (can p)).map (fun x => [nats x]) = (((allC p).take j).filter (can p)).map (fun x => [nats x]) := by rw [filter_take_succ (can p) (show j < (allC p).length by omega), if_neg (by simp [c2'])]; simp
   have e2 : ((((allC p).take (j + 1)).filter (can p)).map (fun x => [nats x])).length = ((((allC p).take j).filter (can p)).map (fun x => [nats x])).length := by rw [e1]
   refine aw_skip (aw_region ?_)
   refine mvr (lr _) rfl (sq_ev rfl (ev_add (lr _) (lr _) (wr (by omega) (by omega))) ?_)
   refine asr (lr _) rfl (sq_nil ?_)
   exact ⟨⟨j + 1, by omega⟩, by simp only; omega, Sub.fin 2 ⟨lr _, Less.eq (b := .own 1 1 ((((allC p).take (j + 1)).filter (can p)).map (fun x => [nats x]))) (by rw [e1] <;> rfl), lr _, lr _, trivial⟩ (congrArg (fun n => [_, AObj.tok n]) e2.symm) (by simp [slotsIn, objsIn, sget, keepS, AObj.inB, AV.inB, AV.inL, AV.inE, inE_map, inE_nats, -List.map_append]) (by simp [slotsIn, objsIn, sget, keepS, AObj.inB, AV.inB, AV.inL, AV.inE, inE_map, inE_nats, -List.map_append]) (by simp [he0])⟩
 ·
  have c1' := c1
  try simp only [qq] at c1'
  obtain rfl : j = (allC p).length := by omega
  refine aw_exit (aw_seq (aw_region ?_))
  refine sq_ev rfl (ev_mv (v := .own _ _ _) (lr _)) ?_
  refine sq_ev rfl (ev_as (v := .own _ _ _) (lr _)) ?_
  refine sq_nil (aw_ret ?_)
  exact retQ_pure (v := .own _ _ _) rfl rfl (Less.trans (less_own _ _ _) (Less.eq (by rw [List.take_length] <;> rfl)))
theorem possible_pure {p : Pl} (gp : GP p) : APure Tryz.prog 101 [plan p] (B (decide (0 < (choicesC p).length))) := by
 refine apure_of (rs := [.tmp 2]) Tryz.func101 rfl rfl (Nat.le_of_ble_eq_true rfl) (by simp [AV.pureL, AV.pureB, AV.pureE, pureE_map]) (rfl) fun e0 he0 => ?_
 refine aw_seq (aw_region ?_)
 refine sq_box rfl (lr _) rfl (asr (lr _) rfl (sq_nil (aw_seq (aw_region ?_))))
 refine sq_ev rfl (ev_load_agg (lr _) rfl ty27 rfl) ?_
 refine sq_ev rfl (ev_call en25 (lr _) (choices_pure gp) ⟨lr _, trivial⟩) ?_
 refine sq_ev rfl (ev_len_map sl30 (lr _)) ?_
 refine sq_ev rfl (ev_gtr (lr _) (lr _)) ?_
 refine asr (lr _) rfl (sq_nil (aw_ret ?_))
 exact retQ_pure (v := .raw _) rfl rfl (Less.eq (by simp))
end Go.Proofs.YtjghdbdiejaacaaGreatDoor
namespace Go.Proofs.YtjghdbdiejaacaaGreatDoor
open Go Go.Ab Ni
section
variable {r : Option Nat} {H : List AObj} {ρ : Operand → AV} {d : Option Tmp} {t : TypeId} {p : String} {af : Array Edge} {g : Option (Nat × Bool)} {x y : Operand} {yt : TypeId} {a b c e : Int}
theorem ev_span_eql (hx : Less (ρ x) (.agg [I a, I b])) (hy : Less (ρ y) (.agg [I c, I e])) : Ev Tryz.prog r ⟨d, .binOp .eql 23 x y yt, t, p, af, g⟩ H ρ (B (decide (a = c) && decide (b = e))) :=
  ev_eql_agg (by kernel_rfl) (spanEq a b c e) (Less.trans hx (less_agg_raw (vs := [.int .i64 a, .int .i64 b]) rfl)) (Less.trans hy (less_agg_raw (vs := [.int .i64 c, .int .i64 e]) rfl))
end
theorem rnarrow0_pure (p : Pl) (a b : Int) : APure Tryz.prog 40 [plan p, I 0, .agg [I a, I b]] (plan (narP p 0 a b)) := by
 refine apure_of (rs := [.cell 6 27]) Tryz.func40 rfl rfl (Nat.le_of_ble_eq_true rfl) (by simp [AV.pureL, AV.pureB, AV.pureE, pureE_map]) (by simp [AV.pureL, AV.pureB, AV.pureE, pureE_map]) fun e0 he0 => ?_
 refine aw_seq (aw_region ?_)
 refine sq_box rfl (lr _) rfl (sq_box rfl (lr _) rfl ?_)
 refine sq_alloc rfl z27 ?_
 refine sq_nil (aw_seq (aw_seq (aw_region ?_)))
 refine mvr (lr _) rfl (sq_ev rfl (ev_eql (lr _) (lr _)) ?_)
 refine sq_nil ?_
 refine aw_cond (lr _) (fun c1 => ?_) (fun c1 => ?_)
 ·
  have c1' := c1
  try simp only [qq] at c1'
  cases c1
 ·
  have c1' := c1
  try simp only [qq] at c1'
  refine aw_region ?_
  refine mvr (lr _) rfl (sq_ev rfl (ev_load_agg (lr _) rfl ty23 rfl) ?_)
  refine sq_ev rfl (ev_fieldAddr fo27_1 (lr _)) ?_
  refine sq_ev rfl (ev_index_box (k := 0) ar24 (lr _) (lr _) rfl (by decide)) ?_
  refine sq_store rfl (lr _) (lr _) rfl rfl ty23 rfl rfl ?_
  refine sq_nil (aw_seq (aw_region ?_))
  refine sq_ev rfl (ev_load_agg (lr _) rfl ty27 rfl) ?_
  refine sq_store rfl (lr _) (lr _) rfl rfl ty27 rfl rfl ?_
  refine sq_nil (aw_ret ?_)
  exact retQ_res (vs := [.agg _]) rfl rfl ⟨resVar_cell rfl rfl ty27 rfl, trivial⟩ (lr _)
theorem rshort_pure (p : Pl) : APure Tryz.prog 20 [plan p] (B (decide (p.scenes.length ≤ 12))) := by
 refine apure_of (rs := [.tmp 2]) Tryz.func20 rfl rfl (Nat.le_of_ble_eq_true rfl) (by simp [AV.pureL, AV.pureB, AV.pureE, pureE_map]) (rfl) fun e0 he0 => ?_
 refine aw_seq (aw_region ?_)
 refine sq_box rfl (lr _) rfl (asr (lr _) rfl (sq_nil (aw_seq (aw_region ?_))))
 refine sq_ev rfl (ev_fieldAddr fo27_3 (lr _)) ?_
 refine sq_ev rfl (ev_load (lr _) rfl ty25 rfl) ?_
 refine sq_ev rfl (ev_len_map sl25 (lr _)) ?_
 refine sq_ev rfl (ev_leq (lr _) (lr _)) ?_
 refine asr (lr _) rfl (sq_nil (aw_ret ?_))
 exact retQ_pure (v := .raw _) rfl rfl (Less.eq (by simp; omega))
end Go.Proofs.YtjghdbdiejaacaaGreatDoor
namespace Go.Proofs.YtjghdbdiejaacaaGreatDoor
open Go Go.Ab Ni
theorem en20 : Ent Tryz.prog 20 := Ent.of Tryz.func20 (by kernel_rfl) rfl
theorem en21 : Ent Tryz.prog 21 := Ent.of Tryz.func21 (by kernel_rfl) rfl
theorem en24 : Ent Tryz.prog 24 := Ent.of Tryz.func24 (by kernel_rfl) rfl
theorem short_no {p : Pl} (h : ¬ p.scenes.length ≤ 12) : APure Tryz.prog 20 [plan p] (B false) := by have := rshort_pure p; simpa [h] using this
theorem short_yes {p : Pl} (h : p.scenes.length ≤ 12) : APure Tryz.prog 20 [plan p] (B true) := by have := rshort_pure p; simpa [h] using this
theorem plan_no {p : Pl} (hs : p.scenes.length ≤ 12) (h : PlOK p = false) : APure Tryz.prog 24 [plan p] (B false) := by have := plan_pure p (by omega); rwa [h] at this
theorem plan_yes {p : Pl} (hs : p.scenes.length ≤ 12) (h : PlOK p = true) : APure Tryz.prog 24 [plan p] (B true) := by have := plan_pure p (by omega); rwa [h] at this
end Go.Proofs.YtjghdbdiejaacaaGreatDoor
namespace Go.Proofs.YtjghdbdiejaacaaGreatDoor
open Go Go.Ab Ni
theorem en101 : Ent Tryz.prog 101 := Ent.of Tryz.func101 (by kernel_rfl) rfl
theorem has_nats (l : List Nat) (v : Nat) (hl : l.length ≤ 1000000) : APure Tryz.prog 62 [nats l, I v] (B (decide (v ∈ l))) := by
  have h := has_pure (up l) v (by simpa [up] using hl)
  unfold has at h
  have e1 : decide ((v : Int) ∈ up l) = decide (v ∈ l) := by
    refine decide_eq_decide.2 ?_
    simp only [up, List.mem_map]
    exact ⟨fun ⟨a, h1, h2⟩ => by
      obtain rfl : a = v := by omega
      exact h1, fun h => ⟨v, h, rfl⟩⟩
  have e2 : ints (up l) = nats l := by simp [up]
  rw [e1, e2] at h; exact h
end Go.Proofs.YtjghdbdiejaacaaGreatDoor
namespace Go.Proofs.YtjghdbdiejaacaaGreatDoor
open Go Go.Ab Ni
theorem ar125 : arrElem Tryz.prog 125 = some (3, 3, 1) := by kernel_rfl
theorem en103 : Ent Tryz.prog 103 := Ent.of Tryz.func103 (by kernel_rfl) rfl
theorem en105 : Ent Tryz.prog 105 := Ent.of Tryz.func105 (by kernel_rfl) rfl
theorem ty125 : tySz Tryz.prog 125 = some (true, 3) := by kernel_rfl
theorem wd_snoc (vs : List (Int × Int)) (v : Int × Int) : wd (vs ++ [v]) = if decide (0 < vs.length) = true then (min (wd vs).1 v.1, max (wd vs).2 v.2) else v := by
  by_cases h : 0 < vs.length
  · rw [if_pos (by simpa using h)]; exact wd_app (List.length_pos_iff.1 h) v
  · rw [if_neg (by simpa using h)]
    have : vs = [] := List.length_eq_zero_iff.1 (by omega)
    subst this; rfl
theorem hrs_bd {p : Pl} {l : List Nat} (gp : GP p) (wp : WP p) (cv : CV p l) {h : Hr} (hm : h ∈ hrs p l) (k : Nat) : (-10000 ≤ (prH p h k).1 ∧ (prH p h k).1 ≤ 10000) ∧ (0 ≤ (prH p h k).2 ∧ (prH p h k).2 ≤ 10000) := by
  obtain ⟨h1, h2, h3, h4, h5, h6, _, _, _, _, _, _⟩ := (mem_hrsH wp cv).1 hm
  have := gp.beg; have := gp.s0l; have := gp.s0h; have := gp.s1l; have := gp.s1h; have := gp.dl; have := gp.dh
  unfold prH
  split
  · simp only; omega
  · split
    · simp only; omega
    · simp only; omega
theorem hrs_len {p : Pl} (gp : GP p) (l : List Nat) : (hrs p l).length ≤ 1000300030001 := hAs_len gp l (Nat.le_refl _)
theorem rjoin_pure (a b c d : Int) (m : Bool) : APure Tryz.prog 103 [.agg [I a, I b], I c, I d, B m] (.agg [I (if m then min a c else c), I (if m then max b d else d)]) := by
  refine apure_of (rs := [.cell 8 23]) Tryz.func103 rfl rfl (Nat.le_of_ble_eq_true rfl) (by simp [AV.pureL, AV.pureB, AV.pureE, pureE_map]) (by cases m <;> rfl) fun e0 he0 => ?_
  refine aw_seq (aw_region ?_)
  refine sq_box rfl (lr _) rfl ?_
  refine sq_alloc rfl z23 ?_
  refine sq_nil (aw_seq (aw_seq (aw_region ?_)))
  refine mvr (lr _) rfl (sq_ev rfl (ev_not (lr _)) ?_)
  refine sq_nil ?_
  refine aw_cond (lr _) (fun c1 => ?_) (fun c1 => ?_)
  · skip
    have c1' := c1
    try simp only [qq] at c1'
    refine aw_seq (aw_region ?_)
    refine mvr (lr _) rfl (mvr (lr _) rfl (sq_ev rfl (ev_build bi23 rfl) ?_))
    refine sq_store rfl (lr _) (lr _) rfl rfl ty23 rfl rfl ?_
    refine sq_nil (aw_ret ?_)
    exact retQ_res (vs := [.agg _]) rfl rfl ⟨resVar_cell rfl rfl ty23 rfl, trivial⟩ (Less.eq (by simp [*]))
  · skip
    have c1' := c1
    try simp only [qq] at c1'
    refine aw_skip (aw_seq (aw_region ?_))
    refine sq_ev rfl (ev_fieldAddr fo23_0 (lr _)) ?_
    refine sq_ev rfl (ev_load (lr _) rfl ty3 rfl) ?_
    refine mvr (lr _) rfl (sq_ev rfl (ev_min2 (lr _) (lr _)) ?_)
    refine sq_ev rfl (ev_fieldAddr fo23_1 (lr _)) ?_
    refine sq_ev rfl (ev_load (lr _) rfl ty3 rfl) ?_
    refine mvr (lr _) rfl (sq_ev rfl (ev_max2 (lr _) (lr _)) ?_)
    refine sq_ev rfl (ev_build bi23 rfl) ?_
    refine sq_store rfl (lr _) (lr _) rfl rfl ty23 rfl rfl ?_
    refine sq_nil (aw_ret ?_)
    exact retQ_res (vs := [.agg _]) rfl rfl ⟨resVar_cell rfl rfl ty23 rfl, trivial⟩ (Less.eq (by simp [*]))
theorem rbegins0_pure (p : Pl) (h : Hr) : APure Tryz.prog 105 [plan p, .agg (hourC h), I 0] (.tup [I (prH p h 0).1, I (prH p h 0).2]) := by
 refine apure_of (rs := [.tmp 6, .tmp 7]) Tryz.func105 rfl rfl (Nat.le_of_ble_eq_true rfl) (by simp [AV.pureL, AV.pureB, AV.pureE, pureE_map]) (rfl) fun e0 he0 => ?_
 refine aw_seq (aw_region ?_)
 refine sq_box rfl (lr _) rfl ?_
 refine sq_box rfl (lr _) rfl (asr (lr _) rfl (asr (lr _) rfl (sq_nil (aw_seq (aw_seq (aw_region ?_))))))
 refine mvr (lr _) rfl (sq_ev rfl (ev_eql (lr _) (lr _)) ?_)
 refine sq_nil ?_
 refine aw_cond (lr _) (fun c1 => ?_) (fun c1 => ?_)
 ·
  have c1' := c1
  try simp only [qq] at c1'
  try exact absurd c1' (by decide)
  refine aw_seq ?_
  refine aw_draw 6 mo (by kernel_rfl) ?_
  refine dr_ev rfl (ev_fieldAddr fo27_0 (lr _)) ?_
  refine dr_ev rfl (ev_load (lr _) rfl ty3 rfl) ?_
  refine dr_ev rfl (ev_index_box (k := 0) ar125 (lr _) (lr _) rfl (by decide)) ?_
  refine dr_ev rfl (ev_load (lr _) rfl ty3 rfl) ?_
  refine dr_ev rfl (ev_as (v := .raw _) (lr _)) ?_
  refine dr_ev rfl (ev_as (v := .raw _) (lr _)) ?_
  refine dr_end (sq_nil (aw_ret ?_))
  exact retQ_pure (v := .tup [.raw _, .raw _]) rfl rfl (Less.eq (by simp [prH]))
 ·
  have c1' := c1
  try simp only [qq] at c1'
  try exact absurd (by decide) c1'
theorem rbegins1_pure (p : Pl) (h : Hr) : APure Tryz.prog 105 [plan p, .agg (hourC h), I 1] (.tup [I (prH p h 1).1, I (prH p h 1).2]) := by
 refine apure_of (rs := [.tmp 6, .tmp 7]) Tryz.func105 rfl rfl (Nat.le_of_ble_eq_true rfl) (by simp [AV.pureL, AV.pureB, AV.pureE, pureE_map]) (rfl) fun e0 he0 => ?_
 refine aw_seq (aw_region ?_)
 refine sq_box rfl (lr _) rfl ?_
 refine sq_box rfl (lr _) rfl (asr (lr _) rfl (asr (lr _) rfl (sq_nil (aw_seq (aw_seq (aw_region ?_))))))
 refine mvr (lr _) rfl (sq_ev rfl (ev_eql (lr _) (lr _)) ?_)
 refine sq_nil ?_
 refine aw_cond (lr _) (fun c1 => ?_) (fun c1 => ?_)
 ·
  have c1' := c1
  try simp only [qq] at c1'
  try exact absurd c1' (by decide)
 ·
  have c1' := c1
  try simp only [qq] at c1'
  try exact absurd (by decide) c1'
  refine aw_skip (aw_seq ?_)
  refine aw_draw 9 mo (by kernel_rfl) ?_
  refine dr_ev rfl (ev_mv (v := .raw _) (lr _)) ?_
  refine dr_ev rfl (ev_sub (lr _) (lr _) (wr (by omega) (by omega))) ?_
  refine dr_ev rfl (ev_index_box (k := 0) ar125 (lr _) (lr _) rfl (by decide)) ?_
  refine dr_ev rfl (ev_load (lr _) rfl ty3 rfl) ?_
  refine dr_ev rfl (ev_mv (v := .raw _) (lr _)) ?_
  refine dr_ev rfl (ev_index_box (k := 1) ar125 (lr _) (lr _) rfl (by decide)) ?_
  refine dr_ev rfl (ev_load (lr _) rfl ty3 rfl) ?_
  refine dr_ev rfl (ev_as (v := .raw _) (lr _)) ?_
  refine dr_ev rfl (ev_as (v := .raw _) (lr _)) ?_
  refine dr_end (sq_nil (aw_ret ?_))
  exact retQ_pure (v := .tup [.raw _, .raw _]) rfl rfl (Less.eq (by simp [prH]))
theorem rbegins2_pure (p : Pl) (h : Hr) : APure Tryz.prog 105 [plan p, .agg (hourC h), I 2] (.tup [I (prH p h 2).1, I (prH p h 2).2]) := by
 refine apure_of (rs := [.tmp 6, .tmp 7]) Tryz.func105 rfl rfl (Nat.le_of_ble_eq_true rfl) (by simp [AV.pureL, AV.pureB, AV.pureE, pureE_map]) (rfl) fun e0 he0 => ?_
 refine aw_seq (aw_region ?_)
 refine sq_box rfl (lr _) rfl ?_
 refine sq_box rfl (lr _) rfl (asr (lr _) rfl (asr (lr _) rfl (sq_nil (aw_seq (aw_seq (aw_region ?_))))))
 refine mvr (lr _) rfl (sq_ev rfl (ev_eql (lr _) (lr _)) ?_)
 refine sq_nil ?_
 refine aw_cond (lr _) (fun c1 => ?_) (fun c1 => ?_)
 ·
  have c1' := c1
  try simp only [qq] at c1'
  try exact absurd c1' (by decide)
 ·
  have c1' := c1
  try simp only [qq] at c1'
  try exact absurd (by decide) c1'
  refine aw_skip (aw_seq ?_)
  refine aw_draw 9 mo (by kernel_rfl) ?_
  refine dr_ev rfl (ev_mv (v := .raw _) (lr _)) ?_
  refine dr_ev rfl (ev_sub (lr _) (lr _) (wr (by omega) (by omega))) ?_
  refine dr_ev rfl (ev_index_box (k := 1) ar125 (lr _) (lr _) rfl (by decide)) ?_
  refine dr_ev rfl (ev_load (lr _) rfl ty3 rfl) ?_
  refine dr_ev rfl (ev_mv (v := .raw _) (lr _)) ?_
  refine dr_ev rfl (ev_index_box (k := 2) ar125 (lr _) (lr _) rfl (by decide)) ?_
  refine dr_ev rfl (ev_load (lr _) rfl ty3 rfl) ?_
  refine dr_ev rfl (ev_as (v := .raw _) (lr _)) ?_
  refine dr_ev rfl (ev_as (v := .raw _) (lr _)) ?_
  refine dr_end (sq_nil (aw_ret ?_))
  exact retQ_pure (v := .tup [.raw _, .raw _]) rfl rfl (Less.eq (by simp [prH]))
theorem rbegins_pure (p : Pl) (h : Hr) (k : Nat) (hk : k < 3) : APure Tryz.prog 105 [plan p, .agg (hourC h), I k] (.tup [I (prH p h k).1, I (prH p h k).2]) := by
  rcases k with _ | _ | _ | k
  · exact rbegins0_pure p h
  · exact rbegins1_pure p h
  · exact rbegins2_pure p h
  · omega
end Go.Proofs.YtjghdbdiejaacaaGreatDoor
namespace Go.Proofs.YtjghdbdiejaacaaGreatDoor
open Go Go.Ab Ni
section
variable {p : Pl} {l : List Nat} {n k : Nat} (wp : WP p) (cv : CV p l) (inc : l.Pairwise (· < ·)) (hc : can p l = true) (hm : n ∈ l) (hk : (scn p n).part = (k : Int)) (hk3 : k < 3)
include wp cv inc hc hm hk hk3
end
theorem sc_pure {p : Pl} {n : Int} {b : Bool} (hs : p.scenes.length ≤ 12) (h : isSc p n = b) : APure Tryz.prog 35 [plan p, I n] (B b) := by subst h; exact scene_pure p n (by omega)
end Go.Proofs.YtjghdbdiejaacaaGreatDoor
namespace Go.Proofs.YtjghdbdiejaacaaGreatDoor
open Go Go.Ab Ni
theorem freeP_scn {p : Pl} {n : Nat} (hn : n < p.scenes.length) (x : Nat) : scn (freeP p n) x = if x = n then freeS (scn p n) else scn p x := by
  unfold scn freeP
  simp only [List.getD_eq_getElem?_getD, List.getElem?_set]
  by_cases e : x = n
  · subst e; simp [hn, scn, List.getD_eq_getElem?_getD]
  · rw [if_neg (fun h => e h.symm), if_neg e]
theorem freeP_part {p : Pl} {n : Nat} (hn : n < p.scenes.length) (x : Nat) : (scn (freeP p n) x).part = (scn p x).part := by
  rw [freeP_scn hn]; split
  · rename_i e; subst e; rfl
  · rfl
theorem freeP_least {p : Pl} {n : Nat} (hn : n < p.scenes.length) (x : Nat) : (scn (freeP p n) x).least = (scn p x).least := by
  rw [freeP_scn hn]; split
  · rename_i e; subst e; rfl
  · rfl
theorem freeP_most {p : Pl} {n : Nat} (hn : n < p.scenes.length) (x : Nat) : (scn p x).most ≤ (scn (freeP p n) x).most ∧ (x ≠ n → (scn (freeP p n) x).most = (scn p x).most) := by
  rw [freeP_scn hn]; split
  · rename_i e; subst e; exact ⟨by simp only [freeS]; omega, fun h => absurd rfl h⟩
  · exact ⟨Int.le_refl _, fun _ => rfl⟩
theorem freeP_isC {p : Pl} {n : Nat} (hn : n < p.scenes.length) (l : List Nat) : isC (freeP p n) l = isC p l := by
  unfold isC isCh
  rw [Bool.eq_iff_iff, okAll_iff, okAll_iff]
  have key : ∀ i (h1 : i < (freeP p n).scenes.length) (h2 : i < p.scenes.length), chBad (freeP p n) (up l) i h1 = chBad p (up l) i h2 := fun i h1 h2 => by
    have e1 : (freeP p n).scenes[i].loose = p.scenes[i].loose ∧ (freeP p n).scenes[i].wants = p.scenes[i].wants := by
      have e := freeP_scn hn i
      rw [scn_eq h1, scn_eq h2] at e
      rw [e]; split
      · rename_i e; subst e; rw [scn_eq hn]; exact ⟨rfl, rfl⟩
      · exact ⟨rfl, rfl⟩
    unfold chBad; rw [e1.1, e1.2]
  constructor
  · intro h i hi; rw [← key i (by rw [freeP_len]; exact hi) hi]; exact h i _
  · intro h i hi; rw [key i hi (by rw [freeP_len] at hi; exact hi)]; exact h i _
theorem allC_free {p : Pl} {n : Nat} (hn : n < p.scenes.length) : allC (freeP p n) = allC p := by
  have e : isC (freeP p n) = isC p := funext (freeP_isC hn)
  unfold allC aA aL
  rw [freeP_len, e]
theorem ofP_free {p : Pl} {n : Nat} (hn : n < p.scenes.length) (l : List Nat) (k : Int) : ofP (freeP p n) l k = ofP p l k := by
  unfold ofP
  refine List.filter_congr fun x _ => ?_
  unfold inPart; rw [freeP_part hn]
theorem pl_free {p : Pl} {n : Nat} (hn : n < p.scenes.length) (l : List Nat) (k : Nat) : pl (freeP p n) l k = pl p l k := by
  unfold pl lsum leasts
  rw [ofP_free hn]
  exact congrArg List.sum (List.map_congr_left fun x _ => freeP_least hn x)
theorem ph_free {p : Pl} {n : Nat} (hn : n < p.scenes.length) (l : List Nat) (k : Nat) : ph p l k ≤ ph (freeP p n) l k ∧ ((scn p n).part ≠ (k : Int) → ph (freeP p n) l k = ph p l k) := by
  unfold ph hsum mosts
  rw [ofP_free hn]
  refine ⟨sum_le fun x _ => (freeP_most hn x).1, fun h => congrArg List.sum (List.map_congr_left fun x hx => (freeP_most hn x).2 ?_)⟩
  rintro rfl
  have := (List.mem_filter.1 hx).2
  simp only [inPart, decide_eq_true_eq] at this
  exact h this
theorem fit_free {p : Pl} {n k : Nat} (hn : n < p.scenes.length) (hk : (scn p n).part = (k : Int)) (hk3 : k < 3) {l : List Nat} {h : Hr} (f : FitH (freeP p n) l h) (hd : (prH (freeP p n) h k).2 - (prH (freeP p n) h k).1 ≤ ph p l k) : FitH p l h := by
  obtain ⟨a, b, c⟩ := h
  obtain ⟨h1, h2, h3, h4, h5, h6, h7, h8, h9, h10, h11, h12⟩ := f
  rw [pl_free hn] at h7 h9 h11
  have q : ∀ j : Nat, j ≠ k → ph (freeP p n) l j = ph p l j := fun j hj => (ph_free hn l j).2 (by rw [hk]; intro e; exact hj (by omega))
  have hb : (freeP p n).beg = p.beg := rfl
  rcases k with _ | _ | _ | k
  · rw [q 1 (by omega)] at h10; rw [q 2 (by omega)] at h12
    simp only [prH, if_true] at hd
    exact ⟨h1, h2, h3, h4, h5, h6, h7, hd, h9, h10, h11, h12⟩
  · rw [q 0 (by omega)] at h8; rw [q 2 (by omega)] at h12
    exact ⟨h1, h2, h3, h4, h5, h6, h7, h8, h9, hd, h11, h12⟩
  · rw [q 0 (by omega)] at h8; rw [q 1 (by omega)] at h10
    exact ⟨h1, h2, h3, h4, h5, h6, h7, h8, h9, h10, h11, hd⟩
  · omega
theorem minL_char : ∀ {l : List Int}, l ≠ [] → minL l ∈ l ∧ ∀ x ∈ l, minL l ≤ x := by
  intro l
  generalize hn : l.length = n
  induction n generalizing l with
  | zero => intro h; exact absurd (List.length_eq_zero_iff.1 hn) h
  | succ n ih =>
    intro h
    rcases Nat.eq_zero_or_pos n with h0 | h0
    · subst h0
      obtain ⟨x, rfl⟩ := List.length_eq_one_iff.1 hn
      exact ⟨by simp [minL], by simp [minL]⟩
    · have e : l = l.take (n + 1) := by rw [List.take_of_length_le (by omega)]
      have ht : (l.take n).length = n := by rw [List.length_take]; omega
      obtain ⟨g1, g2⟩ := ih ht (by intro e; rw [e] at ht; simp at ht; omega)
      have hm := minL_take (l := l) (k := n) (by omega) h0
      rw [← e] at hm
      rw [hm]
      have hsp : ∀ x ∈ l, x ∈ l.take n ∨ x = l[n] := fun x hx => by
        rw [e, List.take_succ_eq_append_getElem (by omega)] at hx
        rcases List.mem_append.1 hx with hx | hx
        · exact Or.inl hx
        · exact Or.inr (by simpa using hx)
      constructor
      · rcases Int.le_total (minL (l.take n)) l[n] with h1 | h1
        · rw [Int.min_eq_left h1]; exact List.mem_of_mem_take g1
        · rw [Int.min_eq_right h1]; exact List.getElem_mem _
      · intro x hx
        rcases hsp x hx with h1 | h1
        · have := g2 x h1; omega
        · subst h1; omega
def lgF (vs : List Int) : Int := vs.foldl (fun o n => if o < 0 ∨ n < o then n else o) (-1)
theorem lgF_app (vs : List Int) (n : Int) : lgF (vs ++ [n]) = if lgF vs < 0 ∨ n < lgF vs then n else lgF vs := by unfold lgF; rw [List.foldl_append]; rfl
theorem lgF_take {vs : List Int} {k : Nat} (h : k < vs.length) : lgF (vs.take (k + 1)) = if lgF (vs.take k) < 0 ∨ vs[k] < lgF (vs.take k) then vs[k] else lgF (vs.take k) := by
  rw [List.take_succ_eq_append_getElem h, lgF_app]
theorem lgF_min {vs : List Int} (hp : ∀ v ∈ vs, 0 < v) : (vs = [] → lgF vs = -1) ∧ (vs ≠ [] → lgF vs = minL vs) := by
  refine ⟨fun e => by subst e; rfl, ?_⟩
  suffices H : ∀ k, k < vs.length → lgF (vs.take (k + 1)) = minL (vs.take (k + 1)) by
    intro h
    have hl : 0 < vs.length := List.length_pos_iff.2 h
    have := H (vs.length - 1) (by omega)
    rwa [show vs.length - 1 + 1 = vs.length by omega, List.take_length] at this
  intro k
  induction k with
  | zero =>
    intro h
    rw [lgF_take h]
    rw [if_pos (Or.inl (by show (-1 : Int) < 0; decide)), List.take_succ_eq_append_getElem h]; simp [minL]
  | succ k ih =>
    intro h
    have i1 := ih (by omega)
    rw [lgF_take h, i1, minL_take h (by omega)]
    have hm := (minL_char (l := vs.take (k + 1)) (by intro e; have := congrArg List.length e; rw [List.length_take, List.length_nil] at this; omega)).1
    have := hp _ (List.mem_of_mem_take hm)
    split
    · omega
    · omega
def lgW (p : Pl) (n : Nat) (l : List Nat) : List Int := (hrs (freeP p n) l).map fun h => (prH (freeP p n) h (scn p n).part.toNat).2 - (prH (freeP p n) h (scn p n).part.toNat).1 - hi p l (scn p n).part 0 10
def lgA (p : Pl) (n i : Nat) : List Int := (((allC p).take i).filter fun l => decide (n ∈ l)).flatMap (lgW p n)
def rlg (p : Pl) (n : Nat) : Int := if 0 < (choicesC p).length then 0 else lgF (lgA p n (allC p).length)
theorem lg_eq {p : Pl} (ok : PlOK p = true) {n : Nat} (hn : n < p.scenes.length) (hno : (choicesC p).length = 0) : ((lgL p n).length = 0 → rlg p n = -1) ∧ ((lgL p n).length ≠ 0 → rlg p n = minL (lgL p n) ∧ 0 < rlg p n) := by
  obtain ⟨gp, wp⟩ := gp_of_ok ok
  obtain ⟨k, hk, hk3⟩ := partOf_ok ok hn
  have hkt : (scn p n).part.toNat = k := by omega
  have wpF := freeP_wp wp hn
  have gpF := freeP_gp gp hn (by have := most_ok ok hn; omega)
  have hc0 : ∀ l ∈ allC p, ¬ can p l = true := fun l hl hc => by
    have : l ∈ choicesC p := List.mem_filter.2 ⟨hl, hc⟩
    rw [List.length_eq_zero_iff.1 hno] at this; cases this
  have hcv : ∀ l ∈ allC p, CV p l ∧ CV (freeP p n) l := fun l hl => by
    have cv := allC_mem gp l hl
    exact ⟨cv, cv.len, fun x hx => by rw [freeP_len]; exact cv.rng x hx⟩
  -- one choice
  have one : ∀ l ∈ allC p, can (freeP p n) l = true → (∃ v ∈ lgW p n l, v = lgV p n l) ∧ ∀ v ∈ lgW p n l, lgV p n l ≤ v ∧ 0 < v := fun l hl hc => by
    obtain ⟨cv, cvF⟩ := hcv l hl
    have hmo : hi p l (scn p n).part 0 10 = ph p l k := by rw [hk]; exact (ph_hi wp cv k).symm
    have hv : lgV p n l = (bw (freeP p n) l (2 - k)).1 - (fw (freeP p n) l k).2 - ph p l k := by
      unfold lgV; rw [hkt, ofP_free hn, hk]; rfl
    have pos : ∀ h, FitH (freeP p n) l h → ph p l k < (prH (freeP p n) h k).2 - (prH (freeP p n) h k).1 := fun h f => by
      rcases Int.lt_or_le (ph p l k) ((prH (freeP p n) h k).2 - (prH (freeP p n) h k).1) with g | g
      · exact g
      · exact absurd ((can_fit wp cv).2 ⟨_, _, _, fit_free hn hk hk3 f g⟩) (hc0 l hl)
    obtain ⟨e1, e2, e3, e4, e5⟩ := rg_some wpF cvF hc hk3
    have hlh := pl_le wp cv k
    have hpf := pl_free hn l k
    have hge : pl (freeP p n) l k ≤ (bw (freeP p n) l (2 - k)).1 - (fw (freeP p n) l k).2 := by
      rcases Int.le_total (pl (freeP p n) l k) ((bw (freeP p n) l (2 - k)).1 - (fw (freeP p n) l k).2) with g | g
      · exact g
      · obtain ⟨x, y, q1, q2, q3, q4, q5, q6⟩ := rect (L := pl (freeP p n) l k) (H := pl (freeP p n) l k) e1 e2 (Int.le_refl _) e4 g
        obtain ⟨h, f, hp⟩ := rg_fit wpF cvF hc hk3 (x := x) (y := y) ⟨q1, q2, q3, q4, q5, by omega⟩
        have := pos h f
        rw [hp] at this
        simp only at this; omega
    constructor
    · obtain ⟨h, f, hp⟩ := rg_fit wpF cvF hc hk3 (x := (fw (freeP p n) l k).2) (y := (bw (freeP p n) l (2 - k)).1) ⟨e1, Int.le_refl _, Int.le_refl _, e2, hge, e5⟩
      refine ⟨_, List.mem_map.2 ⟨h, (mem_hrsH wpF cvF).2 f, rfl⟩, ?_⟩
      rw [hkt, hp, hmo, hv]
    · intro v hm
      obtain ⟨h, hh, rfl⟩ := List.mem_map.1 hm
      have f := (mem_hrsH wpF cvF).1 hh
      have h1 := pos h f
      obtain ⟨x1, x2, y1, y2, d1, d2⟩ := fit_rg f hk3
      rw [hkt, hmo, hv]; omega
  have hA : lgA p n (allC p).length = ((allC p).filter fun l => decide (n ∈ l)).flatMap (lgW p n) := by unfold lgA; rw [List.take_length]
  have hL : lgL p n = (((allC p).filter (can (freeP p n))).filter fun l => decide (n ∈ l)).map (lgV p n) := by
    unfold lgL selT; rw [List.take_length]; unfold choicesC; rw [allC_free hn]
  have hr : rlg p n = lgF (lgA p n (allC p).length) := by unfold rlg; rw [if_neg (by omega)]
  have memA : ∀ v, v ∈ lgA p n (allC p).length ↔ ∃ l, (l ∈ allC p ∧ n ∈ l ∧ can (freeP p n) l = true) ∧ v ∈ lgW p n l := fun v => by
    rw [hA, List.mem_flatMap]
    constructor
    · rintro ⟨l, h1, h2⟩
      obtain ⟨h3, h4⟩ := List.mem_filter.1 h1
      refine ⟨l, ⟨h3, by simpa using h4, ?_⟩, h2⟩
      obtain ⟨h, hh, _⟩ := List.mem_map.1 h2
      exact (can_fit wpF (hcv l h3).2).2 ⟨_, _, _, (mem_hrsH wpF (hcv l h3).2).1 hh⟩
    · rintro ⟨l, ⟨h1, h2, _⟩, h3⟩
      exact ⟨l, List.mem_filter.2 ⟨h1, by simpa using h2⟩, h3⟩
  have memL : ∀ v, v ∈ lgL p n ↔ ∃ l, (l ∈ allC p ∧ n ∈ l ∧ can (freeP p n) l = true) ∧ v = lgV p n l := fun v => by
    rw [hL, List.mem_map]
    constructor
    · rintro ⟨l, h1, h2⟩
      obtain ⟨h3, h4⟩ := List.mem_filter.1 h1
      obtain ⟨h5, h6⟩ := List.mem_filter.1 h3
      exact ⟨l, ⟨h5, by simpa using h4, h6⟩, h2.symm⟩
    · rintro ⟨l, ⟨h1, h2, h3⟩, h4⟩
      exact ⟨l, List.mem_filter.2 ⟨List.mem_filter.2 ⟨h1, h3⟩, by simpa using h2⟩, h4.symm⟩
  have hpos : ∀ v ∈ lgA p n (allC p).length, 0 < v := fun v hv => by
    obtain ⟨l, ⟨h1, h2, h3⟩, h4⟩ := (memA v).1 hv
    exact ((one l h1 h3).2 v h4).2
  constructor
  · intro h0
    rw [hr]
    refine (lgF_min hpos).1 (List.eq_nil_iff_forall_not_mem.2 fun v hv => ?_)
    obtain ⟨l, ⟨h1, h2, h3⟩, h4⟩ := (memA v).1 hv
    have := (memL (lgV p n l)).2 ⟨l, ⟨h1, h2, h3⟩, rfl⟩
    rw [List.length_eq_zero_iff.1 h0] at this; cases this
  · intro h0
    have hne : lgL p n ≠ [] := fun e => h0 (by rw [e]; rfl)
    obtain ⟨g1, g2⟩ := minL_char hne
    obtain ⟨l, hl, e⟩ := (memL _).1 g1
    obtain ⟨v, hv, ev⟩ := (one l hl.1 hl.2.2).1
    have hneA : lgA p n (allC p).length ≠ [] := fun e' => by have := (memA v).2 ⟨l, hl, hv⟩; rw [e'] at this; cases this
    obtain ⟨r1, r2⟩ := minL_char hneA
    rw [hr, (lgF_min hpos).2 hneA]
    refine ⟨?_, hpos _ r1⟩
    have q1 := r2 v ((memA v).2 ⟨l, hl, hv⟩)
    obtain ⟨l', hl', hv'⟩ := (memA _).1 r1
    have q2 := ((one l' hl'.1 hl'.2.2).2 _ hv').1
    have q3 := g2 _ ((memL _).2 ⟨l', hl', rfl⟩)
    omega
def begS (p : Pl) (l : List Nat) : Int × Int := (max 0 ((bw p l 2).1 - ph p l 0), min 900 ((bw p l 2).2 - pl p l 0))
def begOk (p : Pl) (l : List Nat) : Bool := decide ((bw p l 0).1 ≤ (bw p l 0).2) && decide ((bw p l 1).1 ≤ (bw p l 1).2) && decide ((bw p l 2).1 ≤ (bw p l 2).2) && decide ((begS p l).1 ≤ (begS p l).2)
def withP (p : Pl) (b : Int) : Pl := { p with beg := b }
def stF (p : Pl) (l : List Nat) (i : Nat) : Int × Int := (max 0 (p.s0l + i - hi p l 0 0 10), min 900 (p.s0l + i - lo p l 0 0 10))
def stOk (p : Pl) (l : List Nat) (i : Nat) : Bool := decide ((stF p l i).1 ≤ (stF p l i).2) && can (withP (narP p 0 (p.s0l + i) (p.s0l + i)) (stF p l i).1) l
def stI (p : Pl) (l : List Nat) (i : Nat) : List (Int × Int) := if stOk p l i = true then [stF p l i] else []
def stJ (p : Pl) (l : List Nat) (n : Nat) : List (Int × Int) := fm n (stI p l)
def stL (p : Pl) (l : List Nat) : List (Int × Int) := stJ p l (wid p.s0l p.s0h)
theorem withP_wp {p : Pl} (wp : WP p) (a b : Int) : WP (withP (narP p 0 a a) b) := ⟨wp.len, Int.le_refl _, wp.s1, wp.d, wp.lm⟩
theorem withP_cv {p : Pl} {l : List Nat} (cv : CV p l) (a b : Int) : CV (withP (narP p 0 a a) b) l := ⟨cv.len, cv.rng⟩
theorem stOk_iff {p : Pl} {l : List Nat} (wp : WP p) (cv : CV p l) (i : Nat) (hiw : i < wid p.s0l p.s0h) :
    stOk p l i = true ↔ True ∧ (bw p l 1).1 ≤ (bw p l 1).2 ∧ (bw p l 2).1 ≤ p.s0l + i ∧ p.s0l + i ≤ (bw p l 2).2 ∧ pl p l 0 ≤ p.s0l + i ∧ p.s0l + i - ph p l 0 ≤ 900 := by
  have e0 : pl p l 0 = lo p l 0 0 10 := pl_lo wp cv 0
  have f0 : ph p l 0 = hi p l 0 0 10 := ph_hi wp cv 0
  have q0 : pl p l 0 ≤ ph p l 0 := pl_le wp cv 0
  have q1 : pl p l 1 ≤ ph p l 1 := pl_le wp cv 1
  have q2 : pl p l 2 ≤ ph p l 2 := pl_le wp cv 2
  have hd := wp.d; have hs1 := wp.s1
  unfold wid at hiw
  unfold stOk stF
  rw [Bool.and_eq_true, decide_eq_true_eq, can_fit (withP_wp wp _ _) (withP_cv cv _ _)]
  simp only [← e0, ← f0]
  have hp : ∀ (a b : Int) (k : Nat), pl (withP (narP p 0 a a) b) l k = pl p l k ∧ ph (withP (narP p 0 a a) b) l k = ph p l k := fun a b k => ⟨rfl, rfl⟩
  constructor
  · rintro ⟨h, a, b, c, g⟩
    obtain ⟨h1, h2, h3, h4, h5, h6, h7, h8, h9, h10, h11, h12⟩ := g
    change p.s0l + i ≤ a at h1; change a ≤ p.s0l + i at h2; change p.s1l ≤ b at h3; change b ≤ p.s1h at h4; change p.dl ≤ c at h5; change c ≤ p.dh at h6
    change pl p l 1 ≤ b - a at h9; change b - a ≤ ph p l 1 at h10; change pl p l 2 ≤ c - b at h11; change c - b ≤ ph p l 2 at h12
    simp only [bw2, bw1]
    exact ⟨trivial, by omega, by omega, by omega, by omega, by omega⟩
  · rintro ⟨_, h1, h2, h3, h4, h5⟩
    simp only [bw2, bw1] at h1 h2 h3
    refine ⟨by omega, ?_⟩
    obtain ⟨b, b1, b2, b3, b4⟩ := pickF (lo := max p.s1l (p.dl - ph p l 2)) (hi := min p.s1h (p.dh - pl p l 2)) (t := p.s0l + i) h1 q1 (by omega) (by omega)
    obtain ⟨c, c1, c2, c3, c4⟩ := pickF (lo := p.dl) (hi := p.dh) (t := b) hd q2 (by omega) (by omega)
    refine ⟨p.s0l + i, b, c, ⟨Int.le_refl _, Int.le_refl _, by show p.s1l ≤ b; omega, by show b ≤ p.s1h; omega, c1, c2, ?_, ?_, b3, b4, c3, c4⟩⟩
    · show pl p l 0 ≤ p.s0l + i - max 0 (p.s0l + i - ph p l 0); omega
    · show p.s0l + i - max 0 (p.s0l + i - ph p l 0) ≤ ph p l 0; omega
theorem mem_stL {p : Pl} {l : List Nat} {v : Int × Int} : v ∈ stL p l ↔ ∃ i, i < wid p.s0l p.s0h ∧ stOk p l i = true ∧ v = stF p l i := by
  unfold stL stJ
  rw [mem_fm]
  constructor
  · rintro ⟨i, hi, h⟩
    unfold stI at h
    split at h
    · rename_i g; exact ⟨i, hi, g, by simpa using h⟩
    · simp at h
  · rintro ⟨i, hi, g, rfl⟩
    exact ⟨i, hi, by unfold stI; rw [if_pos g]; simp⟩
theorem begOk_iff {p : Pl} {l : List Nat} (wp : WP p) (cv : CV p l) : begOk p l = true ↔ stL p l ≠ [] := by
  have q0 : pl p l 0 ≤ ph p l 0 := pl_le wp cv 0
  have hd := wp.d
  constructor
  · intro h e
    simp only [begOk, begS, Bool.and_eq_true, decide_eq_true_eq] at h
    obtain ⟨⟨⟨h0, h1⟩, h2⟩, h3⟩ := h
    have h3 : max 0 ((bw p l 2).1 - ph p l 0) ≤ min 900 ((bw p l 2).2 - pl p l 0) := of_decide_eq_true h3
    have hb2 : p.s0l ≤ (bw p l 2).1 ∧ (bw p l 2).2 ≤ p.s0h := by simp only [bw2]; omega
    have hm : stF p l ((max (bw p l 2).1 (pl p l 0)) - p.s0l).toNat ∈ stL p l := mem_stL.2 ⟨_, by unfold wid; omega, (stOk_iff wp cv _ (by unfold wid; omega)).2 ⟨trivial, h1, by omega, by omega, by omega, by omega⟩, rfl⟩
    rw [e] at hm; cases hm
  · intro h
    obtain ⟨v, hv⟩ := List.exists_mem_of_ne_nil _ h
    obtain ⟨i, hi, g, _⟩ := mem_stL.1 hv
    obtain ⟨_, h1, h2, h3, h4, h5⟩ := (stOk_iff wp cv i hi).1 g
    simp only [begOk, begS, Bool.and_eq_true, decide_eq_true_eq]
    have hst : max 0 ((bw p l 2).1 - ph p l 0) ≤ min 900 ((bw p l 2).2 - pl p l 0) := by omega
    exact ⟨⟨⟨by rw [bw0]; exact hd, h1⟩, by omega⟩, decide_eq_true hst⟩
theorem st_met {p : Pl} {l : List Nat} (wp : WP p) (cv : CV p l) (h : begOk p l = true) : Ni.Met (stL p l) id (begS p l) := by
  have q0 : pl p l 0 ≤ ph p l 0 := pl_le wp cv 0
  have e0 : pl p l 0 = lo p l 0 0 10 := pl_lo wp cv 0
  have f0 : ph p l 0 = hi p l 0 0 10 := ph_hi wp cv 0
  have hb := h
  simp only [begOk, begS, Bool.and_eq_true, decide_eq_true_eq] at hb
  obtain ⟨⟨⟨h0, h1⟩, h2⟩, h3⟩ := hb
  have h3 : max 0 ((bw p l 2).1 - ph p l 0) ≤ min 900 ((bw p l 2).2 - pl p l 0) := of_decide_eq_true h3
  have hb2 : p.s0l ≤ (bw p l 2).1 ∧ (bw p l 2).2 ≤ p.s0h := by simp only [bw2]; omega
  have mk : ∀ a, (bw p l 2).1 ≤ a → a ≤ (bw p l 2).2 → pl p l 0 ≤ a → a - ph p l 0 ≤ 900 → (max 0 (a - ph p l 0), min 900 (a - pl p l 0)) ∈ stL p l := fun a a1 a2 a3 a4 => by
    refine mem_stL.2 ⟨(a - p.s0l).toNat, by unfold wid; omega, (stOk_iff wp cv _ (by unfold wid; omega)).2 ⟨trivial, h1, by omega, by omega, by omega, by omega⟩, ?_⟩
    unfold stF; rw [← e0, ← f0]
    rw [show p.s0l + ((a - p.s0l).toNat : Int) = a by omega]
  have bd : ∀ v ∈ stL p l, (begS p l).1 ≤ v.1 ∧ v.2 ≤ (begS p l).2 := fun v hv => by
    obtain ⟨i, hiw, g, rfl⟩ := mem_stL.1 hv
    obtain ⟨_, g1, g2, g3, g4, g5⟩ := (stOk_iff wp cv i hiw).1 g
    unfold stF begS; rw [← e0, ← f0]
    simp only; omega
  refine ⟨⟨_, mk (max (bw p l 2).1 (pl p l 0)) (by omega) (by omega) (by omega) (by omega), ?_⟩, fun v hv => (bd v hv).1, ⟨_, mk (min (bw p l 2).2 (900 + ph p l 0)) (by omega) (by omega) (by omega) (by omega), ?_⟩, fun v hv => (bd v hv).2⟩
  · simp only [begS, id]; omega
  · simp only [begS, id]; omega
end Go.Proofs.YtjghdbdiejaacaaGreatDoor
namespace Go.Proofs.YtjghdbdiejaacaaGreatDoor
open Go Go.Ab Ni
theorem en162 : Ent Tryz.prog 162 := Ent.of Tryz.func162 (by kernel_rfl) rfl
theorem en163 : Ent Tryz.prog 163 := Ent.of Tryz.func163 (by kernel_rfl) rfl
theorem en168 : Ent Tryz.prog 168 := Ent.of Tryz.func168 (by kernel_rfl) rfl
theorem en74 : Ent Tryz.prog 74 := Ent.of Tryz.func74 (by kernel_rfl) rfl
section
variable {P : Program} {r : Option Nat} {H : List AObj} {ρ : Operand → AV}
variable {d : Option Tmp} {t : TypeId} {p : String} {af : Array Edge} {g : Option (Nat × Bool)} {x y : Operand}
theorem ev_slice_box_i {xt et : TypeId} {len sz : Nat} {es : List (List AV)} (ht : arrElem P xt = some (len, et, sz)) (h0 : 0 < len) (hx : Less (ρ x) (.iptr es.flatten)) (hl : es.length = len) (hsz : ∀ c ∈ es, c.length = sz) :
    Ev P r ⟨d, .slice xt x none none none, t, p, af, g⟩ H ρ (.sl sz es) :=
  Ev.pure (by intro c h; cases h) fun e ρc ok hE hs => by
    obtain ⟨h1, ti, h2, rfl⟩ := arrElem_und ht
    have := hx e _ (hs x (by simp [Op.operands]))
    rw [Rep] at this
    obtain ⟨b, off, hpv, hc⟩ := this
    refine ⟨.slice (some ⟨b, off, none⟩) len len, ?_, ?_⟩
    · have hb : (Instr.sliceBounds false len len none none none).run P e.w = .ok (0, len, len) e.w := by simp [Instr.sliceBounds]
      have hne : ¬ len = 0 := by omega
      simp [execOp, Instr.sliceAt, hpv, run_und h1, run_size h2, hb, Addr.add_lit, Instr.sureAddr, hne]
    · rw [Rep]
      refine ⟨_, _, _, rfl, hl.symm, Nat.le_refl _, (fun h => by cases h), hsz, fun ad had => ?_⟩
      simp only [Option.some.injEq] at had
      subst had
      exact ⟨rfl, ElemsAt.flat.2 hc⟩
end
theorem retQM_res {P : Program} {rs : List ResultVar} {res : AV} {vs : List AV} {s : St} {H' : List AObj} (hm : takeMarks s.H s.df = some H') (hlen : Nat.ble rs.length 3 = true) (hv : ResL P { s with H := H' } rs vs) (hl : Less (resTup vs) res) :
    retQM P rs (fun x _ => ∃ v, x = .ret v ∧ Less v res) .ret s := retQM_pure hm (resAV_of (Nat.le_of_ble_eq_true hlen) hv) hl
def wrongS (s : Int × Int) : Bool := decide (s.1 > s.2)
def ixF (E : List (Int × Int)) : Int := match E.findIdx? wrongS with | some i => i | none => -1
theorem ixF_at {E : List (Int × Int)} {k : Nat} (hk : k < E.length) (h : wrongS E[k] = true) (ok : ∀ i, (hi : i < E.length) → i < k → wrongS E[i] = false) : ixF E = k := by
  have : E.findIdx? wrongS = some k := List.findIdx?_eq_some_iff_getElem.2 ⟨hk, h, fun j hj => by simp [ok j (by omega) hj]⟩
  unfold ixF; rw [this]
theorem ixF_no {E : List (Int × Int)} (ok : ∀ i, (hi : i < E.length) → wrongS E[i] = false) : ixF E = -1 := by
  have : E.findIdx? wrongS = none := List.findIdx?_eq_none_iff.2 fun x hx => by
    obtain ⟨i, hi, rfl⟩ := List.getElem_of_mem hx; exact ok i hi
  unfold ixF; rw [this]
theorem ixF_any (E : List (Int × Int)) : decide (ixF E ≥ 0) = E.any wrongS := by
  unfold ixF
  cases h : E.findIdx? wrongS with
  | none =>
    have := List.findIdx?_eq_none_iff.1 h
    rw [List.any_eq_false.2 fun x hx => by simp [this x hx]]; rfl
  | some i =>
    obtain ⟨h1, h2, _⟩ := List.findIdx?_eq_some_iff_getElem.1 h
    rw [List.any_eq_true.2 ⟨_, List.getElem_mem h1, h2⟩]; exact decide_eq_true (show (i : Int) ≥ 0 by omega)
theorem rwrong_pure (a b : Int) : APure Tryz.prog 163 [.agg [I a, I b]] (B (wrongS (a, b))) := by
  refine apure_of (rs := [.tmp 2]) Tryz.func163 rfl rfl (Nat.le_of_ble_eq_true rfl) (by simp [AV.pureL, AV.pureB, AV.pureE, pureE_map]) (rfl) fun e0 he0 => ?_
  refine aw_seq (aw_region ?_)
  refine sq_box rfl (lr _) rfl (asr (lr _) rfl (sq_nil (aw_seq (aw_region ?_))))
  refine sq_ev rfl (ev_fieldAddr fo23_0 (lr _)) ?_
  refine sq_ev rfl (ev_load (lr _) rfl ty3 rfl) ?_
  refine sq_ev rfl (ev_fieldAddr fo23_1 (lr _)) ?_
  refine sq_ev rfl (ev_load (lr _) rfl ty3 rfl) ?_
  refine sq_ev rfl (ev_gtr (lr _) (lr _)) ?_
  refine asr (lr _) rfl (sq_nil (aw_ret ?_))
  exact retQ_pure (v := .raw _) rfl rfl (lr _)
theorem rindexF_pure (E : List (Int × Int)) (hE : E.length ≤ 1000000) : APure Tryz.prog 168 [spans E, .fn (.func 163) [] []] (I (ixF E)) := by
 refine apure_of (rs := [.tmp 4]) Tryz.func168 rfl rfl (Nat.le_of_ble_eq_true rfl) (by simp [AV.pureL, AV.pureB, AV.pureE, pureE_map]) (rfl) fun e0 he0 => ?_
 refine aw_seq (aw_region ?_)
 refine asr (lr _) rfl (sq_nil (aw_seq (aw_seq (aw_region ?_))))
 refine mvs rfl (lr _) (sq_ev rfl (ev_len_map sl43 (lr _)) ?_)
 refine mvr (lr _) rfl (sq_nil (aw_block ?_))
 refine aw_loopk (ι := { k : Nat // k ≤ E.length ∧ ∀ i, (hi : i < E.length) → i < k → wrongS E[i] = false }) [0, 1, 7] (fun i => [(8, I i.1)]) (fun H i => H) (fun i => E.length - i.1) (⟨0, Nat.zero_le _, by omega⟩) ⟨lr _, lr _, lr _, lr _, trivial⟩ rfl ?_
 rintro ⟨k, hk, hok⟩
 dsimp only [keepS, St.put, sget, slotsOf, List.map_cons, List.map_nil, List.cons_append, List.nil_append, List.length_cons, List.length_nil, Nat.reduceBEq, Nat.reduceAdd, cond_true, cond_false]
 refine aw_seq (aw_region ?_)
 refine sq_ev rfl (ev_lss (lr _) (lr _)) ?_
 refine sq_nil (aw_seq ?_)
 refine aw_cond (lr _) (fun c1 => ?_) (fun c1 => ?_)
 ·
  have c1' := c1
  try simp only [qq] at c1'
  have hkL : k < E.length := by omega
  refine aw_skip (aw_seq (aw_block (aw_seq (aw_region ?_))))
  refine mvr (lr _) rfl (asr (lr _) rfl (sq_nil (aw_seq (aw_region ?_))))
  refine sq_ev rfl (ev_mv (v := .fn _ _ _) (lr _)) ?_
  refine mvs rfl (lr _) (mvr (lr _) rfl (sq_ev rfl (ev_index_map sl43 (lr _) (lr _) rfl (by omega)) ?_))
  refine sq_ev rfl (ev_load_agg_i (lr _) ty23 (Nat.le_of_ble_eq_true rfl)) ?_
  refine sq_ev rfl (ev_call en163 (lr _) (rwrong_pure E[k].1 E[k].2) ⟨lr _, trivial⟩) ?_
  refine sq_nil ?_
  refine aw_cond (lr _) (fun c2 => ?_) (fun c2 => ?_)
  ·
   have c2' := c2
   try simp only [qq] at c2'
   refine aw_seq (aw_region ?_)
   refine mvr (lr _) rfl (asr (lr _) rfl (sq_nil (aw_ret ?_)))
   exact retQ_pure (v := .raw _) rfl rfl (Less.eq (by rw [ixF_at hkL (by simpa using c2') hok]))
  ·
   have c2' := c2
   try simp only [qq] at c2'
   refine aw_skip (aw_region ?_)
   refine sq_ev rfl (ev_add (lr _) (lr _) (wr (by omega) (by omega))) ?_
   refine mvr (lr _) rfl (sq_nil ?_)
   exact ⟨⟨k + 1, by omega, fun i hi h => (by by_cases e : i = k; (subst e; simpa using c2'); exact hok i hi (by omega))⟩, by simp only; omega, Sub.slots ⟨lr _, lr _, lr _, lr _, trivial⟩⟩
 ·
  have c1' := c1
  try simp only [qq] at c1'
  refine aw_exit (aw_seq (aw_region ?_))
  refine asr (lr _) rfl (sq_nil (aw_ret ?_))
  exact retQ_pure (v := .raw _) rfl rfl (Less.eq (by rw [ixF_no fun i hi => hok i hi (by omega)]))
theorem rcontainsF_pure (E : List (Int × Int)) (hE : E.length ≤ 1000000) : APure Tryz.prog 162 [spans E, .fn (.func 163) [] []] (B (E.any wrongS)) := by
 refine apure_of (rs := [.tmp 4]) Tryz.func162 rfl rfl (Nat.le_of_ble_eq_true rfl) (by simp [AV.pureL, AV.pureB, AV.pureE, pureE_map]) (rfl) fun e0 he0 => ?_
 refine aw_seq (aw_region ?_)
 refine asr (lr _) rfl (sq_nil (aw_seq (aw_region ?_)))
 refine mvs rfl (lr _) (sq_ev rfl (ev_mv (v := .fn _ _ _) (lr _)) ?_)
 refine sq_ev rfl (ev_call en168 (lr _) (rindexF_pure E hE) ⟨lr _, lr _, trivial⟩) ?_
 refine sq_ev rfl (ev_geq (lr _) (lr _)) ?_
 refine asr (lr _) rfl (sq_nil (aw_ret ?_))
 exact retQ_pure (v := .raw _) rfl rfl (Less.eq (by rw [← ixF_any]))
theorem rwith_pure (p : Pl) (b : Int) : APure Tryz.prog 74 [plan p, I b] (plan (withP p b)) := by
 refine apure_of (rs := [.cell 4 27]) Tryz.func74 rfl rfl (Nat.le_of_ble_eq_true rfl) (by simp [AV.pureL, AV.pureB, AV.pureE, pureE_map]) (by simp [AV.pureL, AV.pureB, AV.pureE, pureE_map]) fun e0 he0 => ?_
 refine aw_seq (aw_region ?_)
 refine sq_box rfl (lr _) rfl ?_
 refine sq_alloc rfl z27 ?_
 refine sq_nil (aw_seq (aw_region ?_))
 refine mvr (lr _) rfl (sq_ev rfl (ev_fieldAddr fo27_0 (lr _)) ?_)
 refine sq_store rfl (lr _) (lr _) rfl rfl ty3 rfl rfl ?_
 refine sq_nil (aw_seq (aw_region ?_))
 refine sq_ev rfl (ev_load_agg (lr _) rfl ty27 rfl) ?_
 refine sq_store rfl (lr _) (lr _) rfl rfl ty27 rfl rfl ?_
 refine sq_nil (aw_ret ?_)
 exact retQ_res (vs := [.agg _]) rfl rfl ⟨resVar_cell rfl rfl ty27 rfl, trivial⟩ (lr _)
end Go.Proofs.YtjghdbdiejaacaaGreatDoor
namespace Go.Proofs.YtjghdbdiejaacaaGreatDoor
open Go Go.Ab Ni
theorem en138 : Ent Tryz.prog 138 := Ent.of Tryz.func138 (by kernel_rfl) rfl
def begE (p : Pl) (l : List Nat) : List (Int × Int) := [bw p l 2, bw p l 1, bw p l 0]
theorem begOk_eq (p : Pl) (l : List Nat) : begOk p l = (!(begE p l).any wrongS && decide ((begS p l).1 ≤ (begS p l).2)) := by
  unfold begOk begE wrongS
  rw [Bool.eq_iff_iff]
  simp only [List.any_cons, List.any_nil, Bool.or_false, Bool.and_eq_true, Bool.not_eq_true', Bool.or_eq_false_iff, decide_eq_true_eq, decide_eq_false_iff_not]
  constructor
  · rintro ⟨⟨⟨h0, h1⟩, h2⟩, h3⟩; exact ⟨⟨by omega, by omega, by omega⟩, h3⟩
  · rintro ⟨⟨h2, h1, h0⟩, h3⟩; exact ⟨⟨⟨by omega, by omega⟩, by omega⟩, h3⟩
def begR (p : Pl) (l : List Nat) : (Int × Int) × Bool := if (begE p l).any wrongS = true then ((0, 0), false) else (begS p l, decide ((begS p l).1 ≤ (begS p l).2))
theorem begR_ok (p : Pl) (l : List Nat) : (begR p l).2 = begOk p l := by
  rw [begOk_eq]; unfold begR; cases (begE p l).any wrongS <;> simp
theorem begR_val {p : Pl} {l : List Nat} (h : begOk p l = true) : (begR p l).1 = begS p l := by
  rw [begOk_eq] at h
  simp only [Bool.and_eq_true, Bool.not_eq_true'] at h
  unfold begR; rw [if_neg (by simp [h.1])]
theorem nbegin_pure (p : Pl) (l : List Nat) (gp : GP p) (cv : CV p l) : APure Tryz.prog 138 [played p l] (.tup [.agg [I (begR p l).1.1, I (begR p l).1.2], B (begR p l).2]) := by
  refine apure_of (rs := [.cell 2 23, .tmp 3]) Tryz.func138 rfl rfl (Nat.le_of_ble_eq_true rfl) (by simp [AV.pureL, AV.pureB, AV.pureE, pureE_map]) (by simp [AV.pureL, AV.pureB, AV.pureE, pureE_map]) fun e0 he0 => ?_
  refine aw_seq (aw_region ?_)
  refine sq_box rfl (lr _) rfl ?_
  refine sq_alloc rfl z23 ?_
  refine asr (lr _) rfl (sq_nil (aw_seq (aw_region ?_)))
  refine sq_ev rfl (ev_load_agg (lr _) rfl ty110 rfl) ?_
  refine sq_ev rfl (ev_call en100 (lr _) (nbackward_pure p l gp cv) ⟨lr _, trivial⟩) ?_
  refine sq_alloc rfl z120 ?_
  refine sq_store rfl (lr _) (lr _) rfl rfl ty120 rfl rfl ?_
  refine sq_nil (aw_seq (aw_seq ?_))
  refine aw_sub (sub_iptrK [1, 2, 3] 4 rfl rfl) ?_
  dsimp only [keepS, St.put, sget, slotsOf, List.map_cons, List.map_nil, List.cons_append, List.nil_append, List.length_cons, List.length_nil, Nat.reduceBEq, Nat.reduceAdd, cond_true, cond_false]
  refine aw_region ?_
  refine sq_ev rfl (ev_slice_box_i (es := (begE p l).map fun s => [I s.1, I s.2]) ar120 (by decide) (lr _) rfl (by intro c h; obtain ⟨s, _, rfl⟩ := List.mem_map.1 h; rfl)) ?_
  refine sq_ev rfl (ev_call en162 (lr _) (rcontainsF_pure (begE p l) (by simp [begE])) ⟨lr _, lr _, trivial⟩) ?_
  refine sq_nil ?_
  refine aw_cond (lr _) (fun c1 => ?_) (fun c1 => ?_)
  · skip
    have c1' := c1
    try simp only [qq] at c1'
    refine aw_seq (aw_region ?_)
    refine sq_ev rfl (ev_build bi23 rfl) ?_
    refine sq_store rfl (lr _) (lr _) rfl rfl ty23 rfl rfl ?_
    refine asr (lr _) rfl (sq_nil (aw_ret ?_))
    exact retQ_res (vs := [.agg _, .raw _]) rfl rfl ⟨resVar_cell rfl rfl ty23 rfl, resVar_tmp _ _ _, trivial⟩ (less_tup ⟨Less.eq (by simp [begR, *]), less_b (by simp [begR, *]), trivial⟩)
  · skip
    have c1' := c1
    try simp only [qq] at c1'
    refine aw_skip (aw_seq ?_)
    refine aw_draw 5 mo (by kernel_rfl) ?_
    refine dr_ev rfl (ev_load_agg (lr _) rfl ty110 rfl) ?_
    refine dr_ev rfl (ev_load_agg (lr _) rfl ty110 rfl) ?_
    refine dr_ev rfl (ev_call en136 (lr _) (nof_pure p l ((0 : Nat) : Int) gp cv) ⟨lr _, lr _, trivial⟩) ?_
    refine dr_ev rfl (ev_call en135 (lr _) (nlastsP_pure p l 0 gp cv) ⟨lr _, lr _, trivial⟩) ?_
    refine dr_alloc rfl z23 ?_
    refine dr_end ?_
    refine sq_store rfl (lr _) (lr _) rfl rfl ty23 rfl rfl ?_
    refine sq_nil (aw_seq ?_)
    have b1 := bw_bd gp cv 2
    have b2 : 0 ≤ pl p l 0 ∧ pl p l 0 ≤ 10000000 := lsum_bd gp (ofP_cv cv _)
    have b3 : 0 ≤ ph p l 0 ∧ ph p l 0 ≤ 10000000 := hsum_bd gp (ofP_cv cv _)
    refine aw_region ?_
    refine sq_ev rfl (ev_build bi23 rfl) ?_
    refine sq_ev rfl (ev_index_box_i (k := 0) ar120 (lr _) (lr _) rfl (by decide)) ?_
    refine sq_ev rfl (ev_fieldAddr_i fo23_0 (lr _)) ?_
    refine sq_ev rfl (ev_load_i (lr _) ty3 rfl) ?_
    refine sq_ev rfl (ev_fieldAddr fo23_1 (lr _)) ?_
    refine sq_ev rfl (ev_load (lr _) rfl ty3 rfl) ?_
    refine sq_ev rfl (ev_sub (lr _) (lr _) (wr (by omega) (by omega))) ?_
    refine sq_ev rfl (ev_index_box_i (k := 0) ar120 (lr _) (lr _) rfl (by decide)) ?_
    refine sq_ev rfl (ev_fieldAddr_i fo23_1 (lr _)) ?_
    refine sq_ev rfl (ev_load_i (lr _) ty3 rfl) ?_
    refine sq_ev rfl (ev_fieldAddr fo23_0 (lr _)) ?_
    refine sq_ev rfl (ev_load (lr _) rfl ty3 rfl) ?_
    refine sq_ev rfl (ev_sub (lr _) (lr _) (wr (by omega) (by omega))) ?_
    refine sq_ev rfl (ev_build bi23 rfl) ?_
    refine sq_ev rfl (ev_call en98 (lr _) (nboth_pure _ _ _ _) ⟨lr _, lr _, trivial⟩) ?_
    refine sq_alloc rfl z23 ?_
    refine sq_store rfl (lr _) (lr _) rfl rfl ty23 rfl rfl ?_
    refine sq_nil (aw_seq ?_)
    dsimp only [keepS, St.put, sget, slotsOf, List.map_cons, List.map_nil, List.cons_append, List.nil_append, List.length_cons, List.length_nil, Nat.reduceBEq, Nat.reduceAdd, cond_true, cond_false]
    dsimp only [List.append, List.set, List.length, List.take, List.drop, List.cons_append, List.nil_append, List.append_nil, Nat.zero_add, Nat.add_zero]
    refine aw_drawc [] [6] _ mo (by kernel_rfl) (HSub.mask [1] 0 _) ?_
    refine dc_ev rfl (ev_load_agg (lr _) rfl ty23 rfl) ?_
    refine dc_ev rfl (ev_fieldAddr fo23_0 (lr _)) ?_
    refine dc_ev rfl (ev_load (lr _) rfl ty3 rfl) ?_
    refine dc_ev rfl (ev_fieldAddr fo23_1 (lr _)) ?_
    refine dc_ev rfl (ev_load (lr _) rfl ty3 rfl) ?_
    refine dc_ev rfl (ev_leq (lr _) (lr _)) ?_
    refine dc_eff rfl rfl (eff_store rfl (lr _) (lr _) rfl rfl ty23 rfl rfl) (by apply HL.sub; repeat' (first | exact HL.nil _ | apply HL.same | apply HL.tok)) ?_
    refine dc_ev rfl (ev_as (v := .raw _) (lr _)) ?_
    refine dc_nil (aw_ret ?_)
    exact retQ_res (vs := [.agg _, .raw _]) rfl rfl ⟨resVar_cell rfl rfl ty23 rfl, resVar_tmp _ _ _, trivial⟩ (less_tup ⟨Less.eq (by simp [begR, begS, *]), less_b (by simp [begR, begS, *] <;> rfl), trivial⟩)
end Go.Proofs.YtjghdbdiejaacaaGreatDoor
namespace Go.Proofs.YtjghdbdiejaacaaGreatDoor
open Go Go.Ab Ni
theorem en71 : Ent Tryz.prog 71 := Ent.of Tryz.func71 (by kernel_rfl) rfl
theorem zb4 : zeroOf Tryz.prog 4 = some [.raw (.bool false)] := by kernel_rfl
def stS (p : Pl) (i : Nat) : List (Int × Int) := (((allC p).take i).filter (begOk p)).map (begS p)
def stM (p : Pl) (i : Nat) : Bool := decide (0 < (stS p i).length)
theorem stS_yes {p : Pl} {i : Nat} (h : i < (allC p).length) (k : begOk p (allC p)[i] = true) : stS p (i + 1) = stS p i ++ [begS p (allC p)[i]] := by
  unfold stS; rw [filter_take_succ _ h, if_pos k, List.map_append]; rfl
theorem stS_no {p : Pl} {i : Nat} (h : i < (allC p).length) (k : begOk p (allC p)[i] = false) : stS p (i + 1) = stS p i := by
  unfold stS; rw [filter_take_succ _ h, if_neg (by simp [k]), List.append_nil]
def staR (p : Pl) : (Int × Int) × Int := if PlOK p = true then (if stM p (allC p).length = true then (wd (stS p (allC p).length), 0) else ((0, 0), 5)) else ((0, 0), 2)
theorem staR_1 {p : Pl} (h : PlOK p = false) : staR p = ((0, 0), 2) := by unfold staR; rw [if_neg (by simp [h])]
theorem staR_2 {p : Pl} (h : PlOK p = true) (k : stM p (allC p).length = false) : staR p = ((0, 0), 5) := by unfold staR; rw [if_pos h, if_neg (by simp [k])]
theorem staR_3 {p : Pl} (h : PlOK p = true) (k : stM p (allC p).length = true) : staR p = (wd (stS p (allC p).length), 0) := by unfold staR; rw [if_pos h, if_pos k]
abbrev stH (p : Pl) (i : Nat) : List AObj := [.cells (planC p), .cells [I 0, I 0], .cells [I (wd (stS p i)).1, I (wd (stS p i)).2], .cells [B (stM p i)]]
theorem nStarts_pure (p : Pl) (hl0 : p.scenes.length ≤ 1000000) : APure Tryz.prog 71 [plan p] (.tup [.agg [I (staR p).1.1, I (staR p).1.2], I (staR p).2]) := by
  refine apure_of_marks (rs := [.cell 2 23, .tmp 3]) Tryz.func71 rfl rfl (Nat.le_of_ble_eq_true rfl) (by simp [AV.pureL, AV.pureB, AV.pureE, pureE_map]) (by simp [AV.pureL, AV.pureB, AV.pureE, pureE_map]) fun e0 he0 => ?_
  refine aw_seq (aw_region ?_)
  refine sq_box rfl (lr _) rfl ?_
  refine sq_alloc rfl z23 ?_
  refine asr (lr _) rfl (sq_nil (aw_seq (aw_seq (aw_region ?_))))
  refine sq_ev rfl (ev_load_agg (lr _) rfl ty27 rfl) ?_
  refine sq_ev rfl (ev_call en85 (lr _) (isplan_pure p hl0) ⟨lr _, trivial⟩) ?_
  refine sq_ev rfl (ev_not (lr _)) ?_
  refine sq_nil ?_
  refine aw_cond (lr _) (fun c1 => ?_) (fun c1 => ?_)
  · skip
    have c1' := c1
    try simp only [qq] at c1'
    refine aw_seq (aw_region ?_)
    refine sq_ev rfl (ev_build bi23 rfl) ?_
    refine sq_store rfl (lr _) (lr _) rfl rfl ty23 rfl rfl ?_
    refine asr (lr _) rfl (sq_nil (aw_ret ?_))
    exact retQM_res (vs := [.agg _, .raw _]) rfl rfl ⟨resVar_cell rfl rfl ty23 rfl, resVar_tmp _ _ _, trivial⟩ (less_tup ⟨Less.eq (by rw [staR_1 c1'] <;> rfl), Less.eq (by rw [staR_1 c1'] <;> rfl), trivial⟩)
  · skip
    have c1' := c1
    try simp only [qq] at c1'
    obtain ⟨gp, wp⟩ := gp_of_ok c1'
    refine aw_skip (aw_seq (aw_region ?_))
    refine sq_alloc rfl z23 ?_
    refine sq_nil (aw_seq (aw_region ?_))
    refine sq_alloc rfl zb4 ?_
    refine sq_store rfl (lr _) (lr _) rfl rfl ty4 rfl rfl ?_
    refine sq_nil (aw_seq (aw_seq (aw_region ?_)))
    refine sq_ev rfl (ev_load_agg (lr _) rfl ty27 rfl) ?_
    refine sq_ev rfl (ev_call en124 (lr _) (nchoices0_pure p) ⟨lr _, trivial⟩) ?_
    refine sq_nil (aw_block ?_)
    refine aw_rangeFunc1 (xs := (allC p).map nats) (fun k => stH p k) ((allC p).map nats).length none (Nat.le_refl _) (fun _ => rfl) (fun h => absurd rfl h) rfl rfl (lr _) en155 (nchoices_iter gp) rfl (fun _ => rfl) (fun k hk => by show objsIn 4 _ = true; simp [objsIn, AObj.inB, AV.inB, AV.inL, AV.inE, inE_map, inE_nats, -List.map_take, -List.map_map, -List.map_append]) (fun x hx => by obtain ⟨y, _, rfl⟩ := List.mem_map.1 hx; simp [AV.pureB, AV.pureL, AV.pureE, pureE_map]) rfl rfl ?_ ?_
    · intro l i x e0 hi hx he0
      obtain ⟨y, hy, rfl⟩ := xs_get hx
      obtain ⟨hk', he'⟩ := get_eq hy
      have cv := allC_mem gp y (List.mem_of_getElem? hy)
      have hal := allC_len gp
      dsimp only [keepS, St.put, sget, slotsOf, List.map_cons, List.map_nil, List.cons_append, List.nil_append, List.length_cons, List.length_nil, Nat.reduceBEq, Nat.reduceAdd, cond_true, cond_false]
      refine aw_block (aw_seq (aw_region ?_))
      refine sq_ev rfl (ev_load_agg (lr _) rfl ty27 rfl) ?_
      refine mvs rfl (lr _) (sq_ev rfl (ev_build bi110 rfl) ?_)
      refine sq_ev rfl (ev_call en138 (lr _) (nbegin_pure p y gp cv) ⟨lr _, trivial⟩) ?_
      refine sq_ev rfl (ev_mv (v := .tup _) (lr _)) ?_
      refine xtr rfl (lr _) rfl (xtr rfl (lr _) rfl ?_)
      refine sq_alloc rfl z23 ?_
      refine sq_store rfl (lr _) (lr _) rfl rfl ty23 rfl rfl ?_
      refine asr (lr _) rfl (sq_nil (aw_seq (aw_region ?_)))
      refine mvr (lr _) rfl (sq_nil ?_)
      refine aw_cond (lr _) (fun c2 => ?_) (fun c2 => ?_)
      · skip
        have c2' := c2
        try simp only [qq] at c2'
        have hbo : begOk p y = true := by rw [← begR_ok]; exact c2
        have hbv := begR_val hbo
        have eS := stS_yes hk' (by rw [he']; exact hbo)
        rw [he'] at eS
        have eW := wd_snoc (stS p i) (begS p y)
        rw [← eS] at eW
        have eM : stM p (i + 1) = true := by unfold stM; rw [eS]; simp
        have e1 : (if stM p i = true then min (wd (stS p i)).1 (begR p y).1.1 else (begR p y).1.1) = (wd (stS p (i + 1))).1 := by rw [eW, hbv]; unfold stM; split <;> rfl
        have e2 : (if stM p i = true then max (wd (stS p i)).2 (begR p y).1.2 else (begR p y).1.2) = (wd (stS p (i + 1))).2 := by rw [eW, hbv]; unfold stM; split <;> rfl
        have eH : [AObj.cells (planC p), .cells [I 0, I 0], .cells [I (if stM p i = true then min (wd (stS p i)).1 (begR p y).1.1 else (begR p y).1.1), I (if stM p i = true then max (wd (stS p i)).2 (begR p y).1.2 else (begR p y).1.2)], .cells [B true]] ++ [AObj.cells [I (begR p y).1.1, I (begR p y).1.2]] = stH p (i + 1) ++ [AObj.cells [I (begR p y).1.1, I (begR p y).1.2]] := by rw [e1, e2]; show _ = [AObj.cells (planC p), .cells [I 0, I 0], .cells [I (wd (stS p (i + 1))).1, I (wd (stS p (i + 1))).2], .cells [B (stM p (i + 1))]] ++ _; rw [eM]
        refine aw_region ?_
        refine sq_ev rfl (ev_load_agg (lr _) rfl ty23 rfl) ?_
        refine sq_ev rfl (ev_load (lr _) rfl ty4 rfl) ?_
        refine sq_ev rfl (ev_load_agg (lr _) rfl ty23 rfl) ?_
        refine sq_ev rfl (ev_call en97 (lr _) (nwiders_pure _ _ _ _ _) ⟨lr _, lr _, lr _, trivial⟩) ?_
        refine sq_store rfl (lr _) (lr _) rfl rfl ty23 rfl rfl ?_
        refine sq_store rfl (lr _) (lr _) rfl rfl ty4 rfl rfl ?_
        refine sq_nil ?_
        exact ⟨⟨[AObj.cells [I (begR p y).1.1, I (begR p y).1.2]], eH⟩, rfl, by split <;> rfl⟩
      · skip
        have c2' := c2
        try simp only [qq] at c2'
        have hbo : begOk p y = false := by rw [← begR_ok]; exact c2
        have eS := stS_no hk' (by rw [he']; exact hbo)
        have eH : stH p i ++ [AObj.cells [I (begR p y).1.1, I (begR p y).1.2]] = stH p (i + 1) ++ [AObj.cells [I (begR p y).1.1, I (begR p y).1.2]] := by show stH p i ++ _ = [AObj.cells (planC p), .cells [I 0, I 0], .cells [I (wd (stS p (i + 1))).1, I (wd (stS p (i + 1))).2], .cells [B (stM p (i + 1))]] ++ _; unfold stM; rw [eS]; rfl
        refine aw_skip ?_
        exact ⟨⟨[AObj.cells [I (begR p y).1.1, I (begR p y).1.2]], eH⟩, rfl, by split <;> rfl⟩
    · rintro _ rfl
      refine aw_seq (aw_seq (aw_region ?_))
      refine sq_ev rfl (ev_load (lr _) rfl ty4 rfl) ?_
      refine sq_ev rfl (ev_not (lr _)) ?_
      refine sq_nil ?_
      refine aw_cond (lr _) (fun c3 => ?_) (fun c3 => ?_)
      · skip
        have c3' := c3
        try simp only [qq] at c3'
        refine aw_seq (aw_region ?_)
        refine sq_ev rfl (ev_build bi23 rfl) ?_
        refine sq_store rfl (lr _) (lr _) rfl rfl ty23 rfl rfl ?_
        refine asr (lr _) rfl (sq_nil (aw_ret ?_))
        exact retQM_res (vs := [.agg _, .raw _]) rfl rfl ⟨resVar_cell rfl rfl ty23 rfl, resVar_tmp _ _ _, trivial⟩ (less_tup ⟨Less.eq (by rw [staR_2 c1' c3'] <;> rfl), Less.eq (by rw [staR_2 c1' c3'] <;> rfl), trivial⟩)
      · skip
        have c3' := c3
        try simp only [qq] at c3'
        refine aw_skip (aw_seq (aw_region ?_))
        refine sq_ev rfl (ev_load_agg (lr _) rfl ty23 rfl) ?_
        refine sq_store rfl (lr _) (lr _) rfl rfl ty23 rfl rfl ?_
        refine asr (lr _) rfl (sq_nil (aw_ret ?_))
        exact retQM_res (vs := [.agg _, .raw _]) rfl rfl ⟨resVar_cell rfl rfl ty23 rfl, resVar_tmp _ _ _, trivial⟩ (less_tup ⟨Less.eq (by rw [staR_3 c1' c3', List.length_map] <;> rfl), Less.eq (by rw [staR_3 c1' c3'] <;> rfl), trivial⟩)
end Go.Proofs.YtjghdbdiejaacaaGreatDoor
namespace Go.Proofs.YtjghdbdiejaacaaGreatDoor
open Go Go.Ab Ni
theorem en72 : Ent Tryz.prog 72 := Ent.of Tryz.func72 (by kernel_rfl) rfl
theorem cells7 {x y z : AObj} {a a' b b' : Int} (h : a = a') (k : b = b') : [x, y, AObj.cells [I a, I b], z] = [x, y, .cells [I a', I b'], z] := by rw [h, k]
def stU (p : Pl) (i : Nat) : List (Int × Int) := ((allC p).take i).flatMap (stL p)
theorem stU_succ {p : Pl} {i : Nat} (h : i < (allC p).length) : stU p (i + 1) = stU p i ++ stL p (allC p)[i] := by
  unfold stU; rw [List.take_succ_eq_append_getElem h, List.flatMap_append]; simp
def stX (p : Pl) (i : Nat) (l : List Nat) (q : Nat) : List (Int × Int) := stU p i ++ stJ p l q
theorem stX_yes {p : Pl} {i q : Nat} {l : List Nat} (h : stOk p l q = true) : stX p i l (q + 1) = stX p i l q ++ [stF p l q] := by
  unfold stX stJ; rw [fm_succ, List.append_assoc]; simp [stI, h]
theorem stX_no {p : Pl} {i q : Nat} {l : List Nat} (h : stOk p l q = false) : stX p i l (q + 1) = stX p i l q := by
  unfold stX stJ; rw [fm_succ]; simp [stI, h]
theorem with_gp {p : Pl} (gp : GP p) {a b : Int} (ha : 0 ≤ a ∧ a ≤ 10000) (hb : 0 ≤ b ∧ b ≤ 10000) : GP (withP (narP p 0 a a) b) := ⟨gp.len, gp.vals, by show -10000 ≤ b ∧ b ≤ 10000; omega, ha, ha, gp.s1l, gp.s1h, gp.dl, gp.dh⟩
theorem rStarts_pure (p : Pl) (gp : GP p) (wp : WP p) : APure Tryz.prog 72 [plan p] (.tup [.agg [I (wd (stU p (allC p).length)).1, I (wd (stU p (allC p).length)).2], B (decide (0 < (stU p (allC p).length).length))]) := by
  refine apure_of (rs := [.cell 2 23, .tmp 3]) Tryz.func72 rfl rfl (Nat.le_of_ble_eq_true rfl) (by simp [AV.pureL, AV.pureB, AV.pureE, pureE_map]) (rfl) fun e0 he0 => ?_
  refine aw_seq (aw_region ?_)
  refine sq_box rfl (lr _) rfl ?_
  refine sq_alloc rfl z23 ?_
  refine asr (lr _) rfl (sq_nil (aw_seq ?_))
  have hal := allC_len gp
  have b1 := gp.s0l
  have b2 := gp.s0h
  have w0 := wp.s0
  have ew : (wid p.s0l p.s0h : Int) = p.s0h - p.s0l + 1 := by unfold wid; omega
  refine aw_region ?_
  refine sq_ev rfl (ev_load_agg (lr _) rfl ty27 rfl) ?_
  refine sq_ev rfl (ev_call en92 (lr _) (all_pure gp) ⟨lr _, trivial⟩) ?_
  refine ass rfl (lr _) (sq_nil (aw_seq (aw_region ?_)))
  refine sq_alloc rfl z23 ?_
  refine sq_nil (aw_seq (aw_region ?_))
  refine asr (lr _) rfl (sq_nil (aw_seq (aw_seq (aw_region ?_))))
  refine asr (lr _) rfl (sq_nil (aw_block ?_))
  refine aw_loopk (ι := { i : Nat // i ≤ (allC p).length }) [1, 2, 4, 5] (fun i => [(7, I i.1), (6, B (decide (0 < (stU p i.1).length)))]) (fun H i => H.set 2 (.cells [I (wd (stU p i.1)).1, I (wd (stU p i.1)).2])) (fun i => (allC p).length - i.1) (⟨0, Nat.zero_le _⟩) ⟨lr _, lr _, lr _, lr _, lr _, lr _, trivial⟩ rfl ?_
  rintro ⟨i, hi⟩
  dsimp only [keepS, St.put, sget, slotsOf, List.map_cons, List.map_nil, List.cons_append, List.nil_append, List.length_cons, List.length_nil, Nat.reduceBEq, Nat.reduceAdd, cond_true, cond_false]
  refine aw_seq (aw_seq (aw_region ?_))
  refine mvr (lr _) rfl (mvs rfl (lr _) (sq_ev rfl (ev_len_map sl30 (lr _)) ?_))
  refine sq_ev rfl (ev_lss (lr _) (lr _)) ?_
  refine sq_nil ?_
  refine aw_cond (lr _) (fun c1 => ?_) (fun c1 => ?_)
  · skip
    have c1' := c1
    try simp only [qq] at c1'
    have hi' : i < (allC p).length := by omega
    have cv := allC_mem gp _ (List.getElem_mem hi')
    have eX0 : (stX p i (allC p)[i] 0) = stU p i := by unfold stX stJ; rw [fm_zero, List.append_nil]
    have b3 := lo_bd' gp cv 0 0 10
    have b4 := hi_bd' gp cv 0 0 10
    refine aw_skip (aw_seq (aw_block (aw_seq ?_)))
    refine aw_draw 7 mo (by kernel_rfl) ?_
    refine dr_ev rfl (ev_load_agg (lr _) rfl ty27 rfl) ?_
    refine dr_ev rfl (ev_mv (v := .sl _ _) (lr _)) ?_
    refine dr_ev rfl (ev_mv (v := .raw _) (lr _)) ?_
    refine dr_ev rfl (ev_index_map sl30 (lr _) (lr _) rfl (by omega)) ?_
    refine dr_ev rfl (ev_load_i (lr _) ty34 rfl) ?_
    refine dr_ev rfl (ev_call en110 (lr _) (whole_pure p (allC p)[i] gp cv) ⟨lr _, lr _, trivial⟩) ?_
    refine dr_alloc rfl z120 ?_
    refine dr_end ?_
    refine sq_store rfl (lr _) (lr _) rfl rfl ty120 rfl rfl ?_
    refine sq_nil (aw_seq (aw_region ?_))
    refine sq_ev rfl (ev_fieldAddr fo27_1 (lr _)) ?_
    refine sq_ev rfl (ev_index_box ar24 (lr _) (lr _) rfl (by decide)) ?_
    refine sq_ev rfl (ev_fieldAddr fo23_0 (lr _)) ?_
    refine sq_ev rfl (ev_load (lr _) rfl ty3 rfl) ?_
    refine asr (lr _) rfl (sq_nil (aw_block ?_))
    refine aw_loopk (ι := { q : Nat // q ≤ wid p.s0l p.s0h }) [1, 2, 4, 5, 7, 8] (fun q => [(9, I (p.s0l + q.1)), (6, B (decide (0 < (stX p i (allC p)[i] q.1).length)))]) (fun H q => H.set 2 (.cells [I (wd (stX p i (allC p)[i] q.1)).1, I (wd (stX p i (allC p)[i] q.1)).2])) (fun q => wid p.s0l p.s0h - q.1) (⟨0, Nat.zero_le _⟩) ⟨(by exact less_int (by simp)), (by exact less_b (by rw [eX0])), lr _, lr _, lr _, lr _, lr _, lr _, trivial⟩ (by simp only [eX0]; rfl) ?_
    rintro ⟨q, hq⟩
    dsimp only [keepS, St.put, sget, slotsOf, List.map_cons, List.map_nil, List.cons_append, List.nil_append, List.length_cons, List.length_nil, Nat.reduceBEq, Nat.reduceAdd, cond_true, cond_false]
    refine aw_seq (aw_seq (aw_region ?_))
    refine mvr (lr _) rfl (sq_ev rfl (ev_fieldAddr fo27_1 (lr _)) ?_)
    refine sq_ev rfl (ev_index_box ar24 (lr _) (lr _) rfl (by decide)) ?_
    refine sq_ev rfl (ev_fieldAddr fo23_1 (lr _)) ?_
    refine sq_ev rfl (ev_load (lr _) rfl ty3 rfl) ?_
    refine sq_ev rfl (ev_leq (lr _) (lr _)) ?_
    refine sq_nil ?_
    refine aw_cond (lr _) (fun c2 => ?_) (fun c2 => ?_)
    · skip
      have c2' := c2
      try simp only [qq] at c2'
      have hq' : q < wid p.s0l p.s0h := by omega
      refine aw_skip (aw_seq (aw_block (aw_seq ?_)))
      refine aw_draw 14 mo (by kernel_rfl) ?_
      refine dr_ev rfl (ev_mv (v := .raw _) (lr _)) ?_
      refine dr_ev rfl (ev_index_box ar120 (lr _) (lr _) rfl (by decide)) ?_
      refine dr_ev rfl (ev_fieldAddr fo23_1 (lr _)) ?_
      refine dr_ev rfl (ev_load (lr _) rfl ty3 rfl) ?_
      refine dr_ev rfl (ev_sub (lr _) (lr _) (wr (by omega) (by omega))) ?_
      refine dr_ev rfl (ev_max2 (lr _) (lr _)) ?_
      refine dr_ev rfl (ev_mv (v := .raw _) (lr _)) ?_
      refine dr_ev rfl (ev_index_box ar120 (lr _) (lr _) rfl (by decide)) ?_
      refine dr_ev rfl (ev_fieldAddr fo23_0 (lr _)) ?_
      refine dr_ev rfl (ev_load (lr _) rfl ty3 rfl) ?_
      refine dr_ev rfl (ev_sub (lr _) (lr _) (wr (by omega) (by omega))) ?_
      refine dr_ev rfl (ev_min2 (lr _) (lr _)) ?_
      refine dr_ev rfl (ev_as (v := .raw _) (lr _)) ?_
      refine dr_ev rfl (ev_as (v := .raw _) (lr _)) ?_
      refine dr_end (sq_nil (aw_seq ?_))
      refine aw_draw 17 mo (by kernel_rfl) ?_
      refine dr_ev rfl (ev_mv (v := .raw _) (lr _)) ?_
      refine dr_ev rfl (ev_mv (v := .raw _) (lr _)) ?_
      refine dr_ev rfl (ev_leq (lr _) (lr _)) ?_
      refine dr_ev rfl (ev_mv (v := .raw _) (lr _)) ?_
      refine dr_split 53 (lr _) (fun g3 => ?_) (fun g3 => ?_)
      · skip
        have g3' := g3
        try simp only [qq] at g3'
        have hle : (stF p (allC p)[i] q).1 ≤ (stF p (allC p)[i] q).2 := g3'
        have hF1 : 0 ≤ (stF p (allC p)[i] q).1 := by unfold stF; simp only; omega
        have hF2 : (stF p (allC p)[i] q).2 ≤ 900 := by unfold stF; simp only; omega
        have gpW := with_gp gp (a := p.s0l + q) (b := (stF p (allC p)[i] q).1) (by omega) (by omega)
        refine dr_yes rfl rfl (less_b g3) rfl (ev_load_agg (lr _) rfl ty27 rfl) ?_
        refine dr_yes rfl rfl (less_b g3) rfl (ev_mv (v := .raw _) (lr _)) ?_
        refine dr_yes rfl rfl (less_b g3) rfl (ev_mv (v := .raw _) (lr _)) ?_
        refine dr_yes rfl rfl (less_b g3) rfl (ev_build bi23 rfl) ?_
        refine dr_yes rfl rfl (less_b g3) rfl (ev_call en40 (lr _) (rnarrow0_pure p _ _) ⟨lr _, lr _, lr _, trivial⟩) ?_
        refine dr_yes rfl rfl (less_b g3) rfl (ev_mv (v := .raw _) (lr _)) ?_
        refine dr_yes rfl rfl (less_b g3) rfl (ev_call en74 (lr _) (rwith_pure _ _) ⟨lr _, lr _, trivial⟩) ?_
        refine dr_yes rfl rfl (less_b g3) rfl (ev_mv (v := .sl _ _) (lr _)) ?_
        refine dr_yes rfl rfl (less_b g3) rfl (ev_mv (v := .raw _) (lr _)) ?_
        refine dr_yes rfl rfl (less_b g3) rfl (ev_index_map sl30 (lr _) (lr _) rfl (by omega)) ?_
        refine dr_yes rfl rfl (less_b g3) rfl (ev_load_i (lr _) ty34 rfl) ?_
        refine dr_yes rfl rfl (less_b g3) rfl (ev_call en48 (lr _) (can_pure (withP (narP p 0 (p.s0l + q) (p.s0l + q)) (stF p (allC p)[i] q).1) (allC p)[i] gpW (withP_cv cv _ _)) ⟨lr _, lr _, trivial⟩) ?_
        refine dr_ev rfl (ev_pickT (v := .raw _) (less_b g3) (lr _)) ?_
        refine dr_end (sq_nil ?_)
        refine aw_cond (lr _) (fun c4 => ?_) (fun c4 => ?_)
        · skip
          have c4' := c4
          try simp only [qq] at c4'
          have hok : stOk p (allC p)[i] q = true := by unfold stOk; rw [Bool.and_eq_true]; exact ⟨decide_eq_true hle, c4⟩
          have hy := stX_yes (i := i) hok
          have eW := wd_snoc (stX p i (allC p)[i] q) (stF p (allC p)[i] q)
          rw [← hy] at eW
          have eW1 : (if decide (0 < (stX p i (allC p)[i] q).length) = true then min (wd (stX p i (allC p)[i] q)).1 (stF p (allC p)[i] q).1 else (stF p (allC p)[i] q).1) = (wd (stX p i (allC p)[i] (q + 1))).1 := by rw [eW]; split <;> rfl
          have eW2 : (if decide (0 < (stX p i (allC p)[i] q).length) = true then max (wd (stX p i (allC p)[i] q)).2 (stF p (allC p)[i] q).2 else (stF p (allC p)[i] q).2) = (wd (stX p i (allC p)[i] (q + 1))).2 := by rw [eW]; split <;> rfl
          have eF : true = decide (0 < (stX p i (allC p)[i] (q + 1)).length) := (decide_eq_true (by rw [hy, List.length_append, List.length_singleton]; omega)).symm
          refine aw_seq (aw_region ?_)
          refine sq_ev rfl (ev_load_agg (lr _) rfl ty23 rfl) ?_
          refine mvr (lr _) rfl (mvr (lr _) rfl (mvr (lr _) rfl (sq_ev rfl (ev_call en103 (lr _) (rjoin_pure _ _ _ _ _) ⟨lr _, lr _, lr _, lr _, trivial⟩) ?_)))
          refine sq_store rfl (lr _) (lr _) rfl rfl ty23 rfl rfl ?_
          refine sq_nil (aw_region ?_)
          refine asr (lr _) rfl (sq_nil (aw_region ?_))
          refine mvr (lr _) rfl (sq_ev rfl (ev_add (lr _) (lr _) (wr (by omega) (by omega))) ?_)
          refine asr (lr _) rfl (sq_nil ?_)
          exact ⟨⟨q + 1, by omega⟩, by simp only; omega, Sub.fin 4 ⟨(by exact less_int (by simp only; omega)), less_b eF, lr _, lr _, lr _, lr _, lr _, lr _, trivial⟩ (cells7 eW1 eW2) (by simp [slotsIn, objsIn, sget, keepS, AObj.inB, AV.inB, AV.inL, AV.inE, inE_map, inE_ints, inE_sc, -List.map_append, -List.map_take, -List.map_map]) (by simp [slotsIn, objsIn, sget, keepS, AObj.inB, AV.inB, AV.inL, AV.inE, inE_map, inE_ints, inE_sc, -List.map_append, -List.map_take, -List.map_map]) (by simp [he0])⟩
        · skip
          have c4' := c4
          try simp only [qq] at c4'
          have hok : stOk p (allC p)[i] q = false := by unfold stOk; rw [show can (withP (narP p 0 (p.s0l + q) (p.s0l + q)) (stF p (allC p)[i] q).1) (allC p)[i] = false from c4, Bool.and_false]
          have hn := stX_no (i := i) hok
          have eW1 : (wd (stX p i (allC p)[i] q)).1 = (wd (stX p i (allC p)[i] (q + 1))).1 := by rw [hn]
          have eW2 : (wd (stX p i (allC p)[i] q)).2 = (wd (stX p i (allC p)[i] (q + 1))).2 := by rw [hn]
          have eF : decide (0 < (stX p i (allC p)[i] q).length) = decide (0 < (stX p i (allC p)[i] (q + 1)).length) := by rw [hn]
          refine aw_skip (aw_region ?_)
          refine mvr (lr _) rfl (sq_ev rfl (ev_add (lr _) (lr _) (wr (by omega) (by omega))) ?_)
          refine asr (lr _) rfl (sq_nil ?_)
          exact ⟨⟨q + 1, by omega⟩, by simp only; omega, Sub.fin 4 ⟨(by exact less_int (by simp only; omega)), less_b eF, lr _, lr _, lr _, lr _, lr _, lr _, trivial⟩ (cells7 eW1 eW2) (by simp [slotsIn, objsIn, sget, keepS, AObj.inB, AV.inB, AV.inL, AV.inE, inE_map, inE_ints, inE_sc, -List.map_append, -List.map_take, -List.map_map]) (by simp [slotsIn, objsIn, sget, keepS, AObj.inB, AV.inB, AV.inL, AV.inE, inE_map, inE_ints, inE_sc, -List.map_append, -List.map_take, -List.map_map]) (by simp [he0])⟩
      · skip
        have g3' := g3
        try simp only [qq] at g3'
        have hok : stOk p (allC p)[i] q = false := by unfold stOk; rw [show decide ((stF p (allC p)[i] q).1 ≤ (stF p (allC p)[i] q).2) = false from g3]; rfl
        have hn := stX_no (i := i) hok
        have eW1 : (wd (stX p i (allC p)[i] q)).1 = (wd (stX p i (allC p)[i] (q + 1))).1 := by rw [hn]
        have eW2 : (wd (stX p i (allC p)[i] q)).2 = (wd (stX p i (allC p)[i] (q + 1))).2 := by rw [hn]
        have eF : decide (0 < (stX p i (allC p)[i] q).length) = decide (0 < (stX p i (allC p)[i] (q + 1)).length) := by rw [hn]
        refine dr_no rfl rfl (less_b g3) rfl rfl ?_
        refine dr_no rfl rfl (less_b g3) rfl rfl ?_
        refine dr_no rfl rfl (less_b g3) rfl rfl ?_
        refine dr_no rfl rfl (less_b g3) rfl rfl ?_
        refine dr_no rfl rfl (less_b g3) rfl rfl ?_
        refine dr_no rfl rfl (less_b g3) rfl rfl ?_
        refine dr_no rfl rfl (less_b g3) rfl rfl ?_
        refine dr_no rfl rfl (less_b g3) rfl rfl ?_
        refine dr_no rfl rfl (less_b g3) rfl rfl ?_
        refine dr_no rfl rfl (less_b g3) rfl rfl ?_
        refine dr_no rfl rfl (less_b g3) rfl rfl ?_
        refine dr_no rfl rfl (less_b g3) rfl rfl ?_
        refine dr_ev rfl (ev_pickF (v := .raw _) (less_b g3) (lr _)) ?_
        refine dr_end (sq_nil ?_)
        refine aw_false (lr _) ?_
        refine aw_skip (aw_region ?_)
        refine mvr (lr _) rfl (sq_ev rfl (ev_add (lr _) (lr _) (wr (by omega) (by omega))) ?_)
        refine asr (lr _) rfl (sq_nil ?_)
        exact ⟨⟨q + 1, by omega⟩, by simp only; omega, Sub.fin 4 ⟨(by exact less_int (by simp only; omega)), less_b eF, lr _, lr _, lr _, lr _, lr _, lr _, trivial⟩ (cells7 eW1 eW2) (by simp [slotsIn, objsIn, sget, keepS, AObj.inB, AV.inB, AV.inL, AV.inE, inE_map, inE_ints, inE_sc, -List.map_append, -List.map_take, -List.map_map]) (by simp [slotsIn, objsIn, sget, keepS, AObj.inB, AV.inB, AV.inL, AV.inE, inE_map, inE_ints, inE_sc, -List.map_append, -List.map_take, -List.map_map]) (by simp [he0])⟩
    · skip
      have c2' := c2
      try simp only [qq] at c2'
      obtain rfl : q = wid p.s0l p.s0h := by omega
      have eU : (stX p i (allC p)[i] (wid p.s0l p.s0h)) = stU p (i + 1) := by rw [stU_succ hi']; rfl
      have eV1 : (wd (stX p i (allC p)[i] (wid p.s0l p.s0h))).1 = (wd (stU p (i + 1))).1 := by rw [eU]
      have eV2 : (wd (stX p i (allC p)[i] (wid p.s0l p.s0h))).2 = (wd (stU p (i + 1))).2 := by rw [eU]
      have eF : decide (0 < (stX p i (allC p)[i] (wid p.s0l p.s0h)).length) = decide (0 < (stU p (i + 1)).length) := by rw [eU]
      refine aw_exit (aw_region ?_)
      refine mvr (lr _) rfl (sq_ev rfl (ev_add (lr _) (lr _) (wr (by omega) (by omega))) ?_)
      refine asr (lr _) rfl (sq_nil ?_)
      exact ⟨⟨i + 1, by omega⟩, by simp only; omega, Sub.fin 3 ⟨lr _, less_b eF, lr _, lr _, lr _, lr _, trivial⟩ (cells2 eV1 eV2) (by simp [slotsIn, objsIn, sget, keepS, AObj.inB, AV.inB, AV.inL, AV.inE, inE_map, inE_ints, inE_sc, -List.map_append, -List.map_take, -List.map_map]) (by simp [slotsIn, objsIn, sget, keepS, AObj.inB, AV.inB, AV.inL, AV.inE, inE_map, inE_ints, inE_sc, -List.map_append, -List.map_take, -List.map_map]) (by simp [he0])⟩
  · skip
    have c1' := c1
    try simp only [qq] at c1'
    obtain rfl : i = (allC p).length := by omega
    refine aw_exit (aw_seq (aw_region ?_))
    refine sq_ev rfl (ev_load_agg (lr _) rfl ty23 rfl) ?_
    refine mvr (lr _) rfl ?_
    refine sq_store rfl (lr _) (lr _) rfl rfl ty23 rfl rfl ?_
    refine asr (lr _) rfl (sq_nil (aw_ret ?_))
    exact retQ_res (vs := [.agg _, .raw _]) rfl rfl ⟨resVar_cell rfl rfl ty23 rfl, resVar_tmp _ _ _, trivial⟩ (Less.eq (by rfl))
end Go.Proofs.YtjghdbdiejaacaaGreatDoor
namespace Go.Proofs.YtjghdbdiejaacaaGreatDoor
open Go Go.Ab Ni
theorem en73 : Ent Tryz.prog 73 := Ent.of Tryz.func73 (by kernel_rfl) rfl
theorem prH_free (p : Pl) (n k : Nat) (h : Hr) : prH (freeP p n) h k = prH p h k := rfl
def lgf (p : Pl) (k : Nat) (l : List Nat) (h : Hr) : Int := (prH p h k).2 - (prH p h k).1 - hi p l (k : Int) 0 10
theorem lgW_eq {p : Pl} {n k : Nat} (hk1 : (scn p n).part = (k : Int)) (l : List Nat) : lgW p n l = (hrs (freeP p n) l).map (lgf p k l) := by
  unfold lgW; rw [hk1, Int.toNat_natCast]; rfl
def lgX (p : Pl) (n k i : Nat) (l : List Nat) (q : Nat) : List Int := lgA p n i ++ ((hrs (freeP p n) l).take q).map (lgf p k l)
theorem lgX_zero (p : Pl) (n k i : Nat) (l : List Nat) : lgX p n k i l 0 = lgA p n i := by unfold lgX; simp
theorem lgX_succ {p : Pl} {n k i : Nat} {l : List Nat} {q : Nat} (h : q < (hrs (freeP p n) l).length) : lgX p n k i l (q + 1) = lgX p n k i l q ++ [lgf p k l (hrs (freeP p n) l)[q]] := by
  unfold lgX; rw [map_take_succ _ h, List.append_assoc]
theorem lgA_yes {p : Pl} {n i : Nat} (h : i < (allC p).length) (hm : n ∈ (allC p)[i]) : lgA p n (i + 1) = lgA p n i ++ lgW p n (allC p)[i] := by
  unfold lgA; rw [filter_take_succ _ h, if_pos (by simpa using hm), List.flatMap_append]; simp
theorem lgA_no {p : Pl} {n i : Nat} (h : i < (allC p).length) (hm : ¬ n ∈ (allC p)[i]) : lgA p n (i + 1) = lgA p n i := by
  unfold lgA; rw [filter_take_succ _ h, if_neg (by simpa using hm), List.append_nil]
theorem lgX_end {p : Pl} {n k i : Nat} (hk1 : (scn p n).part = (k : Int)) (h : i < (allC p).length) (hm : n ∈ (allC p)[i]) : lgX p n k i (allC p)[i] (hrs (freeP p n) (allC p)[i]).length = lgA p n (i + 1) := by
  rw [lgA_yes h hm, lgW_eq hk1]; unfold lgX; rw [List.take_length]
theorem rLonger_pure (p : Pl) (n k : Nat) (gp : GP p) (wp : WP p) (hn : n < p.scenes.length) (hk1 : (scn p n).part = (k : Int)) (hk3 : k < 3) (hmo : (scn p n).most ≤ 240) : APure Tryz.prog 73 [plan p, I n] (I (rlg p n)) := by
  refine apure_of (rs := [.tmp 4]) Tryz.func73 rfl rfl (Nat.le_of_ble_eq_true rfl) (by simp [AV.pureL, AV.pureB, AV.pureE, pureE_map]) (rfl) fun e0 he0 => ?_
  refine aw_seq (aw_region ?_)
  refine sq_box rfl (lr _) rfl (asr (lr _) rfl (sq_nil (aw_seq (aw_seq ?_))))
  have he := scn_eq hn
  have hk2 : (p.scenes[n]).part = (k : Int) := he ▸ hk1
  have hal := allC_len gp
  have hgl := gp.len
  have hle0 := (gp.most hn).1
  have hmo1 : (p.scenes[n]).most ≤ 240 := he ▸ hmo
  have hle1 : 0 ≤ (p.scenes[n]).most := he ▸ hle0
  have gpF := freeP_gp gp hn (by omega)
  have wpF := freeP_wp wp hn
  refine aw_region ?_
  refine sq_ev rfl (ev_load_agg (lr _) rfl ty27 rfl) ?_
  refine sq_ev rfl (ev_call en101 (lr _) (possible_pure gp) ⟨lr _, trivial⟩) ?_
  refine sq_nil ?_
  refine aw_cond (lr _) (fun c1 => ?_) (fun c1 => ?_)
  · skip
    have c1' := c1
    try simp only [qq] at c1'
    refine aw_seq (aw_region ?_)
    refine asr (lr _) rfl (sq_nil (aw_ret ?_))
    exact retQ_pure (v := .raw _) rfl rfl (Less.eq (by rw [rlg, if_pos c1']))
  · skip
    have c1' := c1
    try simp only [qq] at c1'
    refine aw_skip (aw_seq (aw_region ?_))
    refine sq_ev rfl (ev_load_agg (lr _) rfl ty27 rfl) ?_
    refine sq_ev rfl (ev_call en92 (lr _) (all_pure gp) ⟨lr _, trivial⟩) ?_
    refine ass rfl (lr _) (sq_nil (aw_seq (aw_region ?_)))
    refine sq_ev rfl (ev_fieldAddr fo27_3 (lr _)) ?_
    refine sq_ev rfl (ev_load (lr _) rfl ty25 rfl) ?_
    refine mvr (lr _) rfl (sq_ev rfl (ev_index_map sl25 (lr _) (lr _) rfl (by omega)) ?_)
    refine sq_ev rfl (ev_fieldAddr_i fo84_0 (lr _)) ?_
    refine sq_ev rfl (ev_less (ev_load_i (lr _) ty3 rfl) (less_int hk2)) ?_
    refine asr (lr _) rfl (sq_nil (aw_seq (aw_region ?_)))
    refine asr (lr _) rfl (sq_nil (aw_seq (aw_seq (aw_region ?_))))
    refine asr (lr _) rfl (sq_nil (aw_block ?_))
    refine aw_loopk (ι := { i : Nat // i ≤ (allC p).length }) [1, 2, 5, 6] (fun i => [(8, I i.1), (7, I (lgF (lgA p n i.1)))]) (fun H i => H) (fun i => (allC p).length - i.1) (⟨0, Nat.zero_le _⟩) ⟨lr _, (by exact less_int (by rfl)), lr _, lr _, lr _, lr _, trivial⟩ rfl ?_
    rintro ⟨i, hiA⟩
    dsimp only [keepS, St.put, sget, slotsOf, List.map_cons, List.map_nil, List.cons_append, List.nil_append, List.length_cons, List.length_nil, Nat.reduceBEq, Nat.reduceAdd, cond_true, cond_false]
    refine aw_seq (aw_seq (aw_region ?_))
    refine mvr (lr _) rfl (mvs rfl (lr _) (sq_ev rfl (ev_len_map sl30 (lr _)) ?_))
    refine sq_ev rfl (ev_lss (lr _) (lr _)) ?_
    refine sq_nil ?_
    refine aw_cond (lr _) (fun c2 => ?_) (fun c2 => ?_)
    · skip
      have c2' := c2
      try simp only [qq] at c2'
      have hi' : i < (allC p).length := by omega
      have cv := allC_mem gp _ (List.getElem_mem hi')
      have cvF : CV (freeP p n) (allC p)[i] := ⟨cv.len, fun x hx => by rw [freeP_len]; exact cv.rng x hx⟩
      have b3 := lo_bd' gp cv k 0 10
      have b4 := hi_bd' gp cv k 0 10
      have hhl := hrs_len gpF (allC p)[i]
      refine aw_skip (aw_seq (aw_block (aw_seq (aw_seq (aw_region ?_)))))
      refine mvs rfl (lr _) (mvr (lr _) rfl (sq_ev rfl (ev_index_map sl30 (lr _) (lr _) rfl (by omega)) ?_))
      refine sq_ev rfl (ev_load_i (lr _) ty34 rfl) ?_
      refine mvr (lr _) rfl (sq_ev rfl (ev_call en62 (lr _) (has_nats (allC p)[i] n (by have := cv.len; omega)) ⟨lr _, lr _, trivial⟩) ?_)
      refine sq_ev rfl (ev_not (lr _)) ?_
      refine sq_nil ?_
      refine aw_cond (lr _) (fun c3 => ?_) (fun c3 => ?_)
      · skip
        have c3' := c3
        try simp only [qq] at c3'
        have hno : ¬ n ∈ (allC p)[i] := by simpa using c3'
        have eF : lgF (lgA p n i) = lgF (lgA p n (i + 1)) := by rw [lgA_no hi' hno]
        refine aw_exit (aw_region ?_)
        refine mvr (lr _) rfl (sq_ev rfl (ev_add (lr _) (lr _) (wr (by omega) (by omega))) ?_)
        refine asr (lr _) rfl (sq_nil ?_)
        exact ⟨⟨i + 1, by omega⟩, by simp only; omega, Sub.fin 1 ⟨lr _, less_int eF, lr _, lr _, lr _, lr _, trivial⟩ rfl (by simp [slotsIn, objsIn, sget, keepS, AObj.inB, AV.inB, AV.inL, AV.inE, inE_map, inE_ints, inE_sc, -List.map_append, -List.map_take, -List.map_map]) (by simp [slotsIn, objsIn, sget, keepS, AObj.inB, AV.inB, AV.inL, AV.inE, inE_map, inE_ints, inE_sc, -List.map_append, -List.map_take, -List.map_map]) (by simp [he0])⟩
      · skip
        have c3' := c3
        try simp only [qq] at c3'
        have hyes : n ∈ (allC p)[i] := by simpa using c3'
        refine aw_skip (aw_seq (aw_region ?_))
        refine sq_ev rfl (ev_load_agg (lr _) rfl ty27 rfl) ?_
        refine sq_alloc rfl z27 ?_
        refine sq_store rfl (lr _) (lr _) rfl rfl ty27 rfl rfl ?_
        refine sq_nil (aw_seq (aw_region ?_))
        refine sq_ev rfl (ev_fieldAddr fo27_3 (lr _)) ?_
        refine sq_ev rfl (ev_load (lr _) rfl ty25 rfl) ?_
        refine sq_append_msl rfl sf25 Tryz.underlying25 (less_nilx _) (lr _) (by simp; omega) (by simp; omega) (by simp; omega) fun cap hcap => ?_
        refine sq_ev rfl (ev_fieldAddr fo27_3 (lr _)) ?_
        refine sq_store rfl (lr _) (lr _) rfl rfl ty25 rfl rfl ?_
        refine sq_nil (aw_seq ?_)
        have hfl := flat_len p.scenes
        have hat := most_at p.scenes n hn (List.replicate ((cap - (p.scenes.map sc).length) * 5) .any)
        have hsp := splice1 (p.scenes[n].most + 1800) p.scenes n hn (List.replicate ((cap - (p.scenes.map sc).length) * 5) .any) _ rfl
        have hble : Nat.ble (n * 5 + 2 + 1) ((p.scenes.map sc).flatten ++ List.replicate ((cap - (p.scenes.map sc).length) * 5) AV.any).length = true := Nat.ble_eq_true_of_le (by rw [List.length_append, hfl, List.length_replicate]; omega)
        refine aw_draw 12 mo (by kernel_rfl) ?_
        refine dr_ev rfl (ev_fieldAddr fo27_3 (lr _)) ?_
        refine dr_ev rfl (ev_load (lr _) rfl ty25 rfl) ?_
        refine dr_ev rfl (ev_mv (v := .raw _) (lr _)) ?_
        refine dr_ev rfl (ev_fieldAddr fo27_3 (lr _)) ?_
        refine dr_ev rfl (ev_load (lr _) rfl ty25 rfl) ?_
        refine dr_ev rfl (ev_mv (v := .raw _) (lr _)) ?_
        refine dr_ev rfl (ev_less (v' := .ptr 2 (n * 5)) (ev_index_msl sl25 (lr _) (lr _) rfl (by simp; omega)) (Less.eq (congrArg (AV.ptr 2) (Nat.zero_add (n * 5))))) ?_
        refine dr_ev rfl (ev_fieldAddr fo84_2 (lr _)) ?_
        refine dr_ev rfl (ev_load (lr _) rfl ty3 hat) ?_
        refine dr_ev rfl (ev_add (lr _) (lr _) (wr (by omega) (by omega))) ?_
        refine dr_ev rfl (ev_less (v' := .ptr 2 (n * 5)) (ev_index_msl sl25 (lr _) (lr _) rfl (by simp; omega)) (Less.eq (congrArg (AV.ptr 2) (Nat.zero_add (n * 5))))) ?_
        refine dr_ev rfl (ev_fieldAddr fo84_2 (lr _)) ?_
        refine dr_end ?_
        refine sq_store rfl (lr _) (lr _) rfl rfl ty3 rfl hble ?_
        refine sq_nil (aw_seq ?_)
        have hsc : (freeP p n).scenes = p.scenes.set n { p.scenes[n] with most := p.scenes[n].most + 1800 } := by rw [freeP, he]; rfl
        refine aw_sub (sub_freeze (j := 2) (n := (p.scenes.map sc).length) (cap := cap) (sz := 5) (es := (freeP p n).scenes.map sc) (rest := List.replicate ((cap - (p.scenes.map sc).length) * 5) .any) (sl' := [(1, I n), (2, AV.ptr 0 0), (5, natss (allC p)), (6, I k), (7, I (lgF (lgA p n i))), (8, I i), (9, AV.ptr 1 0)]) (by rw [hsc]; exact congrArg (fun l => some (AObj.cells l)) hsp) (by simp [freeP]) (fun q hq => by obtain ⟨x, _, rfl⟩ := List.mem_map.1 hq; rfl) (fun q hq => by rcases List.mem_cons.1 hq with rfl | hq; exact Fz.same (I n); rcases List.mem_cons.1 hq with rfl | hq; exact Fz.same (AV.ptr 0 0); rcases List.mem_cons.1 hq with rfl | hq; exact Fz.same (natss (allC p)); rcases List.mem_cons.1 hq with rfl | hq; exact Fz.same (I k); rcases List.mem_cons.1 hq with rfl | hq; exact Fz.same (I (lgF (lgA p n i))); rcases List.mem_cons.1 hq with rfl | hq; exact Fz.same (I i); rw [List.mem_singleton] at hq; subst hq; exact Fz.same (AV.ptr 1 0)) (FzH.same _ (by decide) (FzH.cells (by decide) (FzL.cons (Fz.same _) (FzL.cons (Fz.same _) (FzL.cons (Fz.same _) (FzL.cons (Fz.same _) (FzL.cons (Fz.same _) (FzL.cons (Fz.same _) (FzL.cons (Fz.same _) (FzL.cons Fz.frozen FzL.nil)))))))) (FzH.dead _ rfl (FzH.nil _))))) ?_
        refine aw_draw 10 mo (by kernel_rfl) ?_
        refine dr_ev rfl (ev_load_agg (lr _) rfl ty27 rfl) ?_
        refine dr_ev rfl (ev_mv (v := .sl _ _) (lr _)) ?_
        refine dr_ev rfl (ev_mv (v := .raw _) (lr _)) ?_
        refine dr_ev rfl (ev_index_map sl30 (lr _) (lr _) rfl (by omega)) ?_
        refine dr_ev rfl (ev_load_i (lr _) ty34 rfl) ?_
        refine dr_ev rfl (ev_call en110 (lr _) (whole_pure p (allC p)[i] gp cv) ⟨lr _, lr _, trivial⟩) ?_
        refine dr_ev rfl (ev_mv (v := .raw _) (lr _)) ?_
        refine dr_ev rfl (ev_less (ev_indexv_agg (k := k) ar120 ty23 (lr _) (lr _) rfl (by omega)) (Less.eq (b := .agg [I (lo p (allC p)[i] k 0 10), I (hi p (allC p)[i] k 0 10)]) (by rcases k with _ | _ | _ | k <;> first | rfl | omega))) ?_
        refine dr_ev rfl (ev_field fo23_1 ty3 (lr _) rfl) ?_
        refine dr_ev rfl (ev_as (v := .raw _) (lr _)) ?_
        refine dr_end (sq_nil (aw_seq ?_))
        refine aw_draw 7 mo (by kernel_rfl) ?_
        refine dr_ev rfl (ev_load_agg (lr _) rfl ty27 rfl) ?_
        refine dr_ev rfl (ev_mv (v := .sl _ _) (lr _)) ?_
        refine dr_ev rfl (ev_mv (v := .raw _) (lr _)) ?_
        refine dr_ev rfl (ev_index_map sl30 (lr _) (lr _) rfl (by omega)) ?_
        refine dr_ev rfl (ev_load_i (lr _) ty34 rfl) ?_
        refine dr_ev rfl (ev_call en102 (lr _) (hours_pure (freeP p n) (allC p)[i] gpF cvF) ⟨lr _, lr _, trivial⟩) ?_
        refine dr_ev rfl (ev_as (v := .sl _ _) (lr _)) ?_
        refine dr_end (sq_nil (aw_seq (aw_region ?_)))
        refine asr (lr _) rfl (sq_nil (aw_block ?_))
        refine aw_loopk (ι := { q : Nat // q ≤ (hrs (freeP p n) (allC p)[i]).length }) [1, 2, 5, 6, 8, 10, 11] (fun q => [(12, I q.1), (7, I (lgF (lgX p n k i (allC p)[i] q.1)))]) (fun H q => H) (fun q => (hrs (freeP p n) (allC p)[i]).length - q.1) (⟨0, Nat.zero_le _⟩) ⟨lr _, (by exact less_int (by rw [lgX_zero])), lr _, lr _, lr _, lr _, lr _, lr _, lr _, trivial⟩ rfl ?_
        rintro ⟨q, hq⟩
        dsimp only [keepS, St.put, sget, slotsOf, List.map_cons, List.map_nil, List.cons_append, List.nil_append, List.length_cons, List.length_nil, Nat.reduceBEq, Nat.reduceAdd, cond_true, cond_false]
        refine aw_seq (aw_seq (aw_region ?_))
        refine mvr (lr _) rfl (mvs rfl (lr _) (sq_ev rfl (ev_len_map sl122 (lr _)) ?_))
        refine sq_ev rfl (ev_lss (lr _) (lr _)) ?_
        refine sq_nil ?_
        refine aw_cond (lr _) (fun c4 => ?_) (fun c4 => ?_)
        · skip
          have c4' := c4
          try simp only [qq] at c4'
          have hq' : q < (hrs (freeP p n) (allC p)[i]).length := by omega
          have hbd := hrs_bd gpF wpF cvF (List.getElem_mem hq') k
          rw [prH_free] at hbd
          have eQ := lgX_succ (k := k) (i := i) hq'
          refine aw_skip (aw_seq (aw_block (aw_seq ?_)))
          refine aw_draw 12 mo (by kernel_rfl) ?_
          refine dr_ev rfl (ev_load_agg (lr _) rfl ty27 rfl) ?_
          refine dr_ev rfl (ev_mv (v := .sl _ _) (lr _)) ?_
          refine dr_ev rfl (ev_mv (v := .raw _) (lr _)) ?_
          refine dr_ev rfl (ev_index_map sl122 (lr _) (lr _) rfl (by omega)) ?_
          refine dr_ev rfl (ev_load_agg_i (lr _) ty125 (Nat.le_of_ble_eq_true rfl)) ?_
          refine dr_ev rfl (ev_mv (v := .raw _) (lr _)) ?_
          refine dr_ev rfl (ev_call en105 (lr _) (rbegins_pure p (hrs (freeP p n) (allC p)[i])[q] k hk3) ⟨lr _, lr _, lr _, trivial⟩) ?_
          refine dr_ev rfl (ev_mv (v := .tup _) (lr _)) ?_
          refine dr_ev rfl (ev_extract (lr _) rfl) ?_
          refine dr_ev rfl (ev_extract (lr _) rfl) ?_
          refine dr_ev rfl (ev_as (v := .raw _) (lr _)) ?_
          refine dr_ev rfl (ev_as (v := .raw _) (lr _)) ?_
          refine dr_end (sq_nil (aw_seq (aw_region ?_)))
          refine mvr (lr _) rfl (mvr (lr _) rfl (sq_ev rfl (ev_sub (lr _) (lr _) (wr (by omega) (by omega))) ?_))
          refine mvr (lr _) rfl (sq_ev rfl (ev_sub (lr _) (lr _) (wr (by omega) (by omega))) ?_)
          refine asr (lr _) rfl (sq_nil (aw_seq (aw_region ?_)))
          refine mvr (lr _) rfl (sq_ev rfl (ev_lss (lr _) (lr _)) ?_)
          refine mvr (lr _) rfl ?_
          refine sq_split 94 (lr _) (fun g5 => ?_) (fun g5 => ?_)
          · skip
            have g5' := g5
            try simp only [qq] at g5'
            have eF : (lgf p k (allC p)[i] (hrs (freeP p n) (allC p)[i])[q]) = lgF (lgX p n k i (allC p)[i] (q + 1)) := by rw [eQ, lgF_app, if_pos (Or.inl g5')]
            refine sq_no rfl rfl (less_b g5) rfl rfl ?_
            refine sq_no rfl rfl (less_b g5) rfl rfl ?_
            refine sq_no rfl rfl (less_b g5) rfl rfl ?_
            refine sq_ev rfl (ev_pickT (v := .raw _) (less_b g5) (lr _)) ?_
            refine sq_nil ?_
            refine aw_true (lr _) ?_
            refine aw_region ?_
            refine mvr (lr _) rfl (asr (lr _) rfl (sq_nil (aw_region ?_)))
            refine mvr (lr _) rfl (sq_ev rfl (ev_add (lr _) (lr _) (wr (by omega) (by omega))) ?_)
            refine asr (lr _) rfl (sq_nil ?_)
            exact ⟨⟨q + 1, by omega⟩, by simp only; omega, Sub.fin 3 ⟨lr _, less_int eF, lr _, lr _, lr _, lr _, lr _, lr _, lr _, trivial⟩ rfl (by simp [slotsIn, objsIn, sget, keepS, AObj.inB, AV.inB, AV.inL, AV.inE, inE_map, inE_ints, inE_sc, -List.map_append, -List.map_take, -List.map_map]) (by simp [slotsIn, objsIn, sget, keepS, AObj.inB, AV.inB, AV.inL, AV.inE, inE_map, inE_ints, inE_sc, -List.map_append, -List.map_take, -List.map_map]) (by simp [he0])⟩
          · skip
            have g5' := g5
            try simp only [qq] at g5'
            refine sq_yes rfl rfl (less_b g5) rfl (ev_mv (v := .raw _) (lr _)) ?_
            refine sq_yes rfl rfl (less_b g5) rfl (ev_mv (v := .raw _) (lr _)) ?_
            refine sq_yes rfl rfl (less_b g5) rfl (ev_lss (lr _) (lr _)) ?_
            refine sq_ev rfl (ev_pickF (v := .raw _) (less_b g5) (lr _)) ?_
            refine sq_nil ?_
            refine aw_cond (lr _) (fun c6 => ?_) (fun c6 => ?_)
            · skip
              have c6' := c6
              try simp only [qq] at c6'
              have eF : (lgf p k (allC p)[i] (hrs (freeP p n) (allC p)[i])[q]) = lgF (lgX p n k i (allC p)[i] (q + 1)) := by rw [eQ, lgF_app, if_pos (Or.inr (show (lgf p k (allC p)[i] (hrs (freeP p n) (allC p)[i])[q]) < lgF (lgX p n k i (allC p)[i] q) from c6'))]
              refine aw_region ?_
              refine mvr (lr _) rfl (asr (lr _) rfl (sq_nil (aw_region ?_)))
              refine mvr (lr _) rfl (sq_ev rfl (ev_add (lr _) (lr _) (wr (by omega) (by omega))) ?_)
              refine asr (lr _) rfl (sq_nil ?_)
              exact ⟨⟨q + 1, by omega⟩, by simp only; omega, Sub.fin 3 ⟨lr _, less_int eF, lr _, lr _, lr _, lr _, lr _, lr _, lr _, trivial⟩ rfl (by simp [slotsIn, objsIn, sget, keepS, AObj.inB, AV.inB, AV.inL, AV.inE, inE_map, inE_ints, inE_sc, -List.map_append, -List.map_take, -List.map_map]) (by simp [slotsIn, objsIn, sget, keepS, AObj.inB, AV.inB, AV.inL, AV.inE, inE_map, inE_ints, inE_sc, -List.map_append, -List.map_take, -List.map_map]) (by simp [he0])⟩
            · skip
              have c6' := c6
              try simp only [qq] at c6'
              have eF : lgF (lgX p n k i (allC p)[i] q) = lgF (lgX p n k i (allC p)[i] (q + 1)) := by rw [eQ, lgF_app, if_neg (fun hh => hh.elim g5' (fun h2 => c6' (show (prH p (hrs (freeP p n) (allC p)[i])[q] k).2 - (prH p (hrs (freeP p n) (allC p)[i])[q] k).1 - hi p (allC p)[i] (k : Int) 0 10 < lgF (lgX p n k i (allC p)[i] q) from h2)))]
              refine aw_skip (aw_region ?_)
              refine mvr (lr _) rfl (sq_ev rfl (ev_add (lr _) (lr _) (wr (by omega) (by omega))) ?_)
              refine asr (lr _) rfl (sq_nil ?_)
              exact ⟨⟨q + 1, by omega⟩, by simp only; omega, Sub.fin 3 ⟨lr _, less_int eF, lr _, lr _, lr _, lr _, lr _, lr _, lr _, trivial⟩ rfl (by simp [slotsIn, objsIn, sget, keepS, AObj.inB, AV.inB, AV.inL, AV.inE, inE_map, inE_ints, inE_sc, -List.map_append, -List.map_take, -List.map_map]) (by simp [slotsIn, objsIn, sget, keepS, AObj.inB, AV.inB, AV.inL, AV.inE, inE_map, inE_ints, inE_sc, -List.map_append, -List.map_take, -List.map_map]) (by simp [he0])⟩
        · skip
          have c4' := c4
          try simp only [qq] at c4'
          obtain rfl : q = (hrs (freeP p n) (allC p)[i]).length := by omega
          have eF : lgF (lgX p n k i (allC p)[i] (hrs (freeP p n) (allC p)[i]).length) = lgF (lgA p n (i + 1)) := by rw [lgX_end hk1 hi' hyes]
          refine aw_exit (aw_region ?_)
          refine mvr (lr _) rfl (sq_ev rfl (ev_add (lr _) (lr _) (wr (by omega) (by omega))) ?_)
          refine asr (lr _) rfl (sq_nil ?_)
          exact ⟨⟨i + 1, by omega⟩, by simp only; omega, Sub.fin 1 ⟨lr _, less_int eF, lr _, lr _, lr _, lr _, trivial⟩ rfl (by simp [slotsIn, objsIn, sget, keepS, AObj.inB, AV.inB, AV.inL, AV.inE, inE_map, inE_ints, inE_sc, -List.map_append, -List.map_take, -List.map_map]) (by simp [slotsIn, objsIn, sget, keepS, AObj.inB, AV.inB, AV.inL, AV.inE, inE_map, inE_ints, inE_sc, -List.map_append, -List.map_take, -List.map_map]) (by simp [he0])⟩
    · skip
      have c2' := c2
      try simp only [qq] at c2'
      obtain rfl : i = (allC p).length := by omega
      refine aw_exit (aw_seq (aw_region ?_))
      refine mvr (lr _) rfl (asr (lr _) rfl (sq_nil (aw_ret ?_)))
      exact retQ_pure (v := .raw _) rfl rfl (Less.eq (by rw [rlg, if_neg c1']))
end Go.Proofs.YtjghdbdiejaacaaGreatDoor
