/-
  A part of the proof: conditions: none beyond each theorem's own.
-/
import Derived.Test.YtjghdbdiejaacaaGreatDoorSpecA
import Derived.Test.YtjghdbdiejaacaaGreatDoorLogicC
import Derived.KernelRfl
import Derived.Lib.LaidTab
import Derived.Lib.ItoaNum
import Derived.Test.YtjghdbdiejaacaaGreatDoorProg
import Derived.Test.YtjghdbdiejaacaaGreatDoorWalkF
import Derived.Test.YtjghdbdiejaacaaGreatDoorWalkG
import Derived.Test.YtjghdbdiejaacaaGreatDoorLogicD
import Derived.Test.YtjghdbdiejaacaaGreatDoorLogicA
import Derived.Test.YtjghdbdiejaacaaGreatDoorLogicB
import Derived.Test.YtjghdbdiejaacaaGreatDoorShelf
import Derived.Test.YtjghdbdiejaacaaGreatDoorWalkA
import Derived.Test.YtjghdbdiejaacaaGreatDoorWalkB
import Derived.Test.YtjghdbdiejaacaaGreatDoorWalkC
import Derived.Test.YtjghdbdiejaacaaGreatDoorWalkD
import Derived.Test.YtjghdbdiejaacaaGreatDoorWalkE
import Derived.Test.YtjghdbdiejaacaaGreatDoorRow
set_option linter.all false
set_option maxHeartbeats 8000000
namespace Ni
theorem ssum_bd {f : Nat → Int} {c : Nat → Bool} : ∀ {l : List Nat}, (∀ x ∈ l, 0 ≤ f x ∧ f x ≤ 10000) → 0 ≤ ssum f c l ∧ ssum f c l ≤ 10000 * l.length
  | [], _ => by simp [ssum]
  | x :: l, h => by
    have ih := ssum_bd (c := c) (l := l) (fun y hy => h y (List.mem_cons_of_mem _ hy))
    have hx := h x (by simp)
    have e : ssum f c (x :: l) = (if c x = true then f x else 0) + ssum f c l := by
      unfold ssum
      by_cases hc : c x = true <;> simp [hc]
    rw [e, List.length_cons]
    split <;> omega
theorem ssum_bd_take {f : Nat → Int} {c : Nat → Bool} {l : List Nat} (h : ∀ x ∈ l, 0 ≤ f x ∧ f x ≤ 10000) (hl : l.length ≤ 1000) (k : Nat) : 0 ≤ ssum f c (l.take k) ∧ ssum f c (l.take k) ≤ 10000000 := by
  have := ssum_bd (c := c) (l := l.take k) (fun x hx => h x (List.mem_of_mem_take hx))
  have := List.length_take_le' k l
  omega
theorem hi_bd {p : Pl} {l : List Nat} (gp : GP p) (cv : CV p l) (part a b : Int) (k : Nat) : 0 ≤ hi p (l.take k) part a b ∧ hi p (l.take k) part a b ≤ 10000000 := ssum_bd_take (fun x hx => gp.most (cv.rng x hx)) cv.len k
theorem hi_bd' {p : Pl} {l : List Nat} (gp : GP p) (cv : CV p l) (part a b : Int) : 0 ≤ hi p l part a b ∧ hi p l part a b ≤ 10000000 := by have := hi_bd gp cv part a b l.length; rwa [List.take_length] at this
end Ni
namespace Ni
theorem lsts_inc {n : Nat} : ∀ {m : Nat} {now : List Nat}, now.Pairwise (· < ·) → (∀ x ∈ now, x < nxt now) → ∀ l ∈ lsts n m now, l.Pairwise (· < ·)
  | 0, now, h, _, l, hl => by
    simp only [lsts, List.mem_singleton] at hl
    subst hl; exact h
  | m + 1, now, h, hx, l, hl => by
    simp only [lsts] at hl
    obtain ⟨i, _, hl⟩ := mem_fm.1 hl
    refine lsts_inc (m := m) (now := now ++ [nxt now + i]) ?_ ?_ l hl
    · rw [List.pairwise_append]
      refine ⟨h, by simp, fun a ha b hb => ?_⟩
      simp only [List.mem_singleton] at hb
      have := hx a ha; omega
    · intro x hm
      rw [nxt_app]
      rcases List.mem_append.1 hm with hm | hm
      · have := hx x hm; omega
      · simp only [List.mem_singleton] at hm; omega
theorem allC_inc {p : Pl} {l : List Nat} (h : l ∈ allC p) : l.Pairwise (· < ·) := by
  obtain ⟨i, _, h⟩ := mem_fm.1 h
  unfold aA aL at h
  exact lsts_inc List.Pairwise.nil (by simp) l (List.mem_filter.1 h).1
def FitH (p : Pl) (l : List Nat) (h : Hr) : Prop := Fit p l h.1 h.2.1 h.2.2
theorem rect {A B C D L H : Int} (h1 : A ≤ B) (h2 : C ≤ D) (h3 : L ≤ H) (h4 : L ≤ D - A) (h5 : C - B ≤ H) : ∃ x y, A ≤ x ∧ x ≤ B ∧ C ≤ y ∧ y ≤ D ∧ L ≤ y - x ∧ y - x ≤ H :=
  ⟨max A (C - H), max C (max A (C - H) + L), by omega, by omega, by omega, by omega, by omega, by omega⟩
theorem pickF {lo hi L H t : Int} (h1 : lo ≤ hi) (h2 : L ≤ H) (h3 : lo - H ≤ t) (h4 : t ≤ hi - L) : ∃ s, lo ≤ s ∧ s ≤ hi ∧ L ≤ s - t ∧ s - t ≤ H :=
  ⟨max lo (t + L), by omega, by omega, by omega, by omega⟩
section
variable {p : Pl} {l : List Nat}
theorem fw1 : fw p l 1 = (max (p.beg + pl p l 0) p.s0l, min (p.beg + ph p l 0) p.s0h) := rfl
theorem fw2 : fw p l 2 = (max ((fw p l 1).1 + pl p l 1) p.s1l, min ((fw p l 1).2 + ph p l 1) p.s1h) := rfl
theorem bw0 : bw p l 0 = (p.dl, p.dh) := rfl
theorem bw1 : bw p l 1 = (max p.s1l (p.dl - ph p l 2), min p.s1h (p.dh - pl p l 2)) := rfl
theorem bw2 : bw p l 2 = (max p.s0l ((bw p l 1).1 - ph p l 1), min p.s0h ((bw p l 1).2 - pl p l 1)) := rfl
theorem fit_rg {h : Hr} (f : FitH p l h) {k : Nat} (hk : k < 3) : Rg p l k (prH p h k).1 (prH p h k).2 := by
  obtain ⟨a, b, c⟩ := h
  obtain ⟨h1, h2, h3, h4, h5, h6, h7, h8, h9, h10, h11, h12⟩ := f
  simp only at h1 h2 h3 h4 h5 h6 h7 h8 h9 h10 h11 h12
  have f0 : fw p l 0 = (p.beg, p.beg) := rfl
  rcases k with _ | _ | _ | k
  · constructor <;> simp only [prH, if_true, f0, bw2, bw1, Nat.sub_zero] <;> omega
  · constructor <;> simp only [prH, if_true, fw1, bw1, Nat.reduceSub, Nat.reduceAdd, Nat.reduceEqDiff, if_false] <;> omega
  · constructor <;> simp only [prH, fw2, fw1, bw0, Nat.reduceSub, Nat.reduceAdd, Nat.reduceEqDiff, if_false] <;> omega
  · omega
theorem rg_fit (wp : WP p) (cv : CV p l) (hc : can p l = true) {k : Nat} (hk : k < 3) {x y : Int} (r : Rg p l k x y) : ∃ h, FitH p l h ∧ prH p h k = (x, y) := by
  obtain ⟨a', b', c', f⟩ := (can_fit wp cv).1 hc
  obtain ⟨h1, h2, h3, h4, h5, h6, h7, h8, h9, h10, h11, h12⟩ := f
  obtain ⟨x1, x2, y1, y2, d1, d2⟩ := r
  have q0 := pl_le wp cv 0; have q1 := pl_le wp cv 1; have q2 := pl_le wp cv 2
  have f0 : fw p l 0 = (p.beg, p.beg) := rfl
  rcases k with _ | _ | _ | k
  · simp only [f0, bw2, bw1, Nat.sub_zero] at x1 x2 y1 y2
    obtain ⟨b, b1, b2, b3, b4⟩ := pickF (lo := max p.s1l (p.dl - ph p l 2)) (hi := min p.s1h (p.dh - pl p l 2)) (t := y) (by omega) q1 (by omega) (by omega)
    obtain ⟨c, c1, c2, c3, c4⟩ := pickF (lo := p.dl) (hi := p.dh) (t := b) (by omega) q2 (by omega) (by omega)
    obtain rfl : x = p.beg := by omega
    exact ⟨(y, b, c), ⟨by simp only; omega, by simp only; omega, by simp only; omega, by simp only; omega, by simp only; omega, by simp only; omega, by simp only; omega, by simp only; omega, by simp only; omega, by simp only; omega, by simp only; omega, by simp only; omega⟩, rfl⟩
  · simp only [fw1, bw1, Nat.reduceSub, Nat.reduceAdd] at x1 x2 y1 y2 d1 d2
    obtain ⟨c, c1, c2, c3, c4⟩ := pickF (lo := p.dl) (hi := p.dh) (t := y) (by omega) q2 (by omega) (by omega)
    exact ⟨(x, y, c), ⟨by simp only; omega, by simp only; omega, by simp only; omega, by simp only; omega, by simp only; omega, by simp only; omega, by simp only; omega, by simp only; omega, by simp only; omega, by simp only; omega, by simp only; omega, by simp only; omega⟩, rfl⟩
  · simp only [fw2, fw1, bw0, Nat.reduceSub, Nat.reduceAdd] at x1 x2 y1 y2 d1 d2
    obtain ⟨a, a1, a2, a3, a4⟩ := pick (lo := max (p.beg + pl p l 0) p.s0l) (hi := min (p.beg + ph p l 0) p.s0h) (t := x) (by omega) q1 (by omega) (by omega)
    exact ⟨(a, x, y), ⟨by simp only; omega, by simp only; omega, by simp only; omega, by simp only; omega, by simp only; omega, by simp only; omega, by simp only; omega, by simp only; omega, by simp only; omega, by simp only; omega, by simp only; omega, by simp only; omega⟩, rfl⟩
  · omega
theorem rg_some (wp : WP p) (cv : CV p l) (hc : can p l = true) {k : Nat} (hk : k < 3) : (fw p l k).1 ≤ (fw p l k).2 ∧ (bw p l (2 - k)).1 ≤ (bw p l (2 - k)).2 ∧ pl p l k ≤ ph p l k ∧ pl p l k ≤ (bw p l (2 - k)).2 - (fw p l k).1 ∧ (bw p l (2 - k)).1 - (fw p l k).2 ≤ ph p l k := by
  obtain ⟨a', b', c', f⟩ := (can_fit wp cv).1 hc
  have r := fit_rg (h := (a', b', c')) f hk
  obtain ⟨x1, x2, y1, y2, d1, d2⟩ := r
  have := pl_le wp cv k
  omega
end
theorem wd_char : ∀ {vs : List (Int × Int)}, vs ≠ [] → (∃ v ∈ vs, v.1 = (wd vs).1) ∧ (∀ v ∈ vs, (wd vs).1 ≤ v.1) ∧ (∃ v ∈ vs, v.2 = (wd vs).2) ∧ (∀ v ∈ vs, v.2 ≤ (wd vs).2) := by
  intro vs
  generalize hn : vs.length = n
  induction n generalizing vs with
  | zero => intro h; exact absurd (List.length_eq_zero_iff.1 hn) h
  | succ n ih =>
    intro _
    have e : vs = vs.dropLast ++ [vs.getLast (by intro e; rw [e] at hn; cases hn)] := (List.dropLast_concat_getLast _).symm
    generalize vs.getLast (by intro e; rw [e] at hn; cases hn) = v at e
    generalize hw : vs.dropLast = ws at e
    have hl : ws.length = n := by rw [e, List.length_append] at hn; simpa using hn
    subst e
    by_cases h0 : ws = []
    · subst h0
      simp [wd]
    · obtain ⟨⟨u, u1, u2⟩, g1, ⟨w, w1, w2⟩, g2⟩ := ih hl h0
      rw [wd_app h0]
      refine ⟨?_, ?_, ?_, ?_⟩
      · simp only
        rcases Int.le_total (wd ws).1 v.1 with h | h
        · exact ⟨u, by simp [u1], by omega⟩
        · exact ⟨v, by simp, by omega⟩
      · intro x hx; simp only
        rcases List.mem_append.1 hx with hx | hx
        · have := g1 x hx; omega
        · simp only [List.mem_singleton] at hx; subst hx; omega
      · simp only
        rcases Int.le_total v.2 (wd ws).2 with h | h
        · exact ⟨w, by simp [w1], by omega⟩
        · exact ⟨v, by simp, by omega⟩
      · intro x hx; simp only
        rcases List.mem_append.1 hx with hx | hx
        · have := g2 x hx; omega
        · simp only [List.mem_singleton] at hx; subst hx; omega
section
variable {p : Pl} {l : List Nat} (wp : WP p) (cv : CV p l) (hc : can p l = true)
include wp cv hc
end
end Ni
namespace Go.Proofs.YtjghdbdiejaacaaGreatDoor
open Go Go.Ab Ni
section
variable [Tabs] {c : Ctx} {ops : Array Oper} {Q : AExit → St → Prop} {i : Nat} {rest : List Oper} {s : St} {d : Option Tmp} {x y z : Operand} {t : TypeId} {p : String} {af : Array Edge} {v : Value} {j u n : Nat} {want : Bool} {l : List (List AV)}
theorem pf (hd : dOK c.nt d = true) (hx : Less (s.op x) (.raw (.bool false))) (h : Less (s.op z) (.raw v)) (k : SeqWP c ops Q (i + 1) rest (s.put d (.raw v))) : SeqWP c ops Q i (⟨d, .pick x y z, t, p, af, none⟩ :: rest) s := sq_ev hd (ev_pickF hx h) k
theorem ysl (hj : gslot ops j = some u) (ht : Nat.blt u c.nt = true) (hb : Less (sget s.sl u) (.raw (.bool want))) (hd : dOK c.nt d = true) (h : Less (s.op x) (.sl n l)) (k : SeqWP c ops Q (i + 1) rest (s.put d (.sl n l))) : SeqWP c ops Q i (⟨d, .move x, t, p, af, some (j, want)⟩ :: rest) s := sq_yes hj ht hb hd (ev_mv h) k
theorem xtr {m : List AV} {w : AV} (hd : dOK c.nt d = true) (hx : Less (s.op x) (.tup m)) (hv : m[n]? = some w) (k : SeqWP c ops Q (i + 1) rest (s.put d w)) : SeqWP c ops Q i (⟨d, .extract x n, t, p, af, none⟩ :: rest) s := sq_ev hd (ev_extract hx hv) k
theorem mvs (hd : dOK c.nt d = true) (h : Less (s.op x) (.sl n l)) (k : SeqWP c ops Q (i + 1) rest (s.put d (.sl n l))) : SeqWP c ops Q i (⟨d, .move x, t, p, af, none⟩ :: rest) s := sq_ev hd (ev_mv h) k
theorem ass (hd : dOK c.nt d = true) (h : Less (s.op x) (.sl n l)) (k : SeqWP c ops Q (i + 1) rest (s.put d (.sl n l))) : SeqWP c ops Q i (⟨d, .assign x, t, p, af, none⟩ :: rest) s := sq_ev hd (ev_as h) k
theorem ymr (hj : gslot ops j = some u) (ht : Nat.blt u c.nt = true) (hb : Less (sget s.sl u) (.raw (.bool want))) (hd : dOK c.nt d = true) (h : Less (s.op x) (.raw v)) (k : SeqWP c ops Q (i + 1) rest (s.put d (.raw v))) : SeqWP c ops Q i (⟨d, .move x, t, p, af, some (j, want)⟩ :: rest) s := sq_yes hj ht hb hd (ev_mv h) k
end
theorem en35 : Ent Tryz.prog 35 := Ent.of Tryz.func35 (by kernel_rfl) rfl
theorem en89 : Ent Tryz.prog 89 := Ent.of Tryz.func89 (by kernel_rfl) rfl
theorem en90 : Ent Tryz.prog 90 := Ent.of Tryz.func90 (by kernel_rfl) rfl
theorem en91 : Ent Tryz.prog 91 := Ent.of Tryz.func91 (by kernel_rfl) rfl
theorem in_pure (n lo hi : Int) : APure Tryz.prog 89 [I n, I lo, I hi] (B (inn n lo hi)) := by
 refine apure_of (rs := [.tmp 6]) Tryz.func89 rfl rfl (Nat.le_of_ble_eq_true rfl) (by simp [AV.pureL, AV.pureB, AV.pureE, pureE_map]) (rfl) fun e0 he0 => ?_
 refine aw_seq (aw_region ?_)
 refine asr (lr _) rfl (sq_nil (aw_seq (aw_region ?_)))
 refine mvr (lr _) rfl (mvr (lr _) rfl (sq_ev rfl (ev_geq (lr _) (lr _)) ?_))
 refine mvr (lr _) rfl ?_
 refine sq_split 10 (lr _) (fun g1 => ?_) (fun g1 => ?_)
 ·
  have g1' := g1
  try simp only [qq] at g1'
  refine sq_yes rfl rfl (less_b g1) rfl (ev_mv (v := .raw _) (lr _)) ?_
  refine sq_yes rfl rfl (less_b g1) rfl (ev_mv (v := .raw _) (lr _)) ?_
  refine sq_yes rfl rfl (less_b g1) rfl (ev_leq (lr _) (lr _)) ?_
  refine sq_ev rfl (ev_pickT (v := .raw _) (less_b g1) (lr _)) ?_
  refine asr (lr _) rfl (sq_nil (aw_ret ?_))
  exact retQ_pure (v := .raw _) rfl rfl (Less.eq (by simp [inn, *]))
 ·
  have g1' := g1
  try simp only [qq] at g1'
  refine sq_no rfl rfl (less_b g1) rfl rfl ?_
  refine sq_no rfl rfl (less_b g1) rfl rfl ?_
  refine sq_no rfl rfl (less_b g1) rfl rfl ?_
  refine sq_ev rfl (ev_pickF (v := .raw _) (less_b g1) (lr _)) ?_
  refine asr (lr _) rfl (sq_nil (aw_ret ?_))
  exact retQ_pure (v := .raw _) rfl rfl (Less.eq (by simp [inn, *]))
theorem window_pure (lo hi : Int) : APure Tryz.prog 90 [.agg [I lo, I hi]] (B (wnd lo hi)) := by
 refine apure_of (rs := [.tmp 2]) Tryz.func90 rfl rfl (Nat.le_of_ble_eq_true rfl) (by simp [AV.pureL, AV.pureB, AV.pureE, pureE_map]) (rfl) fun e0 he0 => ?_
 refine aw_seq (aw_region ?_)
 refine sq_box rfl (lr _) rfl (asr (lr _) rfl (sq_nil (aw_seq (aw_region ?_))))
 refine sq_ev rfl (ev_fieldAddr fo23_0 (lr _)) ?_
 refine sq_ev rfl (ev_load (lr _) rfl ty3 rfl) ?_
 refine sq_ev rfl (ev_call en89 (lr _) (in_pure _ _ _) ⟨lr _, lr _, lr _, trivial⟩) ?_
 refine mvr (lr _) rfl ?_
 refine sq_split 6 (lr _) (fun g1 => ?_) (fun g1 => ?_)
 ·
  have g1' := g1
  try simp only [qq] at g1'
  refine sq_yes rfl rfl (less_b g1) rfl (ev_fieldAddr fo23_1 (lr _)) ?_
  refine sq_yes rfl rfl (less_b g1) rfl (ev_load (lr _) rfl ty3 rfl) ?_
  refine sq_yes rfl rfl (less_b g1) rfl (ev_fieldAddr fo23_0 (lr _)) ?_
  refine sq_yes rfl rfl (less_b g1) rfl (ev_load (lr _) rfl ty3 rfl) ?_
  refine sq_yes rfl rfl (less_b g1) rfl (ev_call en89 (lr _) (in_pure _ _ _) ⟨lr _, lr _, lr _, trivial⟩) ?_
  refine sq_ev rfl (ev_pickT (v := .raw _) (less_b g1) (lr _)) ?_
  refine mvr (lr _) rfl ?_
  refine sq_split 13 (lr _) (fun g2 => ?_) (fun g2 => ?_)
  ·
   have g2' := g2
   try simp only [qq] at g2'
   simp only [inn, Bool.and_eq_true, decide_eq_true_eq] at g1' g2'
   refine sq_yes rfl rfl (less_b g2) rfl (ev_fieldAddr fo23_1 (lr _)) ?_
   refine sq_yes rfl rfl (less_b g2) rfl (ev_load (lr _) rfl ty3 rfl) ?_
   refine sq_yes rfl rfl (less_b g2) rfl (ev_fieldAddr fo23_0 (lr _)) ?_
   refine sq_yes rfl rfl (less_b g2) rfl (ev_load (lr _) rfl ty3 rfl) ?_
   refine sq_yes rfl rfl (less_b g2) rfl (ev_sub (lr _) (lr _) (wr (by omega) (by omega))) ?_
   refine sq_yes rfl rfl (less_b g2) rfl (ev_leq (lr _) (lr _)) ?_
   refine sq_ev rfl (ev_pickT (v := .raw _) (less_b g2) (lr _)) ?_
   refine asr (lr _) rfl (sq_nil (aw_ret ?_))
   exact retQ_pure (v := .raw _) rfl rfl (Less.eq (by simp [wnd, *]))
  ·
   have g2' := g2
   try simp only [qq] at g2'
   refine sq_no rfl rfl (less_b g2) rfl rfl ?_
   refine sq_no rfl rfl (less_b g2) rfl rfl ?_
   refine sq_no rfl rfl (less_b g2) rfl rfl ?_
   refine sq_no rfl rfl (less_b g2) rfl rfl ?_
   refine sq_no rfl rfl (less_b g2) rfl rfl ?_
   refine sq_no rfl rfl (less_b g2) rfl rfl ?_
   refine sq_ev rfl (ev_pickF (v := .raw _) (less_b g2) (lr _)) ?_
   refine asr (lr _) rfl (sq_nil (aw_ret ?_))
   exact retQ_pure (v := .raw _) rfl rfl (Less.eq (by simp [wnd, *]))
 ·
  have g1' := g1
  try simp only [qq] at g1'
  refine sq_no rfl rfl (less_b g1) rfl rfl ?_
  refine sq_no rfl rfl (less_b g1) rfl rfl ?_
  refine sq_no rfl rfl (less_b g1) rfl rfl ?_
  refine sq_no rfl rfl (less_b g1) rfl rfl ?_
  refine sq_no rfl rfl (less_b g1) rfl rfl ?_
  refine sq_ev rfl (ev_pickF (v := .raw _) (less_b g1) (lr _)) ?_
  refine mvr (lr _) rfl (sq_no rfl rfl (lr _) rfl rfl (sq_no rfl rfl (lr _) rfl rfl (sq_no rfl rfl (lr _) rfl rfl ?_)))
  refine sq_no rfl rfl (lr _) rfl rfl (sq_no rfl rfl (lr _) rfl rfl (sq_no rfl rfl (lr _) rfl rfl (pf rfl (lr _) (lr _) (asr (lr _) rfl (sq_nil (aw_ret ?_))))))
  exact retQ_pure (v := .raw _) rfl rfl (Less.eq (by simp [wnd, *]))
theorem scenes_pure (p : Pl) (hl : p.scenes.length ≤ 1000000) : APure Tryz.prog 91 [plan p] (B (decide (ScOK p.scenes))) := by
 refine apure_of (rs := [.tmp 2]) Tryz.func91 rfl rfl (Nat.le_of_ble_eq_true rfl) (by simp [AV.pureL, AV.pureB, AV.pureE, pureE_map]) (rfl) fun e0 he0 => ?_
 refine aw_seq (aw_region ?_)
 refine sq_box rfl (lr _) rfl (asr (lr _) rfl (sq_nil (aw_seq (aw_region ?_))))
 refine asr (lr _) rfl (sq_nil (aw_seq (aw_seq (aw_region ?_))))
 refine asr (lr _) rfl (sq_nil (aw_block ?_))
 refine aw_loopk (ι := { k : Nat // k ≤ p.scenes.length ∧ ∀ i, (h : i < p.scenes.length) → i < k → scBad p.scenes i h = false }) [1] (fun i => [(3, I (loosies (p.scenes.take i.1))), (4, I i.1)]) (fun H i => H) (fun i => p.scenes.length - i.1) (⟨0, Nat.zero_le _, by omega⟩) ⟨lr _, lr _, lr _, trivial⟩ rfl ?_
 rintro ⟨k, hk, hok⟩
 dsimp only [keepS, St.put, sget, slotsOf, List.map_cons, List.map_nil, List.cons_append, List.nil_append, List.length_cons, List.length_nil, Nat.reduceBEq, Nat.reduceAdd, cond_true, cond_false]
 have hlo := loosies_le (p.scenes.take k)
 have hlt := List.length_take_le k p.scenes
 refine aw_seq (aw_seq (aw_region ?_))
 refine mvr (lr _) rfl (sq_ev rfl (ev_fieldAddr fo27_3 (lr _)) ?_)
 refine sq_ev rfl (ev_load (lr _) rfl ty25 rfl) ?_
 refine sq_ev rfl (ev_len_map sl25 (lr _)) ?_
 refine sq_ev rfl (ev_lss (lr _) (lr _)) ?_
 refine sq_nil ?_
 refine aw_cond (lr _) (fun c1 => ?_) (fun c1 => ?_)
 ·
  have c1' := c1
  try simp only [qq] at c1'
  refine aw_skip (aw_seq (aw_block (aw_seq (aw_region ?_))))
  refine sq_ev rfl (ev_fieldAddr fo27_3 (lr _)) ?_
  refine sq_ev rfl (ev_load (lr _) rfl ty25 rfl) ?_
  refine mvr (lr _) rfl (sq_ev rfl (ev_index_map sl25 (lr _) (lr _) rfl (by omega)) ?_)
  refine sq_ev rfl (ev_load_agg_i (lr _) ty84 (Nat.le_of_ble_eq_true rfl)) ?_
  refine sq_alloc rfl z84 ?_
  refine sq_store rfl (lr _) (lr _) rfl rfl ty84 rfl rfl ?_
  refine sq_nil (aw_seq (aw_seq ?_))
  refine aw_draw 50 mo (by kernel_rfl) ?_
  refine dr_ev rfl (ev_fieldAddr fo84_0 (lr _)) ?_
  refine dr_ev rfl (ev_load (lr _) rfl ty3 rfl) ?_
  refine dr_ev rfl (ev_call en89 (lr _) (in_pure _ _ _) ⟨lr _, lr _, lr _, trivial⟩) ?_
  refine dr_ev rfl (ev_not (lr _)) ?_
  refine dr_ev rfl (ev_mv (v := .raw _) (lr _)) ?_
  refine dr_split 22 (lr _) (fun g2 => ?_) (fun g2 => ?_)
  ·
   have g2' := g2
   try simp only [qq] at g2'
   refine dr_no rfl rfl (less_b g2) rfl rfl ?_
   refine dr_no rfl rfl (less_b g2) rfl rfl ?_
   refine dr_no rfl rfl (less_b g2) rfl rfl ?_
   refine dr_no rfl rfl (lr _) rfl rfl (dr_no rfl rfl (lr _) rfl rfl (dr_no rfl rfl (lr _) rfl rfl (dr_no rfl rfl (lr _) rfl rfl ?_)))
   refine dr_no rfl rfl (lr _) rfl rfl (dr_no rfl rfl (lr _) rfl rfl (dr_no rfl rfl (lr _) rfl rfl (dr_no rfl rfl (lr _) rfl rfl (dr_no rfl rfl (lr _) rfl rfl (dr_no rfl rfl (lr _) rfl rfl (dr_no rfl rfl (less_b g2) rfl rfl ?_))))))
   refine dr_ev rfl (ev_pickT (v := .raw _) (less_b g2) (lr _)) ?_
   refine dr_ev rfl (ev_mv (v := .raw _) (lr _)) ?_
   refine dr_no rfl rfl (lr _) rfl rfl (dr_no rfl rfl (lr _) rfl rfl (dr_no rfl rfl (lr _) rfl rfl (dr_no rfl rfl (lr _) rfl rfl ?_)))
   refine dr_ev rfl (ev_pickT (v := .raw _) (lr _) (lr _)) ?_
   refine dr_ev rfl (ev_mv (v := .raw _) (lr _)) ?_
   refine dr_no rfl rfl (lr _) rfl rfl (dr_no rfl rfl (lr _) rfl rfl (dr_no rfl rfl (lr _) rfl rfl (dr_no rfl rfl (lr _) rfl rfl (dr_no rfl rfl (lr _) rfl rfl (dr_no rfl rfl (lr _) rfl rfl ?_)))))
   refine dr_ev rfl (ev_pickT (v := .raw _) (lr _) (lr _)) ?_
   refine dr_ev rfl (ev_mv (v := .raw _) (lr _)) ?_
   refine dr_no rfl rfl (lr _) rfl rfl ?_
   refine dr_no rfl rfl (lr _) rfl rfl (dr_no rfl rfl (lr _) rfl rfl (dr_no rfl rfl (lr _) rfl rfl (dr_no rfl rfl (lr _) rfl rfl (dr_no rfl rfl (lr _) rfl rfl (dr_no rfl rfl (lr _) rfl rfl (dr_no rfl rfl (lr _) rfl rfl ?_))))))
   refine dr_ev rfl (ev_pickT (v := .raw _) (lr _) (lr _)) ?_
   refine dr_ev rfl (ev_mv (v := .raw _) (lr _)) ?_
   refine dr_no rfl rfl (lr _) rfl rfl (dr_no rfl rfl (lr _) rfl rfl (dr_no rfl rfl (lr _) rfl rfl (dr_no rfl rfl (lr _) rfl rfl ?_)))
   refine dr_ev rfl (ev_pickT (v := .raw _) (lr _) (lr _)) ?_
   refine dr_end (sq_nil ?_)
   refine aw_true (lr _) ?_
   refine aw_seq (aw_region ?_)
   refine asr (lr _) rfl (sq_nil (aw_ret ?_))
   exact retQ_pure (v := .raw _) rfl rfl (Less.eq (by rw [scOK_bad (i := k) (by omega) (by simp [scBad, *])]))
  ·
   have g2' := g2
   try simp only [qq] at g2'
   refine dr_yes rfl rfl (less_b g2) rfl (ev_mv (v := .raw _) (lr _)) ?_
   refine dr_yes rfl rfl (less_b g2) rfl (ev_gtr (lr _) (lr _)) ?_
   refine dr_yes rfl rfl (less_b g2) rfl (ev_mv (v := .raw _) (lr _)) ?_
   refine dr_split 25 (lr _) (fun g3 => ?_) (fun g3 => ?_)
   ·
    have g3' := g3
    try simp only [qq] at g3'
    have g3n : 0 < k := by omega
    refine dr_yes rfl rfl (less_b g3) rfl (ev_fieldAddr fo84_0 (lr _)) ?_
    refine dr_yes rfl rfl (less_b g3) rfl (ev_load (lr _) rfl ty3 rfl) ?_
    refine dr_yes rfl rfl (less_b g3) rfl (ev_fieldAddr fo27_3 (lr _)) ?_
    refine dr_yes rfl rfl (less_b g3) rfl (ev_load (lr _) rfl ty25 rfl) ?_
    refine dr_yes rfl rfl (less_b g3) rfl (ev_mv (v := .raw _) (lr _)) ?_
    refine dr_yes rfl rfl (less_b g3) rfl (ev_sub (lr _) (lr _) (wr (by omega) (by omega))) ?_
    refine dr_yes rfl rfl (less_b g3) rfl (ev_index_map sl25 (lr _) (lr _) (show ((k : Int) - 1) = ((k - 1 : Nat) : Int) by omega) (by omega)) ?_
    refine dr_yes rfl rfl (less_b g3) rfl (ev_fieldAddr_i fo84_0 (lr _)) ?_
    refine dr_yes rfl rfl (less_b g3) rfl (ev_load_i (lr _) ty3 rfl) ?_
    refine dr_yes rfl rfl (less_b g3) rfl (ev_lss (lr _) (lr _)) ?_
    refine dr_yes rfl rfl (less_b g2) rfl (ev_pickT (v := .raw _) (less_b g3) (lr _)) ?_
    refine dr_ev rfl (ev_pickF (v := .raw _) (less_b g2) (lr _)) ?_
    refine dr_ev rfl (ev_mv (v := .raw _) (lr _)) ?_
    refine dr_split 38 (lr _) (fun g4 => ?_) (fun g4 => ?_)
    ·
     have g4' := g4
     try simp only [qq] at g4'
     refine dr_no rfl rfl (less_b g4) rfl rfl ?_
     refine dr_no rfl rfl (less_b g4) rfl rfl ?_
     refine dr_no rfl rfl (less_b g4) rfl rfl ?_
     refine dr_no rfl rfl (less_b g4) rfl rfl ?_
     refine dr_ev rfl (ev_pickT (v := .raw _) (less_b g4) (lr _)) ?_
     refine dr_ev rfl (ev_mv (v := .raw _) (lr _)) ?_
     refine dr_no rfl rfl (lr _) rfl rfl (dr_no rfl rfl (lr _) rfl rfl (dr_no rfl rfl (lr _) rfl rfl (dr_no rfl rfl (lr _) rfl rfl (dr_no rfl rfl (lr _) rfl rfl (dr_no rfl rfl (lr _) rfl rfl ?_)))))
     refine dr_ev rfl (ev_pickT (v := .raw _) (lr _) (lr _)) ?_
     refine dr_ev rfl (ev_mv (v := .raw _) (lr _)) ?_
     refine dr_no rfl rfl (lr _) rfl rfl ?_
     refine dr_no rfl rfl (lr _) rfl rfl (dr_no rfl rfl (lr _) rfl rfl (dr_no rfl rfl (lr _) rfl rfl (dr_no rfl rfl (lr _) rfl rfl (dr_no rfl rfl (lr _) rfl rfl (dr_no rfl rfl (lr _) rfl rfl (dr_no rfl rfl (lr _) rfl rfl ?_))))))
     refine dr_ev rfl (ev_pickT (v := .raw _) (lr _) (lr _)) ?_
     refine dr_ev rfl (ev_mv (v := .raw _) (lr _)) ?_
     refine dr_no rfl rfl (lr _) rfl rfl (dr_no rfl rfl (lr _) rfl rfl (dr_no rfl rfl (lr _) rfl rfl (dr_no rfl rfl (lr _) rfl rfl ?_)))
     refine dr_ev rfl (ev_pickT (v := .raw _) (lr _) (lr _)) ?_
     refine dr_end (sq_nil ?_)
     refine aw_true (lr _) ?_
     refine aw_seq (aw_region ?_)
     refine asr (lr _) rfl (sq_nil (aw_ret ?_))
     exact retQ_pure (v := .raw _) rfl rfl (Less.eq (by rw [scOK_bad (i := k) (by omega) (by simp [scBad, *])]))
    ·
     have g4' := g4
     try simp only [qq] at g4'
     refine dr_yes rfl rfl (less_b g4) rfl (ev_fieldAddr fo84_1 (lr _)) ?_
     refine dr_yes rfl rfl (less_b g4) rfl (ev_load (lr _) rfl ty3 rfl) ?_
     refine dr_yes rfl rfl (less_b g4) rfl (ev_call en89 (lr _) (in_pure _ _ _) ⟨lr _, lr _, lr _, trivial⟩) ?_
     refine dr_yes rfl rfl (less_b g4) rfl (ev_not (lr _)) ?_
     refine dr_ev rfl (ev_pickF (v := .raw _) (less_b g4) (lr _)) ?_
     refine dr_ev rfl (ev_mv (v := .raw _) (lr _)) ?_
     refine dr_split 44 (lr _) (fun g5 => ?_) (fun g5 => ?_)
     ·
      have g5' := g5
      try simp only [qq] at g5'
      refine dr_no rfl rfl (less_b g5) rfl rfl ?_
      refine dr_no rfl rfl (less_b g5) rfl rfl ?_
      refine dr_no rfl rfl (less_b g5) rfl rfl ?_
      refine dr_no rfl rfl (less_b g5) rfl rfl ?_
      refine dr_no rfl rfl (less_b g5) rfl rfl ?_
      refine dr_no rfl rfl (less_b g5) rfl rfl ?_
      refine dr_ev rfl (ev_pickT (v := .raw _) (less_b g5) (lr _)) ?_
      refine dr_ev rfl (ev_mv (v := .raw _) (lr _)) ?_
      refine dr_no rfl rfl (lr _) rfl rfl ?_
      refine dr_no rfl rfl (lr _) rfl rfl (dr_no rfl rfl (lr _) rfl rfl (dr_no rfl rfl (lr _) rfl rfl (dr_no rfl rfl (lr _) rfl rfl (dr_no rfl rfl (lr _) rfl rfl (dr_no rfl rfl (lr _) rfl rfl (dr_no rfl rfl (lr _) rfl rfl ?_))))))
      refine dr_ev rfl (ev_pickT (v := .raw _) (lr _) (lr _)) ?_
      refine dr_ev rfl (ev_mv (v := .raw _) (lr _)) ?_
      refine dr_no rfl rfl (lr _) rfl rfl (dr_no rfl rfl (lr _) rfl rfl (dr_no rfl rfl (lr _) rfl rfl (dr_no rfl rfl (lr _) rfl rfl ?_)))
      refine dr_ev rfl (ev_pickT (v := .raw _) (lr _) (lr _)) ?_
      refine dr_end (sq_nil ?_)
      refine aw_true (lr _) ?_
      refine aw_seq (aw_region ?_)
      refine asr (lr _) rfl (sq_nil (aw_ret ?_))
      exact retQ_pure (v := .raw _) rfl rfl (Less.eq (by rw [scOK_bad (i := k) (by omega) (by simp [scBad, *])]))
     ·
      have g5' := g5
      try simp only [qq] at g5'
      refine dr_yes rfl rfl (less_b g5) rfl (ev_fieldAddr fo84_2 (lr _)) ?_
      refine dr_yes rfl rfl (less_b g5) rfl (ev_load (lr _) rfl ty3 rfl) ?_
      refine dr_yes rfl rfl (less_b g5) rfl (ev_fieldAddr fo84_1 (lr _)) ?_
      refine dr_yes rfl rfl (less_b g5) rfl (ev_load (lr _) rfl ty3 rfl) ?_
      refine dr_yes rfl rfl (less_b g5) rfl (ev_call en89 (lr _) (in_pure _ _ _) ⟨lr _, lr _, lr _, trivial⟩) ?_
      refine dr_yes rfl rfl (less_b g5) rfl (ev_not (lr _)) ?_
      refine dr_ev rfl (ev_pickF (v := .raw _) (less_b g5) (lr _)) ?_
      refine dr_ev rfl (ev_mv (v := .raw _) (lr _)) ?_
      refine dr_split 52 (lr _) (fun g6 => ?_) (fun g6 => ?_)
      ·
       have g6' := g6
       try simp only [qq] at g6'
       refine dr_no rfl rfl (less_b g6) rfl rfl ?_
       refine dr_no rfl rfl (less_b g6) rfl rfl ?_
       refine dr_no rfl rfl (less_b g6) rfl rfl ?_
       refine dr_no rfl rfl (less_b g6) rfl rfl ?_
       refine dr_no rfl rfl (less_b g6) rfl rfl ?_
       refine dr_no rfl rfl (less_b g6) rfl rfl ?_
       refine dr_no rfl rfl (less_b g6) rfl rfl ?_
       refine dr_no rfl rfl (less_b g6) rfl rfl ?_
       refine dr_ev rfl (ev_pickT (v := .raw _) (less_b g6) (lr _)) ?_
       refine dr_ev rfl (ev_mv (v := .raw _) (lr _)) ?_
       refine dr_no rfl rfl (lr _) rfl rfl (dr_no rfl rfl (lr _) rfl rfl (dr_no rfl rfl (lr _) rfl rfl (dr_no rfl rfl (lr _) rfl rfl ?_)))
       refine dr_ev rfl (ev_pickT (v := .raw _) (lr _) (lr _)) ?_
       refine dr_end (sq_nil ?_)
       refine aw_true (lr _) ?_
       refine aw_seq (aw_region ?_)
       refine asr (lr _) rfl (sq_nil (aw_ret ?_))
       exact retQ_pure (v := .raw _) rfl rfl (Less.eq (by rw [scOK_bad (i := k) (by omega) (by simp [scBad, *])]))
      ·
       have g6' := g6
       try simp only [qq] at g6'
       refine dr_yes rfl rfl (less_b g6) rfl (ev_fieldAddr fo84_4 (lr _)) ?_
       refine dr_yes rfl rfl (less_b g6) rfl (ev_load (lr _) rfl ty3 rfl) ?_
       refine dr_yes rfl rfl (less_b g6) rfl (ev_fieldAddr fo27_3 (lr _)) ?_
       refine dr_yes rfl rfl (less_b g6) rfl (ev_load (lr _) rfl ty25 rfl) ?_
       refine dr_yes rfl rfl (less_b g6) rfl (ev_len_map sl25 (lr _)) ?_
       refine dr_yes rfl rfl (less_b g6) rfl (ev_sub (lr _) (lr _) (wr (by omega) (by omega))) ?_
       refine dr_yes rfl rfl (less_b g6) rfl (ev_call en89 (lr _) (in_pure _ _ _) ⟨lr _, lr _, lr _, trivial⟩) ?_
       refine dr_yes rfl rfl (less_b g6) rfl (ev_not (lr _)) ?_
       refine dr_ev rfl (ev_pickF (v := .raw _) (less_b g6) (lr _)) ?_
       refine dr_ev rfl (ev_mv (v := .raw _) (lr _)) ?_
       refine dr_split 62 (lr _) (fun g7 => ?_) (fun g7 => ?_)
       ·
        have g7' := g7
        try simp only [qq] at g7'
        refine dr_no rfl rfl (less_b g7) rfl rfl ?_
        refine dr_no rfl rfl (less_b g7) rfl rfl ?_
        refine dr_no rfl rfl (less_b g7) rfl rfl ?_
        refine dr_no rfl rfl (less_b g7) rfl rfl ?_
        refine dr_ev rfl (ev_pickT (v := .raw _) (less_b g7) (lr _)) ?_
        refine dr_end (sq_nil ?_)
        refine aw_true (lr _) ?_
        refine aw_seq (aw_region ?_)
        refine asr (lr _) rfl (sq_nil (aw_ret ?_))
        exact retQ_pure (v := .raw _) rfl rfl (Less.eq (by rw [scOK_bad (i := k) (by omega) (by simp [scBad, *])]))
       ·
        have g7' := g7
        try simp only [qq] at g7'
        refine dr_yes rfl rfl (less_b g7) rfl (ev_fieldAddr fo84_4 (lr _)) ?_
        refine dr_yes rfl rfl (less_b g7) rfl (ev_load (lr _) rfl ty3 rfl) ?_
        refine dr_yes rfl rfl (less_b g7) rfl (ev_mv (v := .raw _) (lr _)) ?_
        refine dr_yes rfl rfl (less_b g7) rfl (ev_eql (lr _) (lr _)) ?_
        refine dr_ev rfl (ev_pickF (v := .raw _) (less_b g7) (lr _)) ?_
        refine dr_end (sq_nil ?_)
        refine aw_cond (lr _) (fun c8 => ?_) (fun c8 => ?_)
        ·
         have c8' := c8
         try simp only [qq] at c8'
         refine aw_seq (aw_region ?_)
         refine asr (lr _) rfl (sq_nil (aw_ret ?_))
         exact retQ_pure (v := .raw _) rfl rfl (Less.eq (by rw [scOK_bad (i := k) (by omega) (by simp [scBad, *])]))
        ·
         have c8' := c8
         try simp only [qq] at c8'
         refine aw_skip (aw_seq (aw_region ?_))
         refine sq_ev rfl (ev_fieldAddr fo84_3 (lr _)) ?_
         refine sq_ev rfl (ev_load (lr _) rfl ty4 rfl) ?_
         refine sq_nil ?_
         refine aw_cond (lr _) (fun c9 => ?_) (fun c9 => ?_)
         ·
          have c9' := c9
          try simp only [qq] at c9'
          refine aw_region ?_
          refine mvr (lr _) rfl (sq_ev rfl (ev_add (lr _) (lr _) (wr (by omega) (by omega))) ?_)
          refine asr (lr _) rfl (sq_nil (aw_region ?_))
          refine mvr (lr _) rfl (sq_ev rfl (ev_add (lr _) (lr _) (wr (by omega) (by omega))) ?_)
          refine asr (lr _) rfl (sq_nil ?_)
          have hstep := loosies_take (l := p.scenes) (k := k) (by omega)
          have hgood : scBad p.scenes k (by omega) = false := by simp [scBad, *]
          exact ⟨⟨k + 1, by omega, fun i h hi => (by by_cases e : i = k; (subst e; exact hgood); exact hok i h (by omega))⟩, by simp only; omega, Sub.fin 1 ⟨less_int (by rw [hstep]; simp [*]), lr _, lr _, trivial⟩ rfl (by simp [slotsIn, objsIn, sget, keepS, AObj.inB, AV.inB, AV.inL, AV.inE, inE_map]) (by simp [slotsIn, objsIn, sget, keepS, AObj.inB, AV.inB, AV.inL, AV.inE, inE_map]) (by simp [he0])⟩
         ·
          have c9' := c9
          try simp only [qq] at c9'
          refine aw_skip (aw_region ?_)
          refine mvr (lr _) rfl (sq_ev rfl (ev_add (lr _) (lr _) (wr (by omega) (by omega))) ?_)
          refine asr (lr _) rfl (sq_nil ?_)
          have hstep := loosies_take (l := p.scenes) (k := k) (by omega)
          have hgood : scBad p.scenes k (by omega) = false := by simp [scBad, *]
          exact ⟨⟨k + 1, by omega, fun i h hi => (by by_cases e : i = k; (subst e; exact hgood); exact hok i h (by omega))⟩, by simp only; omega, Sub.fin 1 ⟨less_int (by rw [hstep]; simp [*]), lr _, lr _, trivial⟩ rfl (by simp [slotsIn, objsIn, sget, keepS, AObj.inB, AV.inB, AV.inL, AV.inE, inE_map]) (by simp [slotsIn, objsIn, sget, keepS, AObj.inB, AV.inB, AV.inL, AV.inE, inE_map]) (by simp [he0])⟩
   ·
    have g3' := g3
    try simp only [qq] at g3'
    have g3n : ¬ (0 < k) := by omega
    refine dr_no rfl rfl (less_b g3) rfl rfl ?_
    refine dr_no rfl rfl (less_b g3) rfl rfl ?_
    refine dr_no rfl rfl (less_b g3) rfl rfl ?_
    refine dr_no rfl rfl (less_b g3) rfl rfl ?_
    refine dr_no rfl rfl (less_b g3) rfl rfl ?_
    refine dr_no rfl rfl (less_b g3) rfl rfl ?_
    refine dr_no rfl rfl (less_b g3) rfl rfl ?_
    refine dr_no rfl rfl (less_b g3) rfl rfl ?_
    refine dr_no rfl rfl (less_b g3) rfl rfl ?_
    refine dr_no rfl rfl (less_b g3) rfl rfl ?_
    refine dr_yes rfl rfl (less_b g2) rfl (ev_pickF (v := .raw _) (less_b g3) (lr _)) ?_
    refine dr_ev rfl (ev_pickF (v := .raw _) (less_b g2) (lr _)) ?_
    refine dr_ev rfl (ev_mv (v := .raw _) (lr _)) ?_
    refine dr_yes rfl rfl (lr _) rfl (ev_fieldAddr fo84_1 (lr _)) ?_
    refine dr_yes rfl rfl (lr _) rfl (ev_load (lr _) rfl ty3 rfl) ?_
    refine dr_yes rfl rfl (lr _) rfl (ev_call en89 (lr _) (in_pure _ _ _) ⟨lr _, lr _, lr _, trivial⟩) ?_
    refine dr_yes rfl rfl (lr _) rfl (ev_not (lr _)) ?_
    refine dr_ev rfl (ev_pickF (v := .raw _) (lr _) (lr _)) ?_
    refine dr_ev rfl (ev_mv (v := .raw _) (lr _)) ?_
    refine dr_split 44 (lr _) (fun g10 => ?_) (fun g10 => ?_)
    ·
     have g10' := g10
     try simp only [qq] at g10'
     refine dr_no rfl rfl (less_b g10) rfl rfl ?_
     refine dr_no rfl rfl (less_b g10) rfl rfl ?_
     refine dr_no rfl rfl (less_b g10) rfl rfl ?_
     refine dr_no rfl rfl (less_b g10) rfl rfl ?_
     refine dr_no rfl rfl (less_b g10) rfl rfl ?_
     refine dr_no rfl rfl (less_b g10) rfl rfl ?_
     refine dr_ev rfl (ev_pickT (v := .raw _) (less_b g10) (lr _)) ?_
     refine dr_ev rfl (ev_mv (v := .raw _) (lr _)) ?_
     refine dr_no rfl rfl (lr _) rfl rfl ?_
     refine dr_no rfl rfl (lr _) rfl rfl (dr_no rfl rfl (lr _) rfl rfl (dr_no rfl rfl (lr _) rfl rfl (dr_no rfl rfl (lr _) rfl rfl (dr_no rfl rfl (lr _) rfl rfl (dr_no rfl rfl (lr _) rfl rfl (dr_no rfl rfl (lr _) rfl rfl ?_))))))
     refine dr_ev rfl (ev_pickT (v := .raw _) (lr _) (lr _)) ?_
     refine dr_ev rfl (ev_mv (v := .raw _) (lr _)) ?_
     refine dr_no rfl rfl (lr _) rfl rfl (dr_no rfl rfl (lr _) rfl rfl (dr_no rfl rfl (lr _) rfl rfl (dr_no rfl rfl (lr _) rfl rfl ?_)))
     refine dr_ev rfl (ev_pickT (v := .raw _) (lr _) (lr _)) ?_
     refine dr_end (sq_nil ?_)
     refine aw_true (lr _) ?_
     refine aw_seq (aw_region ?_)
     refine asr (lr _) rfl (sq_nil (aw_ret ?_))
     exact retQ_pure (v := .raw _) rfl rfl (Less.eq (by rw [scOK_bad (i := k) (by omega) (by simp [scBad, *])]))
    ·
     have g10' := g10
     try simp only [qq] at g10'
     refine dr_yes rfl rfl (less_b g10) rfl (ev_fieldAddr fo84_2 (lr _)) ?_
     refine dr_yes rfl rfl (less_b g10) rfl (ev_load (lr _) rfl ty3 rfl) ?_
     refine dr_yes rfl rfl (less_b g10) rfl (ev_fieldAddr fo84_1 (lr _)) ?_
     refine dr_yes rfl rfl (less_b g10) rfl (ev_load (lr _) rfl ty3 rfl) ?_
     refine dr_yes rfl rfl (less_b g10) rfl (ev_call en89 (lr _) (in_pure _ _ _) ⟨lr _, lr _, lr _, trivial⟩) ?_
     refine dr_yes rfl rfl (less_b g10) rfl (ev_not (lr _)) ?_
     refine dr_ev rfl (ev_pickF (v := .raw _) (less_b g10) (lr _)) ?_
     refine dr_ev rfl (ev_mv (v := .raw _) (lr _)) ?_
     refine dr_split 52 (lr _) (fun g11 => ?_) (fun g11 => ?_)
     ·
      have g11' := g11
      try simp only [qq] at g11'
      refine dr_no rfl rfl (less_b g11) rfl rfl ?_
      refine dr_no rfl rfl (less_b g11) rfl rfl ?_
      refine dr_no rfl rfl (less_b g11) rfl rfl ?_
      refine dr_no rfl rfl (less_b g11) rfl rfl ?_
      refine dr_no rfl rfl (less_b g11) rfl rfl ?_
      refine dr_no rfl rfl (less_b g11) rfl rfl ?_
      refine dr_no rfl rfl (less_b g11) rfl rfl ?_
      refine dr_no rfl rfl (less_b g11) rfl rfl ?_
      refine dr_ev rfl (ev_pickT (v := .raw _) (less_b g11) (lr _)) ?_
      refine dr_ev rfl (ev_mv (v := .raw _) (lr _)) ?_
      refine dr_no rfl rfl (lr _) rfl rfl (dr_no rfl rfl (lr _) rfl rfl (dr_no rfl rfl (lr _) rfl rfl (dr_no rfl rfl (lr _) rfl rfl ?_)))
      refine dr_ev rfl (ev_pickT (v := .raw _) (lr _) (lr _)) ?_
      refine dr_end (sq_nil ?_)
      refine aw_true (lr _) ?_
      refine aw_seq (aw_region ?_)
      refine asr (lr _) rfl (sq_nil (aw_ret ?_))
      exact retQ_pure (v := .raw _) rfl rfl (Less.eq (by rw [scOK_bad (i := k) (by omega) (by simp [scBad, *])]))
     ·
      have g11' := g11
      try simp only [qq] at g11'
      refine dr_yes rfl rfl (less_b g11) rfl (ev_fieldAddr fo84_4 (lr _)) ?_
      refine dr_yes rfl rfl (less_b g11) rfl (ev_load (lr _) rfl ty3 rfl) ?_
      refine dr_yes rfl rfl (less_b g11) rfl (ev_fieldAddr fo27_3 (lr _)) ?_
      refine dr_yes rfl rfl (less_b g11) rfl (ev_load (lr _) rfl ty25 rfl) ?_
      refine dr_yes rfl rfl (less_b g11) rfl (ev_len_map sl25 (lr _)) ?_
      refine dr_yes rfl rfl (less_b g11) rfl (ev_sub (lr _) (lr _) (wr (by omega) (by omega))) ?_
      refine dr_yes rfl rfl (less_b g11) rfl (ev_call en89 (lr _) (in_pure _ _ _) ⟨lr _, lr _, lr _, trivial⟩) ?_
      refine dr_yes rfl rfl (less_b g11) rfl (ev_not (lr _)) ?_
      refine dr_ev rfl (ev_pickF (v := .raw _) (less_b g11) (lr _)) ?_
      refine dr_ev rfl (ev_mv (v := .raw _) (lr _)) ?_
      refine dr_split 62 (lr _) (fun g12 => ?_) (fun g12 => ?_)
      ·
       have g12' := g12
       try simp only [qq] at g12'
       refine dr_no rfl rfl (less_b g12) rfl rfl ?_
       refine dr_no rfl rfl (less_b g12) rfl rfl ?_
       refine dr_no rfl rfl (less_b g12) rfl rfl ?_
       refine dr_no rfl rfl (less_b g12) rfl rfl ?_
       refine dr_ev rfl (ev_pickT (v := .raw _) (less_b g12) (lr _)) ?_
       refine dr_end (sq_nil ?_)
       refine aw_true (lr _) ?_
       refine aw_seq (aw_region ?_)
       refine asr (lr _) rfl (sq_nil (aw_ret ?_))
       exact retQ_pure (v := .raw _) rfl rfl (Less.eq (by rw [scOK_bad (i := k) (by omega) (by simp [scBad, *])]))
      ·
       have g12' := g12
       try simp only [qq] at g12'
       refine dr_yes rfl rfl (less_b g12) rfl (ev_fieldAddr fo84_4 (lr _)) ?_
       refine dr_yes rfl rfl (less_b g12) rfl (ev_load (lr _) rfl ty3 rfl) ?_
       refine dr_yes rfl rfl (less_b g12) rfl (ev_mv (v := .raw _) (lr _)) ?_
       refine dr_yes rfl rfl (less_b g12) rfl (ev_eql (lr _) (lr _)) ?_
       refine dr_ev rfl (ev_pickF (v := .raw _) (less_b g12) (lr _)) ?_
       refine dr_end (sq_nil ?_)
       refine aw_cond (lr _) (fun c13 => ?_) (fun c13 => ?_)
       ·
        have c13' := c13
        try simp only [qq] at c13'
        refine aw_seq (aw_region ?_)
        refine asr (lr _) rfl (sq_nil (aw_ret ?_))
        exact retQ_pure (v := .raw _) rfl rfl (Less.eq (by rw [scOK_bad (i := k) (by omega) (by simp [scBad, *])]))
       ·
        have c13' := c13
        try simp only [qq] at c13'
        refine aw_skip (aw_seq (aw_region ?_))
        refine sq_ev rfl (ev_fieldAddr fo84_3 (lr _)) ?_
        refine sq_ev rfl (ev_load (lr _) rfl ty4 rfl) ?_
        refine sq_nil ?_
        refine aw_cond (lr _) (fun c14 => ?_) (fun c14 => ?_)
        ·
         have c14' := c14
         try simp only [qq] at c14'
         refine aw_region ?_
         refine mvr (lr _) rfl (sq_ev rfl (ev_add (lr _) (lr _) (wr (by omega) (by omega))) ?_)
         refine asr (lr _) rfl (sq_nil (aw_region ?_))
         refine mvr (lr _) rfl (sq_ev rfl (ev_add (lr _) (lr _) (wr (by omega) (by omega))) ?_)
         refine asr (lr _) rfl (sq_nil ?_)
         have hstep := loosies_take (l := p.scenes) (k := k) (by omega)
         have hgood : scBad p.scenes k (by omega) = false := by simp [scBad, *]
         exact ⟨⟨k + 1, by omega, fun i h hi => (by by_cases e : i = k; (subst e; exact hgood); exact hok i h (by omega))⟩, by simp only; omega, Sub.fin 1 ⟨less_int (by rw [hstep]; simp [*]), lr _, lr _, trivial⟩ rfl (by simp [slotsIn, objsIn, sget, keepS, AObj.inB, AV.inB, AV.inL, AV.inE, inE_map]) (by simp [slotsIn, objsIn, sget, keepS, AObj.inB, AV.inB, AV.inL, AV.inE, inE_map]) (by simp [he0])⟩
        ·
         have c14' := c14
         try simp only [qq] at c14'
         refine aw_skip (aw_region ?_)
         refine mvr (lr _) rfl (sq_ev rfl (ev_add (lr _) (lr _) (wr (by omega) (by omega))) ?_)
         refine asr (lr _) rfl (sq_nil ?_)
         have hstep := loosies_take (l := p.scenes) (k := k) (by omega)
         have hgood : scBad p.scenes k (by omega) = false := by simp [scBad, *]
         exact ⟨⟨k + 1, by omega, fun i h hi => (by by_cases e : i = k; (subst e; exact hgood); exact hok i h (by omega))⟩, by simp only; omega, Sub.fin 1 ⟨less_int (by rw [hstep]; simp [*]), lr _, lr _, trivial⟩ rfl (by simp [slotsIn, objsIn, sget, keepS, AObj.inB, AV.inB, AV.inL, AV.inE, inE_map]) (by simp [slotsIn, objsIn, sget, keepS, AObj.inB, AV.inB, AV.inL, AV.inE, inE_map]) (by simp [he0])⟩
 ·
  have c1' := c1
  try simp only [qq] at c1'
  refine aw_exit (aw_seq (aw_region ?_))
  refine mvr (lr _) rfl (sq_ev rfl (ev_leq (lr _) (lr _)) ?_)
  refine asr (lr _) rfl (sq_nil (aw_ret ?_))
  exact retQ_pure (v := .raw _) rfl rfl (Less.eq (by rw [scOK_end hk c1' hok]))
theorem plan_pure (p : Pl) (hl : p.scenes.length ≤ 1000000) : APure Tryz.prog 24 [plan p] (B (PlOK p)) := by
 refine apure_of (rs := [.tmp 2]) Tryz.func24 rfl rfl (Nat.le_of_ble_eq_true rfl) (by simp [AV.pureL, AV.pureB, AV.pureE, pureE_map]) (rfl) fun e0 he0 => ?_
 refine aw_seq (aw_region ?_)
 refine sq_box rfl (lr _) rfl (asr (lr _) rfl (sq_nil (aw_seq (aw_region ?_))))
 refine sq_ev rfl (ev_fieldAddr fo27_0 (lr _)) ?_
 refine sq_ev rfl (ev_load (lr _) rfl ty3 rfl) ?_
 refine sq_ev rfl (ev_call en89 (lr _) (in_pure _ _ _) ⟨lr _, lr _, lr _, trivial⟩) ?_
 refine mvr (lr _) rfl ?_
 refine sq_split 6 (lr _) (fun g1 => ?_) (fun g1 => ?_)
 ·
  have g1' := g1
  try simp only [qq] at g1'
  refine sq_yes rfl rfl (less_b g1) rfl (ev_fieldAddr fo27_1 (lr _)) ?_
  refine sq_yes rfl rfl (less_b g1) rfl (ev_index_box ar24 (lr _) (lr _) rfl (by decide)) ?_
  refine sq_yes rfl rfl (less_b g1) rfl (ev_load_agg (lr _) rfl ty23 rfl) ?_
  refine sq_yes rfl rfl (less_b g1) rfl (ev_call en90 (lr _) (window_pure _ _) ⟨lr _, trivial⟩) ?_
  refine sq_ev rfl (ev_pickT (v := .raw _) (less_b g1) (lr _)) ?_
  refine mvr (lr _) rfl ?_
  refine sq_split 12 (lr _) (fun g2 => ?_) (fun g2 => ?_)
  ·
   have g2' := g2
   try simp only [qq] at g2'
   refine sq_yes rfl rfl (less_b g2) rfl (ev_fieldAddr fo27_1 (lr _)) ?_
   refine sq_yes rfl rfl (less_b g2) rfl (ev_index_box ar24 (lr _) (lr _) rfl (by decide)) ?_
   refine sq_yes rfl rfl (less_b g2) rfl (ev_load_agg (lr _) rfl ty23 rfl) ?_
   refine sq_yes rfl rfl (less_b g2) rfl (ev_call en90 (lr _) (window_pure _ _) ⟨lr _, trivial⟩) ?_
   refine sq_ev rfl (ev_pickT (v := .raw _) (less_b g2) (lr _)) ?_
   refine mvr (lr _) rfl ?_
   refine sq_split 18 (lr _) (fun g3 => ?_) (fun g3 => ?_)
   ·
    have g3' := g3
    try simp only [qq] at g3'
    refine sq_yes rfl rfl (less_b g3) rfl (ev_fieldAddr fo27_2 (lr _)) ?_
    refine sq_yes rfl rfl (less_b g3) rfl (ev_load_agg (lr _) rfl ty23 rfl) ?_
    refine sq_yes rfl rfl (less_b g3) rfl (ev_call en90 (lr _) (window_pure _ _) ⟨lr _, trivial⟩) ?_
    refine sq_ev rfl (ev_pickT (v := .raw _) (less_b g3) (lr _)) ?_
    refine mvr (lr _) rfl ?_
    refine sq_split 23 (lr _) (fun g4 => ?_) (fun g4 => ?_)
    ·
     have g4' := g4
     try simp only [qq] at g4'
     refine sq_yes rfl rfl (less_b g4) rfl (ev_fieldAddr fo27_3 (lr _)) ?_
     refine sq_yes rfl rfl (less_b g4) rfl (ev_load (lr _) rfl ty25 rfl) ?_
     refine sq_yes rfl rfl (less_b g4) rfl (ev_len_map sl25 (lr _)) ?_
     refine sq_yes rfl rfl (less_b g4) rfl (ev_call en89 (lr _) (in_pure _ _ _) ⟨lr _, lr _, lr _, trivial⟩) ?_
     refine sq_ev rfl (ev_pickT (v := .raw _) (less_b g4) (lr _)) ?_
     refine mvr (lr _) rfl ?_
     refine sq_split 29 (lr _) (fun g5 => ?_) (fun g5 => ?_)
     ·
      have g5' := g5
      try simp only [qq] at g5'
      refine sq_yes rfl rfl (less_b g5) rfl (ev_load_agg (lr _) rfl ty27 rfl) ?_
      refine sq_yes rfl rfl (less_b g5) rfl (ev_call en91 (lr _) (scenes_pure _ hl) ⟨lr _, trivial⟩) ?_
      refine sq_ev rfl (ev_pickT (v := .raw _) (less_b g5) (lr _)) ?_
      refine asr (lr _) rfl (sq_nil (aw_ret ?_))
      exact retQ_pure (v := .raw _) rfl rfl (Less.eq (by simp [PlOK, *]))
     ·
      have g5' := g5
      try simp only [qq] at g5'
      refine sq_no rfl rfl (less_b g5) rfl rfl ?_
      refine sq_no rfl rfl (less_b g5) rfl rfl ?_
      refine sq_ev rfl (ev_pickF (v := .raw _) (less_b g5) (lr _)) ?_
      refine asr (lr _) rfl (sq_nil (aw_ret ?_))
      exact retQ_pure (v := .raw _) rfl rfl (Less.eq (by simp [PlOK, *]))
    ·
     have g4' := g4
     try simp only [qq] at g4'
     refine sq_no rfl rfl (less_b g4) rfl rfl ?_
     refine sq_no rfl rfl (less_b g4) rfl rfl ?_
     refine sq_no rfl rfl (less_b g4) rfl rfl ?_
     refine sq_no rfl rfl (less_b g4) rfl rfl ?_
     refine sq_ev rfl (ev_pickF (v := .raw _) (less_b g4) (lr _)) ?_
     refine mvr (lr _) rfl (sq_no rfl rfl (lr _) rfl rfl (sq_no rfl rfl (lr _) rfl rfl (pf rfl (lr _) (lr _) (asr (lr _) rfl (sq_nil (aw_ret ?_))))))
     exact retQ_pure (v := .raw _) rfl rfl (Less.eq (by simp [PlOK, *]))
   ·
    have g3' := g3
    try simp only [qq] at g3'
    refine sq_no rfl rfl (less_b g3) rfl rfl ?_
    refine sq_no rfl rfl (less_b g3) rfl rfl ?_
    refine sq_no rfl rfl (less_b g3) rfl rfl ?_
    refine sq_ev rfl (ev_pickF (v := .raw _) (less_b g3) (lr _)) ?_
    refine mvr (lr _) rfl (sq_no rfl rfl (lr _) rfl rfl (sq_no rfl rfl (lr _) rfl rfl (sq_no rfl rfl (lr _) rfl rfl (sq_no rfl rfl (lr _) rfl rfl (pf rfl (lr _) (lr _) ?_)))))
    refine mvr (lr _) rfl (sq_no rfl rfl (lr _) rfl rfl (sq_no rfl rfl (lr _) rfl rfl (pf rfl (lr _) (lr _) (asr (lr _) rfl (sq_nil (aw_ret ?_))))))
    exact retQ_pure (v := .raw _) rfl rfl (Less.eq (by simp [PlOK, *]))
  ·
   have g2' := g2
   try simp only [qq] at g2'
   refine sq_no rfl rfl (less_b g2) rfl rfl ?_
   refine sq_no rfl rfl (less_b g2) rfl rfl ?_
   refine sq_no rfl rfl (less_b g2) rfl rfl ?_
   refine sq_no rfl rfl (less_b g2) rfl rfl ?_
   refine sq_ev rfl (ev_pickF (v := .raw _) (less_b g2) (lr _)) ?_
   refine mvr (lr _) rfl (sq_no rfl rfl (lr _) rfl rfl (sq_no rfl rfl (lr _) rfl rfl (sq_no rfl rfl (lr _) rfl rfl ?_)))
   refine pf rfl (lr _) (lr _) (mvr (lr _) rfl (sq_no rfl rfl (lr _) rfl rfl (sq_no rfl rfl (lr _) rfl rfl (sq_no rfl rfl (lr _) rfl rfl (sq_no rfl rfl (lr _) rfl rfl (pf rfl (lr _) (lr _) ?_))))))
   refine mvr (lr _) rfl (sq_no rfl rfl (lr _) rfl rfl (sq_no rfl rfl (lr _) rfl rfl (pf rfl (lr _) (lr _) (asr (lr _) rfl (sq_nil (aw_ret ?_))))))
   exact retQ_pure (v := .raw _) rfl rfl (Less.eq (by simp [PlOK, *]))
 ·
  have g1' := g1
  try simp only [qq] at g1'
  refine sq_no rfl rfl (less_b g1) rfl rfl ?_
  refine sq_no rfl rfl (less_b g1) rfl rfl ?_
  refine sq_no rfl rfl (less_b g1) rfl rfl ?_
  refine sq_no rfl rfl (less_b g1) rfl rfl ?_
  refine sq_ev rfl (ev_pickF (v := .raw _) (less_b g1) (lr _)) ?_
  refine mvr (lr _) rfl (sq_no rfl rfl (lr _) rfl rfl (sq_no rfl rfl (lr _) rfl rfl ?_))
  refine sq_no rfl rfl (lr _) rfl rfl (sq_no rfl rfl (lr _) rfl rfl (pf rfl (lr _) (lr _) (mvr (lr _) rfl (sq_no rfl rfl (lr _) rfl rfl (sq_no rfl rfl (lr _) rfl rfl (sq_no rfl rfl (lr _) rfl rfl ?_))))))
  refine pf rfl (lr _) (lr _) (mvr (lr _) rfl (sq_no rfl rfl (lr _) rfl rfl (sq_no rfl rfl (lr _) rfl rfl (sq_no rfl rfl (lr _) rfl rfl (sq_no rfl rfl (lr _) rfl rfl (pf rfl (lr _) (lr _) ?_))))))
  refine mvr (lr _) rfl (sq_no rfl rfl (lr _) rfl rfl (sq_no rfl rfl (lr _) rfl rfl (pf rfl (lr _) (lr _) (asr (lr _) rfl (sq_nil (aw_ret ?_))))))
  exact retQ_pure (v := .raw _) rfl rfl (Less.eq (by simp [PlOK, *]))
theorem scene_pure (p : Pl) (n : Int) (hl : p.scenes.length ≤ 1000000) : APure Tryz.prog 35 [plan p, I n] (B (isSc p n)) := by
 refine apure_of (rs := [.tmp 4]) Tryz.func35 rfl rfl (Nat.le_of_ble_eq_true rfl) (by simp [AV.pureL, AV.pureB, AV.pureE, pureE_map]) (rfl) fun e0 he0 => ?_
 refine aw_seq (aw_region ?_)
 refine sq_box rfl (lr _) rfl (asr (lr _) rfl (sq_nil (aw_seq (aw_region ?_))))
 refine mvr (lr _) rfl (sq_ev rfl (ev_fieldAddr fo27_3 (lr _)) ?_)
 refine sq_ev rfl (ev_load (lr _) rfl ty25 rfl) ?_
 refine sq_ev rfl (ev_len_map sl25 (lr _)) ?_
 refine sq_ev rfl (ev_sub (lr _) (lr _) (wr (by omega) (by omega))) ?_
 refine sq_ev rfl (ev_call en89 (lr _) (in_pure _ _ _) ⟨lr _, lr _, lr _, trivial⟩) ?_
 refine asr (lr _) rfl (sq_nil (aw_ret ?_))
 exact retQ_pure (v := .raw _) rfl rfl (Less.eq (by simp [isSc]))
end Go.Proofs.YtjghdbdiejaacaaGreatDoor
namespace Go.Proofs.YtjghdbdiejaacaaGreatDoor
open Go Go.Ab Ni
section
variable {r : Option Nat} {H : List AObj} {ρ : Operand → AV} {d : Option Tmp} {t : TypeId} {p : String} {af : Array Edge} {g : Option (Nat × Bool)} {x y : Operand} {yt : TypeId} {a b c e : Int}
end
theorem rshort_pure (p : Pl) : APure Tryz.prog 20 [plan p] (B (decide (p.scenes.length ≤ 12))) := by
 refine apure_of (rs := [.tmp 2]) Tryz.func20 rfl rfl (Nat.le_of_ble_eq_true rfl) (by simp [AV.pureL, AV.pureB, AV.pureE, pureE_map]) (rfl) fun e0 he0 => ?_
 refine aw_seq (aw_region ?_)
 refine sq_box rfl (lr _) rfl (asr (lr _) rfl (sq_nil (aw_seq (aw_region ?_))))
 refine sq_ev rfl (ev_fieldAddr fo27_3 (lr _)) ?_
 refine sq_ev rfl (ev_load (lr _) rfl ty25 rfl) ?_
 refine sq_ev rfl (ev_len_map sl25 (lr _)) ?_
 refine sq_ev rfl (ev_leq (lr _) (lr _)) ?_
 refine asr (lr _) rfl (sq_nil (aw_ret ?_))
 exact retQ_pure (v := .raw _) rfl rfl (Less.eq (by simp; omega))
end Go.Proofs.YtjghdbdiejaacaaGreatDoor
namespace Go.Proofs.YtjghdbdiejaacaaGreatDoor
open Go Go.Ab Ni
theorem en20 : Ent Tryz.prog 20 := Ent.of Tryz.func20 (by kernel_rfl) rfl
theorem en21 : Ent Tryz.prog 21 := Ent.of Tryz.func21 (by kernel_rfl) rfl
theorem en24 : Ent Tryz.prog 24 := Ent.of Tryz.func24 (by kernel_rfl) rfl
theorem short_no {p : Pl} (h : ¬ p.scenes.length ≤ 12) : APure Tryz.prog 20 [plan p] (B false) := by have := rshort_pure p; simpa [h] using this
theorem short_yes {p : Pl} (h : p.scenes.length ≤ 12) : APure Tryz.prog 20 [plan p] (B true) := by have := rshort_pure p; simpa [h] using this
theorem plan_no {p : Pl} (hs : p.scenes.length ≤ 12) (h : PlOK p = false) : APure Tryz.prog 24 [plan p] (B false) := by have := plan_pure p (by omega); rwa [h] at this
theorem plan_yes {p : Pl} (hs : p.scenes.length ≤ 12) (h : PlOK p = true) : APure Tryz.prog 24 [plan p] (B true) := by have := plan_pure p (by omega); rwa [h] at this
theorem ch_yes {p : Pl} (hs : p.scenes.length ≤ 12) (h : PlOK p = true) : APure Tryz.prog 22 [plan p] (.tup [natss (choicesC p), I 0]) := by have := nChoices_pure p (by omega); rwa [if_pos h] at this
end Go.Proofs.YtjghdbdiejaacaaGreatDoor
namespace Go.Proofs.YtjghdbdiejaacaaGreatDoor
open Go Go.Ab Ni
theorem wd_snoc (vs : List (Int × Int)) (v : Int × Int) : wd (vs ++ [v]) = if decide (0 < vs.length) = true then (min (wd vs).1 v.1, max (wd vs).2 v.2) else v := by
  by_cases h : 0 < vs.length
  · rw [if_pos (by simpa using h)]; exact wd_app (List.length_pos_iff.1 h) v
  · rw [if_neg (by simpa using h)]
    have : vs = [] := List.length_eq_zero_iff.1 (by omega)
    subst this; rfl
end Go.Proofs.YtjghdbdiejaacaaGreatDoor
namespace Go.Proofs.YtjghdbdiejaacaaGreatDoor
open Go Go.Ab Ni
section
variable {p : Pl} {l : List Nat} {n k : Nat} (wp : WP p) (cv : CV p l) (inc : l.Pairwise (· < ·)) (hc : can p l = true) (hm : n ∈ l) (hk : (scn p n).part = (k : Int)) (hk3 : k < 3)
include wp cv inc hc hm hk hk3
end
theorem sc_pure {p : Pl} {n : Int} {b : Bool} (hs : p.scenes.length ≤ 12) (h : isSc p n = b) : APure Tryz.prog 35 [plan p, I n] (B b) := by subst h; exact scene_pure p n (by omega)
end Go.Proofs.YtjghdbdiejaacaaGreatDoor
namespace Go.Proofs.YtjghdbdiejaacaaGreatDoor
open Go Go.Ab Ni
theorem en60 : Ent Tryz.prog 60 := Ent.of Tryz.func60 (by kernel_rfl) rfl
theorem rwithin_pure (n a b : Int) : APure Tryz.prog 60 [I n, .agg [I a, I b]] (B (inn n a b)) := by
  refine apure_of (rs := [.tmp 4]) Tryz.func60 rfl rfl (Nat.le_of_ble_eq_true rfl) (by simp [AV.pureL, AV.pureB, AV.pureE, pureE_map]) (rfl) fun e0 he0 => ?_
  refine aw_seq (aw_region ?_)
  refine sq_box rfl (lr _) rfl (asr (lr _) rfl (sq_nil (aw_seq (aw_region ?_))))
  refine mvr (lr _) rfl (sq_ev rfl (ev_fieldAddr fo23_0 (lr _)) ?_)
  refine sq_ev rfl (ev_load (lr _) rfl ty3 rfl) ?_
  refine sq_ev rfl (ev_geq (lr _) (lr _)) ?_
  refine mvr (lr _) rfl ?_
  refine sq_split 9 (lr _) (fun g1 => ?_) (fun g1 => ?_)
  · skip
    have g1' := g1
    try simp only [qq] at g1'
    refine sq_yes rfl rfl (less_b g1) rfl (ev_mv (v := .raw _) (lr _)) ?_
    refine sq_yes rfl rfl (less_b g1) rfl (ev_fieldAddr fo23_1 (lr _)) ?_
    refine sq_yes rfl rfl (less_b g1) rfl (ev_load (lr _) rfl ty3 rfl) ?_
    refine sq_yes rfl rfl (less_b g1) rfl (ev_leq (lr _) (lr _)) ?_
    refine sq_ev rfl (ev_pickT (v := .raw _) (less_b g1) (lr _)) ?_
    refine asr (lr _) rfl (sq_nil (aw_ret ?_))
    exact retQ_pure (v := .raw _) rfl rfl (Less.eq (by simp [inn, *]))
  · skip
    have g1' := g1
    try simp only [qq] at g1'
    refine sq_no rfl rfl (less_b g1) rfl rfl ?_
    refine sq_no rfl rfl (less_b g1) rfl rfl ?_
    refine sq_no rfl rfl (less_b g1) rfl rfl ?_
    refine sq_no rfl rfl (less_b g1) rfl rfl ?_
    refine sq_ev rfl (ev_pickF (v := .raw _) (less_b g1) (lr _)) ?_
    refine asr (lr _) rfl (sq_nil (aw_ret ?_))
    exact retQ_pure (v := .raw _) rfl rfl (Less.eq (by simp [inn, *]))
end Go.Proofs.YtjghdbdiejaacaaGreatDoor
namespace Go.Proofs.YtjghdbdiejaacaaGreatDoor
open Go Go.Ab Ni
theorem en38 : Ent Tryz.prog 38 := Ent.of Tryz.func38 (by kernel_rfl) rfl
theorem choices_iff {p : Pl} (gp : GP p) (wp : WP p) {l : List Nat} : l ∈ choicesC p ↔ l ∈ allC p ∧ ∃ h, FitH p l h := by
  unfold choicesC
  rw [List.mem_filter]
  constructor
  · rintro ⟨h1, h2⟩
    obtain ⟨a, b, c, f⟩ := (can_fit wp (allC_mem gp l h1)).1 h2
    exact ⟨h1, (a, b, c), f⟩
  · rintro ⟨h1, h, f⟩
    exact ⟨h1, (can_fit wp (allC_mem gp l h1)).2 ⟨_, _, _, f⟩⟩
theorem poss_iff {p : Pl} (gp : GP p) (wp : WP p) : 0 < (choicesC p).length ↔ ∃ l, l ∈ allC p ∧ ∃ h, FitH p l h := by
  rw [List.length_pos_iff_exists_mem]
  constructor
  · rintro ⟨l, hl⟩; exact ⟨l, (choices_iff gp wp).1 hl⟩
  · rintro ⟨l, hl⟩; exact ⟨l, (choices_iff gp wp).2 hl⟩
theorem win_in {p : Pl} {l : List Nat} {h : Hr} (f : FitH p l h) {k : Nat} (hk : k < 3) : wl p k ≤ (prH p h k).2 ∧ (prH p h k).2 ≤ wh p k := by
  obtain ⟨g1, g2, g3, g4, g5, g6, _⟩ := f
  rcases k with _ | _ | _ | k
  · exact ⟨g1, g2⟩
  · exact ⟨g3, g4⟩
  · exact ⟨g5, g6⟩
  · omega
theorem rposs_yes {p : Pl} (hs : p.scenes.length ≤ 12) (hk : PlOK p = true) : APure Tryz.prog 38 [plan p] (.tup [B (decide (0 < (choicesC p).length)), B true]) := by
 refine apure_of (rs := [.tmp 2, .tmp 3]) Tryz.func38 rfl rfl (Nat.le_of_ble_eq_true rfl) (by simp [AV.pureL, AV.pureB, AV.pureE, pureE_map]) (rfl) fun e0 he0 => ?_
 refine aw_seq (aw_region ?_)
 refine sq_box rfl (lr _) rfl (asr (lr _) rfl (asr (lr _) rfl (sq_nil (aw_seq (aw_region ?_)))))
 refine sq_ev rfl (ev_load_agg (lr _) rfl ty27 rfl) ?_
 refine sq_ev rfl (ev_call en22 (lr _) (ch_yes hs hk) ⟨lr _, trivial⟩) ?_
 refine sq_ev rfl (ev_mv (v := .tup _) (lr _)) ?_
 refine xtr rfl (lr _) rfl (xtr rfl (lr _) rfl (ass rfl (lr _) (asr (lr _) rfl (sq_nil (aw_seq (aw_region ?_))))))
 refine mvs rfl (lr _) (sq_ev rfl (ev_len_map sl30 (lr _)) ?_)
 refine sq_ev rfl (ev_gtr (lr _) (lr _)) ?_
 refine mvr (lr _) rfl (sq_ev rfl (ev_eql (lr _) (lr _)) ?_)
 refine asr (lr _) rfl (asr (lr _) rfl (sq_nil (aw_ret ?_)))
 exact retQ_pure (v := .tup [.raw _, .raw _]) rfl rfl (Less.eq (by simp))
theorem poss_val {p : Pl} {b : Bool} (hs : p.scenes.length ≤ 12) (hk : PlOK p = true) (h : decide (0 < (choicesC p).length) = b) : APure Tryz.prog 38 [plan p] (.tup [B b, B true]) := by subst h; exact rposs_yes hs hk
end Go.Proofs.YtjghdbdiejaacaaGreatDoor
namespace Go.Proofs.YtjghdbdiejaacaaGreatDoor
open Go Go.Ab Ni
theorem freeP_scn {p : Pl} {n : Nat} (hn : n < p.scenes.length) (x : Nat) : scn (freeP p n) x = if x = n then freeS (scn p n) else scn p x := by
  unfold scn freeP
  simp only [List.getD_eq_getElem?_getD, List.getElem?_set]
  by_cases e : x = n
  · subst e; simp [hn, scn, List.getD_eq_getElem?_getD]
  · rw [if_neg (fun h => e h.symm), if_neg e]
theorem freeP_part {p : Pl} {n : Nat} (hn : n < p.scenes.length) (x : Nat) : (scn (freeP p n) x).part = (scn p x).part := by
  rw [freeP_scn hn]; split
  · rename_i e; subst e; rfl
  · rfl
theorem freeP_least {p : Pl} {n : Nat} (hn : n < p.scenes.length) (x : Nat) : (scn (freeP p n) x).least = (scn p x).least := by
  rw [freeP_scn hn]; split
  · rename_i e; subst e; rfl
  · rfl
theorem freeP_most {p : Pl} {n : Nat} (hn : n < p.scenes.length) (x : Nat) : (scn p x).most ≤ (scn (freeP p n) x).most ∧ (x ≠ n → (scn (freeP p n) x).most = (scn p x).most) := by
  rw [freeP_scn hn]; split
  · rename_i e; subst e; exact ⟨by simp only [freeS]; omega, fun h => absurd rfl h⟩
  · exact ⟨Int.le_refl _, fun _ => rfl⟩
theorem freeP_isC {p : Pl} {n : Nat} (hn : n < p.scenes.length) (l : List Nat) : isC (freeP p n) l = isC p l := by
  unfold isC isCh
  rw [Bool.eq_iff_iff, okAll_iff, okAll_iff]
  have key : ∀ i (h1 : i < (freeP p n).scenes.length) (h2 : i < p.scenes.length), chBad (freeP p n) (up l) i h1 = chBad p (up l) i h2 := fun i h1 h2 => by
    have e1 : (freeP p n).scenes[i].loose = p.scenes[i].loose ∧ (freeP p n).scenes[i].wants = p.scenes[i].wants := by
      have e := freeP_scn hn i
      rw [scn_eq h1, scn_eq h2] at e
      rw [e]; split
      · rename_i e; subst e; rw [scn_eq hn]; exact ⟨rfl, rfl⟩
      · exact ⟨rfl, rfl⟩
    unfold chBad; rw [e1.1, e1.2]
  constructor
  · intro h i hi; rw [← key i (by rw [freeP_len]; exact hi) hi]; exact h i _
  · intro h i hi; rw [key i hi (by rw [freeP_len] at hi; exact hi)]; exact h i _
theorem allC_free {p : Pl} {n : Nat} (hn : n < p.scenes.length) : allC (freeP p n) = allC p := by
  have e : isC (freeP p n) = isC p := funext (freeP_isC hn)
  unfold allC aA aL
  rw [freeP_len, e]
theorem ofP_free {p : Pl} {n : Nat} (hn : n < p.scenes.length) (l : List Nat) (k : Int) : ofP (freeP p n) l k = ofP p l k := by
  unfold ofP
  refine List.filter_congr fun x _ => ?_
  unfold inPart; rw [freeP_part hn]
theorem pl_free {p : Pl} {n : Nat} (hn : n < p.scenes.length) (l : List Nat) (k : Nat) : pl (freeP p n) l k = pl p l k := by
  unfold pl lsum leasts
  rw [ofP_free hn]
  exact congrArg List.sum (List.map_congr_left fun x _ => freeP_least hn x)
theorem ph_free {p : Pl} {n : Nat} (hn : n < p.scenes.length) (l : List Nat) (k : Nat) : ph p l k ≤ ph (freeP p n) l k ∧ ((scn p n).part ≠ (k : Int) → ph (freeP p n) l k = ph p l k) := by
  unfold ph hsum mosts
  rw [ofP_free hn]
  refine ⟨sum_le fun x _ => (freeP_most hn x).1, fun h => congrArg List.sum (List.map_congr_left fun x hx => (freeP_most hn x).2 ?_)⟩
  rintro rfl
  have := (List.mem_filter.1 hx).2
  simp only [inPart, decide_eq_true_eq] at this
  exact h this
theorem fit_free {p : Pl} {n k : Nat} (hn : n < p.scenes.length) (hk : (scn p n).part = (k : Int)) (hk3 : k < 3) {l : List Nat} {h : Hr} (f : FitH (freeP p n) l h) (hd : (prH (freeP p n) h k).2 - (prH (freeP p n) h k).1 ≤ ph p l k) : FitH p l h := by
  obtain ⟨a, b, c⟩ := h
  obtain ⟨h1, h2, h3, h4, h5, h6, h7, h8, h9, h10, h11, h12⟩ := f
  rw [pl_free hn] at h7 h9 h11
  have q : ∀ j : Nat, j ≠ k → ph (freeP p n) l j = ph p l j := fun j hj => (ph_free hn l j).2 (by rw [hk]; intro e; exact hj (by omega))
  have hb : (freeP p n).beg = p.beg := rfl
  rcases k with _ | _ | _ | k
  · rw [q 1 (by omega)] at h10; rw [q 2 (by omega)] at h12
    simp only [prH, if_true] at hd
    exact ⟨h1, h2, h3, h4, h5, h6, h7, hd, h9, h10, h11, h12⟩
  · rw [q 0 (by omega)] at h8; rw [q 2 (by omega)] at h12
    exact ⟨h1, h2, h3, h4, h5, h6, h7, h8, h9, hd, h11, h12⟩
  · rw [q 0 (by omega)] at h8; rw [q 1 (by omega)] at h10
    exact ⟨h1, h2, h3, h4, h5, h6, h7, h8, h9, h10, h11, hd⟩
  · omega
theorem minL_char : ∀ {l : List Int}, l ≠ [] → minL l ∈ l ∧ ∀ x ∈ l, minL l ≤ x := by
  intro l
  generalize hn : l.length = n
  induction n generalizing l with
  | zero => intro h; exact absurd (List.length_eq_zero_iff.1 hn) h
  | succ n ih =>
    intro h
    rcases Nat.eq_zero_or_pos n with h0 | h0
    · subst h0
      obtain ⟨x, rfl⟩ := List.length_eq_one_iff.1 hn
      exact ⟨by simp [minL], by simp [minL]⟩
    · have e : l = l.take (n + 1) := by rw [List.take_of_length_le (by omega)]
      have ht : (l.take n).length = n := by rw [List.length_take]; omega
      obtain ⟨g1, g2⟩ := ih ht (by intro e; rw [e] at ht; simp at ht; omega)
      have hm := minL_take (l := l) (k := n) (by omega) h0
      rw [← e] at hm
      rw [hm]
      have hsp : ∀ x ∈ l, x ∈ l.take n ∨ x = l[n] := fun x hx => by
        rw [e, List.take_succ_eq_append_getElem (by omega)] at hx
        rcases List.mem_append.1 hx with hx | hx
        · exact Or.inl hx
        · exact Or.inr (by simpa using hx)
      constructor
      · rcases Int.le_total (minL (l.take n)) l[n] with h1 | h1
        · rw [Int.min_eq_left h1]; exact List.mem_of_mem_take g1
        · rw [Int.min_eq_right h1]; exact List.getElem_mem _
      · intro x hx
        rcases hsp x hx with h1 | h1
        · have := g2 x h1; omega
        · subst h1; omega
theorem lg_one {p : Pl} (ok : PlOK p = true) {n k : Nat} (hn : n < p.scenes.length) (hno : (choicesC p).length = 0) (hk : (scn p n).part = (k : Int)) (hk3 : k < 3) {l : List Nat} (hl : l ∈ allC p) (hc : can (freeP p n) l = true) :
    (∃ h, FitH (freeP p n) l h ∧ (prH (freeP p n) h k).2 - (prH (freeP p n) h k).1 - ph p l k = lgV p n l) ∧ ∀ h, FitH (freeP p n) l h → lgV p n l ≤ (prH (freeP p n) h k).2 - (prH (freeP p n) h k).1 - ph p l k ∧ 0 < (prH (freeP p n) h k).2 - (prH (freeP p n) h k).1 - ph p l k := by
  obtain ⟨gp, wp⟩ := gp_of_ok ok
  have hkt : (scn p n).part.toNat = k := by omega
  have wpF := freeP_wp wp hn
  have cv := allC_mem gp l hl
  have cvF : CV (freeP p n) l := ⟨cv.len, fun x hx => by rw [freeP_len]; exact cv.rng x hx⟩
  have hc0 : ¬ can p l = true := fun hc => by
    have : l ∈ choicesC p := List.mem_filter.2 ⟨hl, hc⟩
    rw [List.length_eq_zero_iff.1 hno] at this; cases this
  have hv : lgV p n l = (bw (freeP p n) l (2 - k)).1 - (fw (freeP p n) l k).2 - ph p l k := by
    unfold lgV; rw [hkt, ofP_free hn, hk]; rfl
  have pos : ∀ h, FitH (freeP p n) l h → ph p l k < (prH (freeP p n) h k).2 - (prH (freeP p n) h k).1 := fun h f => by
    rcases Int.lt_or_le (ph p l k) ((prH (freeP p n) h k).2 - (prH (freeP p n) h k).1) with g | g
    · exact g
    · exact absurd ((can_fit wp cv).2 ⟨_, _, _, fit_free hn hk hk3 f g⟩) hc0
  obtain ⟨e1, e2, e3, e4, e5⟩ := rg_some wpF cvF hc hk3
  have hlh := pl_le wp cv k
  have hpf := pl_free hn l k
  have hge : pl (freeP p n) l k ≤ (bw (freeP p n) l (2 - k)).1 - (fw (freeP p n) l k).2 := by
    rcases Int.le_total (pl (freeP p n) l k) ((bw (freeP p n) l (2 - k)).1 - (fw (freeP p n) l k).2) with g | g
    · exact g
    · obtain ⟨x, y, q1, q2, q3, q4, q5, q6⟩ := rect (L := pl (freeP p n) l k) (H := pl (freeP p n) l k) e1 e2 (Int.le_refl _) e4 g
      obtain ⟨h, f, hp⟩ := rg_fit wpF cvF hc hk3 (x := x) (y := y) ⟨q1, q2, q3, q4, q5, by omega⟩
      have := pos h f
      rw [hp] at this
      simp only at this; omega
  constructor
  · obtain ⟨h, f, hp⟩ := rg_fit wpF cvF hc hk3 (x := (fw (freeP p n) l k).2) (y := (bw (freeP p n) l (2 - k)).1) ⟨e1, Int.le_refl _, Int.le_refl _, e2, hge, e5⟩
    exact ⟨h, f, by rw [hp, hv]⟩
  · intro h f
    have h1 := pos h f
    obtain ⟨x1, x2, y1, y2, d1, d2⟩ := fit_rg f hk3
    rw [hv]; omega
theorem mem_lgL {p : Pl} {n : Nat} (hn : n < p.scenes.length) (v : Int) : v ∈ lgL p n ↔ ∃ l, (l ∈ allC p ∧ n ∈ l ∧ can (freeP p n) l = true) ∧ v = lgV p n l := by
  have hL : lgL p n = (((allC p).filter (can (freeP p n))).filter fun l => decide (n ∈ l)).map (lgV p n) := by
    unfold lgL selT; rw [List.take_length]; unfold choicesC; rw [allC_free hn]
  rw [hL, List.mem_map]
  constructor
  · rintro ⟨l, h1, h2⟩
    obtain ⟨h3, h4⟩ := List.mem_filter.1 h1
    obtain ⟨h5, h6⟩ := List.mem_filter.1 h3
    exact ⟨l, ⟨h5, by simpa using h4, h6⟩, h2.symm⟩
  · rintro ⟨l, ⟨h1, h2, h3⟩, h4⟩
    exact ⟨l, List.mem_filter.2 ⟨List.mem_filter.2 ⟨h1, h3⟩, by simpa using h2⟩, h4.symm⟩
def begS (p : Pl) (l : List Nat) : Int × Int := (max 0 ((bw p l 2).1 - ph p l 0), min 900 ((bw p l 2).2 - pl p l 0))
def begOk (p : Pl) (l : List Nat) : Bool := decide ((bw p l 0).1 ≤ (bw p l 0).2) && decide ((bw p l 1).1 ≤ (bw p l 1).2) && decide ((bw p l 2).1 ≤ (bw p l 2).2) && decide ((begS p l).1 ≤ (begS p l).2)
def withP (p : Pl) (b : Int) : Pl := { p with beg := b }
end Go.Proofs.YtjghdbdiejaacaaGreatDoor
namespace Go.Proofs.YtjghdbdiejaacaaGreatDoor
open Go Go.Ab Ni
theorem en162 : Ent Tryz.prog 162 := Ent.of Tryz.func162 (by kernel_rfl) rfl
theorem en163 : Ent Tryz.prog 163 := Ent.of Tryz.func163 (by kernel_rfl) rfl
theorem en168 : Ent Tryz.prog 168 := Ent.of Tryz.func168 (by kernel_rfl) rfl
theorem en74 : Ent Tryz.prog 74 := Ent.of Tryz.func74 (by kernel_rfl) rfl
section
variable {P : Program} {r : Option Nat} {H : List AObj} {ρ : Operand → AV}
variable {d : Option Tmp} {t : TypeId} {p : String} {af : Array Edge} {g : Option (Nat × Bool)} {x y : Operand}
theorem ev_slice_box_i {xt et : TypeId} {len sz : Nat} {es : List (List AV)} (ht : arrElem P xt = some (len, et, sz)) (h0 : 0 < len) (hx : Less (ρ x) (.iptr es.flatten)) (hl : es.length = len) (hsz : ∀ c ∈ es, c.length = sz) :
    Ev P r ⟨d, .slice xt x none none none, t, p, af, g⟩ H ρ (.sl sz es) :=
  Ev.pure (by intro c h; cases h) fun e ρc ok hE hs => by
    obtain ⟨h1, ti, h2, rfl⟩ := arrElem_und ht
    have := hx e _ (hs x (by simp [Op.operands]))
    rw [Rep] at this
    obtain ⟨b, off, hpv, hc⟩ := this
    refine ⟨.slice (some ⟨b, off, none⟩) len len, ?_, ?_⟩
    · have hb : (Instr.sliceBounds false len len none none none).run P e.w = .ok (0, len, len) e.w := by simp [Instr.sliceBounds]
      have hne : ¬ len = 0 := by omega
      simp [execOp, Instr.sliceAt, hpv, run_und h1, run_size h2, hb, Addr.add_lit, Instr.sureAddr, hne]
    · rw [Rep]
      refine ⟨_, _, _, rfl, hl.symm, Nat.le_refl _, (fun h => by cases h), hsz, fun ad had => ?_⟩
      simp only [Option.some.injEq] at had
      subst had
      exact ⟨rfl, ElemsAt.flat.2 hc⟩
end
theorem retQM_res {P : Program} {rs : List ResultVar} {res : AV} {vs : List AV} {s : St} {H' : List AObj} (hm : takeMarks s.H s.df = some H') (hlen : Nat.ble rs.length 3 = true) (hv : ResL P { s with H := H' } rs vs) (hl : Less (resTup vs) res) :
    retQM P rs (fun x _ => ∃ v, x = .ret v ∧ Less v res) .ret s := retQM_pure hm (resAV_of (Nat.le_of_ble_eq_true hlen) hv) hl
def wrongS (s : Int × Int) : Bool := decide (s.1 > s.2)
def ixF (E : List (Int × Int)) : Int := match E.findIdx? wrongS with | some i => i | none => -1
theorem ixF_at {E : List (Int × Int)} {k : Nat} (hk : k < E.length) (h : wrongS E[k] = true) (ok : ∀ i, (hi : i < E.length) → i < k → wrongS E[i] = false) : ixF E = k := by
  have : E.findIdx? wrongS = some k := List.findIdx?_eq_some_iff_getElem.2 ⟨hk, h, fun j hj => by simp [ok j (by omega) hj]⟩
  unfold ixF; rw [this]
theorem ixF_no {E : List (Int × Int)} (ok : ∀ i, (hi : i < E.length) → wrongS E[i] = false) : ixF E = -1 := by
  have : E.findIdx? wrongS = none := List.findIdx?_eq_none_iff.2 fun x hx => by
    obtain ⟨i, hi, rfl⟩ := List.getElem_of_mem hx; exact ok i hi
  unfold ixF; rw [this]
theorem ixF_any (E : List (Int × Int)) : decide (ixF E ≥ 0) = E.any wrongS := by
  unfold ixF
  cases h : E.findIdx? wrongS with
  | none =>
    have := List.findIdx?_eq_none_iff.1 h
    rw [List.any_eq_false.2 fun x hx => by simp [this x hx]]; rfl
  | some i =>
    obtain ⟨h1, h2, _⟩ := List.findIdx?_eq_some_iff_getElem.1 h
    rw [List.any_eq_true.2 ⟨_, List.getElem_mem h1, h2⟩]; exact decide_eq_true (show (i : Int) ≥ 0 by omega)
theorem rwrong_pure (a b : Int) : APure Tryz.prog 163 [.agg [I a, I b]] (B (wrongS (a, b))) := by
  refine apure_of (rs := [.tmp 2]) Tryz.func163 rfl rfl (Nat.le_of_ble_eq_true rfl) (by simp [AV.pureL, AV.pureB, AV.pureE, pureE_map]) (rfl) fun e0 he0 => ?_
  refine aw_seq (aw_region ?_)
  refine sq_box rfl (lr _) rfl (asr (lr _) rfl (sq_nil (aw_seq (aw_region ?_))))
  refine sq_ev rfl (ev_fieldAddr fo23_0 (lr _)) ?_
  refine sq_ev rfl (ev_load (lr _) rfl ty3 rfl) ?_
  refine sq_ev rfl (ev_fieldAddr fo23_1 (lr _)) ?_
  refine sq_ev rfl (ev_load (lr _) rfl ty3 rfl) ?_
  refine sq_ev rfl (ev_gtr (lr _) (lr _)) ?_
  refine asr (lr _) rfl (sq_nil (aw_ret ?_))
  exact retQ_pure (v := .raw _) rfl rfl (lr _)
theorem rindexF_pure (E : List (Int × Int)) (hE : E.length ≤ 1000000) : APure Tryz.prog 168 [spans E, .fn (.func 163) [] []] (I (ixF E)) := by
 refine apure_of (rs := [.tmp 4]) Tryz.func168 rfl rfl (Nat.le_of_ble_eq_true rfl) (by simp [AV.pureL, AV.pureB, AV.pureE, pureE_map]) (rfl) fun e0 he0 => ?_
 refine aw_seq (aw_region ?_)
 refine asr (lr _) rfl (sq_nil (aw_seq (aw_seq (aw_region ?_))))
 refine mvs rfl (lr _) (sq_ev rfl (ev_len_map sl43 (lr _)) ?_)
 refine mvr (lr _) rfl (sq_nil (aw_block ?_))
 refine aw_loopk (ι := { k : Nat // k ≤ E.length ∧ ∀ i, (hi : i < E.length) → i < k → wrongS E[i] = false }) [0, 1, 7] (fun i => [(8, I i.1)]) (fun H i => H) (fun i => E.length - i.1) (⟨0, Nat.zero_le _, by omega⟩) ⟨lr _, lr _, lr _, lr _, trivial⟩ rfl ?_
 rintro ⟨k, hk, hok⟩
 dsimp only [keepS, St.put, sget, slotsOf, List.map_cons, List.map_nil, List.cons_append, List.nil_append, List.length_cons, List.length_nil, Nat.reduceBEq, Nat.reduceAdd, cond_true, cond_false]
 refine aw_seq (aw_region ?_)
 refine sq_ev rfl (ev_lss (lr _) (lr _)) ?_
 refine sq_nil (aw_seq ?_)
 refine aw_cond (lr _) (fun c1 => ?_) (fun c1 => ?_)
 ·
  have c1' := c1
  try simp only [qq] at c1'
  have hkL : k < E.length := by omega
  refine aw_skip (aw_seq (aw_block (aw_seq (aw_region ?_))))
  refine mvr (lr _) rfl (asr (lr _) rfl (sq_nil (aw_seq (aw_region ?_))))
  refine sq_ev rfl (ev_mv (v := .fn _ _ _) (lr _)) ?_
  refine mvs rfl (lr _) (mvr (lr _) rfl (sq_ev rfl (ev_index_map sl43 (lr _) (lr _) rfl (by omega)) ?_))
  refine sq_ev rfl (ev_load_agg_i (lr _) ty23 (Nat.le_of_ble_eq_true rfl)) ?_
  refine sq_ev rfl (ev_call en163 (lr _) (rwrong_pure E[k].1 E[k].2) ⟨lr _, trivial⟩) ?_
  refine sq_nil ?_
  refine aw_cond (lr _) (fun c2 => ?_) (fun c2 => ?_)
  ·
   have c2' := c2
   try simp only [qq] at c2'
   refine aw_seq (aw_region ?_)
   refine mvr (lr _) rfl (asr (lr _) rfl (sq_nil (aw_ret ?_)))
   exact retQ_pure (v := .raw _) rfl rfl (Less.eq (by rw [ixF_at hkL (by simpa using c2') hok]))
  ·
   have c2' := c2
   try simp only [qq] at c2'
   refine aw_skip (aw_region ?_)
   refine sq_ev rfl (ev_add (lr _) (lr _) (wr (by omega) (by omega))) ?_
   refine mvr (lr _) rfl (sq_nil ?_)
   exact ⟨⟨k + 1, by omega, fun i hi h => (by by_cases e : i = k; (subst e; simpa using c2'); exact hok i hi (by omega))⟩, by simp only; omega, Sub.slots ⟨lr _, lr _, lr _, lr _, trivial⟩⟩
 ·
  have c1' := c1
  try simp only [qq] at c1'
  refine aw_exit (aw_seq (aw_region ?_))
  refine asr (lr _) rfl (sq_nil (aw_ret ?_))
  exact retQ_pure (v := .raw _) rfl rfl (Less.eq (by rw [ixF_no fun i hi => hok i hi (by omega)]))
theorem rcontainsF_pure (E : List (Int × Int)) (hE : E.length ≤ 1000000) : APure Tryz.prog 162 [spans E, .fn (.func 163) [] []] (B (E.any wrongS)) := by
 refine apure_of (rs := [.tmp 4]) Tryz.func162 rfl rfl (Nat.le_of_ble_eq_true rfl) (by simp [AV.pureL, AV.pureB, AV.pureE, pureE_map]) (rfl) fun e0 he0 => ?_
 refine aw_seq (aw_region ?_)
 refine asr (lr _) rfl (sq_nil (aw_seq (aw_region ?_)))
 refine mvs rfl (lr _) (sq_ev rfl (ev_mv (v := .fn _ _ _) (lr _)) ?_)
 refine sq_ev rfl (ev_call en168 (lr _) (rindexF_pure E hE) ⟨lr _, lr _, trivial⟩) ?_
 refine sq_ev rfl (ev_geq (lr _) (lr _)) ?_
 refine asr (lr _) rfl (sq_nil (aw_ret ?_))
 exact retQ_pure (v := .raw _) rfl rfl (Less.eq (by rw [← ixF_any]))
theorem rwith_pure (p : Pl) (b : Int) : APure Tryz.prog 74 [plan p, I b] (plan (withP p b)) := by
 refine apure_of (rs := [.cell 4 27]) Tryz.func74 rfl rfl (Nat.le_of_ble_eq_true rfl) (by simp [AV.pureL, AV.pureB, AV.pureE, pureE_map]) (by simp [AV.pureL, AV.pureB, AV.pureE, pureE_map]) fun e0 he0 => ?_
 refine aw_seq (aw_region ?_)
 refine sq_box rfl (lr _) rfl ?_
 refine sq_alloc rfl z27 ?_
 refine sq_nil (aw_seq (aw_region ?_))
 refine mvr (lr _) rfl (sq_ev rfl (ev_fieldAddr fo27_0 (lr _)) ?_)
 refine sq_store rfl (lr _) (lr _) rfl rfl ty3 rfl rfl ?_
 refine sq_nil (aw_seq (aw_region ?_))
 refine sq_ev rfl (ev_load_agg (lr _) rfl ty27 rfl) ?_
 refine sq_store rfl (lr _) (lr _) rfl rfl ty27 rfl rfl ?_
 refine sq_nil (aw_ret ?_)
 exact retQ_res (vs := [.agg _]) rfl rfl ⟨resVar_cell rfl rfl ty27 rfl, trivial⟩ (lr _)
end Go.Proofs.YtjghdbdiejaacaaGreatDoor
namespace Go.Proofs.YtjghdbdiejaacaaGreatDoor
open Go Go.Ab Ni
theorem en138 : Ent Tryz.prog 138 := Ent.of Tryz.func138 (by kernel_rfl) rfl
def begE (p : Pl) (l : List Nat) : List (Int × Int) := [bw p l 2, bw p l 1, bw p l 0]
theorem begOk_eq (p : Pl) (l : List Nat) : begOk p l = (!(begE p l).any wrongS && decide ((begS p l).1 ≤ (begS p l).2)) := by
  unfold begOk begE wrongS
  rw [Bool.eq_iff_iff]
  simp only [List.any_cons, List.any_nil, Bool.or_false, Bool.and_eq_true, Bool.not_eq_true', Bool.or_eq_false_iff, decide_eq_true_eq, decide_eq_false_iff_not]
  constructor
  · rintro ⟨⟨⟨h0, h1⟩, h2⟩, h3⟩; exact ⟨⟨by omega, by omega, by omega⟩, h3⟩
  · rintro ⟨⟨h2, h1, h0⟩, h3⟩; exact ⟨⟨⟨by omega, by omega⟩, by omega⟩, h3⟩
def begR (p : Pl) (l : List Nat) : (Int × Int) × Bool := if (begE p l).any wrongS = true then ((0, 0), false) else (begS p l, decide ((begS p l).1 ≤ (begS p l).2))
theorem begR_ok (p : Pl) (l : List Nat) : (begR p l).2 = begOk p l := by
  rw [begOk_eq]; unfold begR; cases (begE p l).any wrongS <;> simp
theorem begR_val {p : Pl} {l : List Nat} (h : begOk p l = true) : (begR p l).1 = begS p l := by
  rw [begOk_eq] at h
  simp only [Bool.and_eq_true, Bool.not_eq_true'] at h
  unfold begR; rw [if_neg (by simp [h.1])]
theorem nbegin_pure (p : Pl) (l : List Nat) (gp : GP p) (cv : CV p l) : APure Tryz.prog 138 [played p l] (.tup [.agg [I (begR p l).1.1, I (begR p l).1.2], B (begR p l).2]) := by
  refine apure_of (rs := [.cell 2 23, .tmp 3]) Tryz.func138 rfl rfl (Nat.le_of_ble_eq_true rfl) (by simp [AV.pureL, AV.pureB, AV.pureE, pureE_map]) (by simp [AV.pureL, AV.pureB, AV.pureE, pureE_map]) fun e0 he0 => ?_
  refine aw_seq (aw_region ?_)
  refine sq_box rfl (lr _) rfl ?_
  refine sq_alloc rfl z23 ?_
  refine asr (lr _) rfl (sq_nil (aw_seq (aw_region ?_)))
  refine sq_ev rfl (ev_load_agg (lr _) rfl ty110 rfl) ?_
  refine sq_ev rfl (ev_call en100 (lr _) (nbackward_pure p l gp cv) ⟨lr _, trivial⟩) ?_
  refine sq_alloc rfl z120 ?_
  refine sq_store rfl (lr _) (lr _) rfl rfl ty120 rfl rfl ?_
  refine sq_nil (aw_seq (aw_seq ?_))
  refine aw_sub (sub_iptrK [1, 2, 3] 4 rfl rfl) ?_
  dsimp only [keepS, St.put, sget, slotsOf, List.map_cons, List.map_nil, List.cons_append, List.nil_append, List.length_cons, List.length_nil, Nat.reduceBEq, Nat.reduceAdd, cond_true, cond_false]
  refine aw_region ?_
  refine sq_ev rfl (ev_slice_box_i (es := (begE p l).map fun s => [I s.1, I s.2]) ar120 (by decide) (lr _) rfl (by intro c h; obtain ⟨s, _, rfl⟩ := List.mem_map.1 h; rfl)) ?_
  refine sq_ev rfl (ev_call en162 (lr _) (rcontainsF_pure (begE p l) (by simp [begE])) ⟨lr _, lr _, trivial⟩) ?_
  refine sq_nil ?_
  refine aw_cond (lr _) (fun c1 => ?_) (fun c1 => ?_)
  · skip
    have c1' := c1
    try simp only [qq] at c1'
    refine aw_seq (aw_region ?_)
    refine sq_ev rfl (ev_build bi23 rfl) ?_
    refine sq_store rfl (lr _) (lr _) rfl rfl ty23 rfl rfl ?_
    refine asr (lr _) rfl (sq_nil (aw_ret ?_))
    exact retQ_res (vs := [.agg _, .raw _]) rfl rfl ⟨resVar_cell rfl rfl ty23 rfl, resVar_tmp _ _ _, trivial⟩ (less_tup ⟨Less.eq (by simp [begR, *]), less_b (by simp [begR, *]), trivial⟩)
  · skip
    have c1' := c1
    try simp only [qq] at c1'
    refine aw_skip (aw_seq ?_)
    refine aw_draw 5 mo (by kernel_rfl) ?_
    refine dr_ev rfl (ev_load_agg (lr _) rfl ty110 rfl) ?_
    refine dr_ev rfl (ev_load_agg (lr _) rfl ty110 rfl) ?_
    refine dr_ev rfl (ev_call en136 (lr _) (nof_pure p l ((0 : Nat) : Int) gp cv) ⟨lr _, lr _, trivial⟩) ?_
    refine dr_ev rfl (ev_call en135 (lr _) (nlastsP_pure p l 0 gp cv) ⟨lr _, lr _, trivial⟩) ?_
    refine dr_alloc rfl z23 ?_
    refine dr_end ?_
    refine sq_store rfl (lr _) (lr _) rfl rfl ty23 rfl rfl ?_
    refine sq_nil (aw_seq ?_)
    have b1 := bw_bd gp cv 2
    have b2 : 0 ≤ pl p l 0 ∧ pl p l 0 ≤ 10000000 := lsum_bd gp (ofP_cv cv _)
    have b3 : 0 ≤ ph p l 0 ∧ ph p l 0 ≤ 10000000 := hsum_bd gp (ofP_cv cv _)
    refine aw_region ?_
    refine sq_ev rfl (ev_build bi23 rfl) ?_
    refine sq_ev rfl (ev_index_box_i (k := 0) ar120 (lr _) (lr _) rfl (by decide)) ?_
    refine sq_ev rfl (ev_fieldAddr_i fo23_0 (lr _)) ?_
    refine sq_ev rfl (ev_load_i (lr _) ty3 rfl) ?_
    refine sq_ev rfl (ev_fieldAddr fo23_1 (lr _)) ?_
    refine sq_ev rfl (ev_load (lr _) rfl ty3 rfl) ?_
    refine sq_ev rfl (ev_sub (lr _) (lr _) (wr (by omega) (by omega))) ?_
    refine sq_ev rfl (ev_index_box_i (k := 0) ar120 (lr _) (lr _) rfl (by decide)) ?_
    refine sq_ev rfl (ev_fieldAddr_i fo23_1 (lr _)) ?_
    refine sq_ev rfl (ev_load_i (lr _) ty3 rfl) ?_
    refine sq_ev rfl (ev_fieldAddr fo23_0 (lr _)) ?_
    refine sq_ev rfl (ev_load (lr _) rfl ty3 rfl) ?_
    refine sq_ev rfl (ev_sub (lr _) (lr _) (wr (by omega) (by omega))) ?_
    refine sq_ev rfl (ev_build bi23 rfl) ?_
    refine sq_ev rfl (ev_call en98 (lr _) (nboth_pure _ _ _ _) ⟨lr _, lr _, trivial⟩) ?_
    refine sq_alloc rfl z23 ?_
    refine sq_store rfl (lr _) (lr _) rfl rfl ty23 rfl rfl ?_
    refine sq_nil (aw_seq ?_)
    dsimp only [keepS, St.put, sget, slotsOf, List.map_cons, List.map_nil, List.cons_append, List.nil_append, List.length_cons, List.length_nil, Nat.reduceBEq, Nat.reduceAdd, cond_true, cond_false]
    dsimp only [List.append, List.set, List.length, List.take, List.drop, List.cons_append, List.nil_append, List.append_nil, Nat.zero_add, Nat.add_zero]
    refine aw_drawc [] [6] _ mo (by kernel_rfl) (HSub.mask [1] 0 _) ?_
    refine dc_ev rfl (ev_load_agg (lr _) rfl ty23 rfl) ?_
    refine dc_ev rfl (ev_fieldAddr fo23_0 (lr _)) ?_
    refine dc_ev rfl (ev_load (lr _) rfl ty3 rfl) ?_
    refine dc_ev rfl (ev_fieldAddr fo23_1 (lr _)) ?_
    refine dc_ev rfl (ev_load (lr _) rfl ty3 rfl) ?_
    refine dc_ev rfl (ev_leq (lr _) (lr _)) ?_
    refine dc_eff rfl rfl (eff_store rfl (lr _) (lr _) rfl rfl ty23 rfl rfl) (by apply HL.sub; repeat' (first | exact HL.nil _ | apply HL.same | apply HL.tok)) ?_
    refine dc_ev rfl (ev_as (v := .raw _) (lr _)) ?_
    refine dc_nil (aw_ret ?_)
    exact retQ_res (vs := [.agg _, .raw _]) rfl rfl ⟨resVar_cell rfl rfl ty23 rfl, resVar_tmp _ _ _, trivial⟩ (less_tup ⟨Less.eq (by simp [begR, begS, *]), less_b (by simp [begR, begS, *] <;> rfl), trivial⟩)
end Go.Proofs.YtjghdbdiejaacaaGreatDoor
namespace Go.Proofs.YtjghdbdiejaacaaGreatDoor
open Go Go.Ab Ni
theorem en71 : Ent Tryz.prog 71 := Ent.of Tryz.func71 (by kernel_rfl) rfl
def stS (p : Pl) (i : Nat) : List (Int × Int) := (((allC p).take i).filter (begOk p)).map (begS p)
def stM (p : Pl) (i : Nat) : Bool := decide (0 < (stS p i).length)
theorem stS_yes {p : Pl} {i : Nat} (h : i < (allC p).length) (k : begOk p (allC p)[i] = true) : stS p (i + 1) = stS p i ++ [begS p (allC p)[i]] := by
  unfold stS; rw [filter_take_succ _ h, if_pos k, List.map_append]; rfl
theorem stS_no {p : Pl} {i : Nat} (h : i < (allC p).length) (k : begOk p (allC p)[i] = false) : stS p (i + 1) = stS p i := by
  unfold stS; rw [filter_take_succ _ h, if_neg (by simp [k]), List.append_nil]
def staR (p : Pl) : (Int × Int) × Int := if PlOK p = true then (if stM p (allC p).length = true then (wd (stS p (allC p).length), 0) else ((0, 0), 5)) else ((0, 0), 2)
theorem staR_1 {p : Pl} (h : PlOK p = false) : staR p = ((0, 0), 2) := by unfold staR; rw [if_neg (by simp [h])]
theorem staR_2 {p : Pl} (h : PlOK p = true) (k : stM p (allC p).length = false) : staR p = ((0, 0), 5) := by unfold staR; rw [if_pos h, if_neg (by simp [k])]
theorem staR_3 {p : Pl} (h : PlOK p = true) (k : stM p (allC p).length = true) : staR p = (wd (stS p (allC p).length), 0) := by unfold staR; rw [if_pos h, if_pos k]
abbrev stH (p : Pl) (i : Nat) : List AObj := [.cells (planC p), .cells [I 0, I 0], .cells [I (wd (stS p i)).1, I (wd (stS p i)).2], .cells [B (stM p i)]]
theorem nStarts_pure (p : Pl) (hl0 : p.scenes.length ≤ 1000000) : APure Tryz.prog 71 [plan p] (.tup [.agg [I (staR p).1.1, I (staR p).1.2], I (staR p).2]) := by
  refine apure_of_marks (rs := [.cell 2 23, .tmp 3]) Tryz.func71 rfl rfl (Nat.le_of_ble_eq_true rfl) (by simp [AV.pureL, AV.pureB, AV.pureE, pureE_map]) (by simp [AV.pureL, AV.pureB, AV.pureE, pureE_map]) fun e0 he0 => ?_
  refine aw_seq (aw_region ?_)
  refine sq_box rfl (lr _) rfl ?_
  refine sq_alloc rfl z23 ?_
  refine asr (lr _) rfl (sq_nil (aw_seq (aw_seq (aw_region ?_))))
  refine sq_ev rfl (ev_load_agg (lr _) rfl ty27 rfl) ?_
  refine sq_ev rfl (ev_call en85 (lr _) (isplan_pure p hl0) ⟨lr _, trivial⟩) ?_
  refine sq_ev rfl (ev_not (lr _)) ?_
  refine sq_nil ?_
  refine aw_cond (lr _) (fun c1 => ?_) (fun c1 => ?_)
  · skip
    have c1' := c1
    try simp only [qq] at c1'
    refine aw_seq (aw_region ?_)
    refine sq_ev rfl (ev_build bi23 rfl) ?_
    refine sq_store rfl (lr _) (lr _) rfl rfl ty23 rfl rfl ?_
    refine asr (lr _) rfl (sq_nil (aw_ret ?_))
    exact retQM_res (vs := [.agg _, .raw _]) rfl rfl ⟨resVar_cell rfl rfl ty23 rfl, resVar_tmp _ _ _, trivial⟩ (less_tup ⟨Less.eq (by rw [staR_1 c1'] <;> rfl), Less.eq (by rw [staR_1 c1'] <;> rfl), trivial⟩)
  · skip
    have c1' := c1
    try simp only [qq] at c1'
    obtain ⟨gp, wp⟩ := gp_of_ok c1'
    refine aw_skip (aw_seq (aw_region ?_))
    refine sq_alloc rfl z23 ?_
    refine sq_nil (aw_seq (aw_region ?_))
    refine sq_alloc rfl z4 ?_
    refine sq_store rfl (lr _) (lr _) rfl rfl ty4 rfl rfl ?_
    refine sq_nil (aw_seq (aw_seq (aw_region ?_)))
    refine sq_ev rfl (ev_load_agg (lr _) rfl ty27 rfl) ?_
    refine sq_ev rfl (ev_call en124 (lr _) (nchoices0_pure p) ⟨lr _, trivial⟩) ?_
    refine sq_nil (aw_block ?_)
    refine aw_rangeFunc1 (xs := (allC p).map nats) (fun k => stH p k) ((allC p).map nats).length none (Nat.le_refl _) (fun _ => rfl) (fun h => absurd rfl h) rfl rfl (lr _) en155 (nchoices_iter gp) rfl (fun _ => rfl) (fun k hk => by show objsIn 4 _ = true; simp [objsIn, AObj.inB, AV.inB, AV.inL, AV.inE, inE_map, inE_nats, -List.map_take, -List.map_map, -List.map_append]) (fun x hx => by obtain ⟨y, _, rfl⟩ := List.mem_map.1 hx; simp [AV.pureB, AV.pureL, AV.pureE, pureE_map]) rfl rfl ?_ ?_
    · intro l i x e0 hi hx he0
      obtain ⟨y, hy, rfl⟩ := xs_get hx
      obtain ⟨hk', he'⟩ := get_eq hy
      have cv := allC_mem gp y (List.mem_of_getElem? hy)
      have hal := allC_len gp
      dsimp only [keepS, St.put, sget, slotsOf, List.map_cons, List.map_nil, List.cons_append, List.nil_append, List.length_cons, List.length_nil, Nat.reduceBEq, Nat.reduceAdd, cond_true, cond_false]
      refine aw_block (aw_seq (aw_region ?_))
      refine sq_ev rfl (ev_load_agg (lr _) rfl ty27 rfl) ?_
      refine mvs rfl (lr _) (sq_ev rfl (ev_build bi110 rfl) ?_)
      refine sq_ev rfl (ev_call en138 (lr _) (nbegin_pure p y gp cv) ⟨lr _, trivial⟩) ?_
      refine sq_ev rfl (ev_mv (v := .tup _) (lr _)) ?_
      refine xtr rfl (lr _) rfl (xtr rfl (lr _) rfl ?_)
      refine sq_alloc rfl z23 ?_
      refine sq_store rfl (lr _) (lr _) rfl rfl ty23 rfl rfl ?_
      refine asr (lr _) rfl (sq_nil (aw_seq (aw_region ?_)))
      refine mvr (lr _) rfl (sq_nil ?_)
      refine aw_cond (lr _) (fun c2 => ?_) (fun c2 => ?_)
      · skip
        have c2' := c2
        try simp only [qq] at c2'
        have hbo : begOk p y = true := by rw [← begR_ok]; exact c2
        have hbv := begR_val hbo
        have eS := stS_yes hk' (by rw [he']; exact hbo)
        rw [he'] at eS
        have eW := wd_snoc (stS p i) (begS p y)
        rw [← eS] at eW
        have eM : stM p (i + 1) = true := by unfold stM; rw [eS]; simp
        have e1 : (if stM p i = true then min (wd (stS p i)).1 (begR p y).1.1 else (begR p y).1.1) = (wd (stS p (i + 1))).1 := by rw [eW, hbv]; unfold stM; split <;> rfl
        have e2 : (if stM p i = true then max (wd (stS p i)).2 (begR p y).1.2 else (begR p y).1.2) = (wd (stS p (i + 1))).2 := by rw [eW, hbv]; unfold stM; split <;> rfl
        have eH : [AObj.cells (planC p), .cells [I 0, I 0], .cells [I (if stM p i = true then min (wd (stS p i)).1 (begR p y).1.1 else (begR p y).1.1), I (if stM p i = true then max (wd (stS p i)).2 (begR p y).1.2 else (begR p y).1.2)], .cells [B true]] ++ [AObj.cells [I (begR p y).1.1, I (begR p y).1.2]] = stH p (i + 1) ++ [AObj.cells [I (begR p y).1.1, I (begR p y).1.2]] := by rw [e1, e2]; show _ = [AObj.cells (planC p), .cells [I 0, I 0], .cells [I (wd (stS p (i + 1))).1, I (wd (stS p (i + 1))).2], .cells [B (stM p (i + 1))]] ++ _; rw [eM]
        refine aw_region ?_
        refine sq_ev rfl (ev_load_agg (lr _) rfl ty23 rfl) ?_
        refine sq_ev rfl (ev_load (lr _) rfl ty4 rfl) ?_
        refine sq_ev rfl (ev_load_agg (lr _) rfl ty23 rfl) ?_
        refine sq_ev rfl (ev_call en97 (lr _) (nwiders_pure _ _ _ _ _) ⟨lr _, lr _, lr _, trivial⟩) ?_
        refine sq_store rfl (lr _) (lr _) rfl rfl ty23 rfl rfl ?_
        refine sq_store rfl (lr _) (lr _) rfl rfl ty4 rfl rfl ?_
        refine sq_nil ?_
        exact ⟨⟨[AObj.cells [I (begR p y).1.1, I (begR p y).1.2]], eH⟩, rfl, by split <;> rfl⟩
      · skip
        have c2' := c2
        try simp only [qq] at c2'
        have hbo : begOk p y = false := by rw [← begR_ok]; exact c2
        have eS := stS_no hk' (by rw [he']; exact hbo)
        have eH : stH p i ++ [AObj.cells [I (begR p y).1.1, I (begR p y).1.2]] = stH p (i + 1) ++ [AObj.cells [I (begR p y).1.1, I (begR p y).1.2]] := by show stH p i ++ _ = [AObj.cells (planC p), .cells [I 0, I 0], .cells [I (wd (stS p (i + 1))).1, I (wd (stS p (i + 1))).2], .cells [B (stM p (i + 1))]] ++ _; unfold stM; rw [eS]; rfl
        refine aw_skip ?_
        exact ⟨⟨[AObj.cells [I (begR p y).1.1, I (begR p y).1.2]], eH⟩, rfl, by split <;> rfl⟩
    · rintro _ rfl
      refine aw_seq (aw_seq (aw_region ?_))
      refine sq_ev rfl (ev_load (lr _) rfl ty4 rfl) ?_
      refine sq_ev rfl (ev_not (lr _)) ?_
      refine sq_nil ?_
      refine aw_cond (lr _) (fun c3 => ?_) (fun c3 => ?_)
      · skip
        have c3' := c3
        try simp only [qq] at c3'
        refine aw_seq (aw_region ?_)
        refine sq_ev rfl (ev_build bi23 rfl) ?_
        refine sq_store rfl (lr _) (lr _) rfl rfl ty23 rfl rfl ?_
        refine asr (lr _) rfl (sq_nil (aw_ret ?_))
        exact retQM_res (vs := [.agg _, .raw _]) rfl rfl ⟨resVar_cell rfl rfl ty23 rfl, resVar_tmp _ _ _, trivial⟩ (less_tup ⟨Less.eq (by rw [staR_2 c1' c3'] <;> rfl), Less.eq (by rw [staR_2 c1' c3'] <;> rfl), trivial⟩)
      · skip
        have c3' := c3
        try simp only [qq] at c3'
        refine aw_skip (aw_seq (aw_region ?_))
        refine sq_ev rfl (ev_load_agg (lr _) rfl ty23 rfl) ?_
        refine sq_store rfl (lr _) (lr _) rfl rfl ty23 rfl rfl ?_
        refine asr (lr _) rfl (sq_nil (aw_ret ?_))
        exact retQM_res (vs := [.agg _, .raw _]) rfl rfl ⟨resVar_cell rfl rfl ty23 rfl, resVar_tmp _ _ _, trivial⟩ (less_tup ⟨Less.eq (by rw [staR_3 c1' c3', List.length_map] <;> rfl), Less.eq (by rw [staR_3 c1' c3'] <;> rfl), trivial⟩)
end Go.Proofs.YtjghdbdiejaacaaGreatDoor
namespace Go.Proofs.YtjghdbdiejaacaaGreatDoor
open Go Go.Ab Ni
theorem lg_val {p : Pl} {n a e : Int} (hs : p.scenes.length ≤ 12) (h : lgR p n = (a, e)) : APure Tryz.prog 70 [plan p, I n] (.tup [I a, I e]) := by have := nLonger_pure p n (by omega); rwa [h] at this
theorem st_val {p : Pl} {a b e : Int} (hs : p.scenes.length ≤ 12) (h : staR p = ((a, b), e)) : APure Tryz.prog 71 [plan p] (.tup [.agg [I a, I b], I e]) := by have := nStarts_pure p (by omega); rwa [h] at this
end Go.Proofs.YtjghdbdiejaacaaGreatDoor
namespace Go.Proofs.YtjghdbdiejaacaaGreatDoor
open Go Go.Ab Ni
theorem en56 : Ent Tryz.prog 56 := Ent.of Tryz.func56 (by kernel_rfl) rfl
def moreP (p : Pl) (n : Nat) (x : Int) : Pl := { p with scenes := p.scenes.set n { scn p n with most := (scn p n).most + x } }
theorem rMore_pure {p : Pl} {n : Nat} {x : Int} (hn : n < p.scenes.length) (hl : p.scenes.length ≤ 1000000) (hx : -10000 ≤ x ∧ x ≤ 10000) (hm : 0 ≤ p.scenes[n].most ∧ p.scenes[n].most ≤ 10000) : APure Tryz.prog 56 [plan p, I n, I x] (plan (moreP p n x)) := by
  refine apure_of (rs := [.cell 6 27]) Tryz.func56 rfl rfl (Nat.le_of_ble_eq_true rfl) (by simp [AV.pureL, AV.pureB, AV.pureE, pureE_map]) (by simp [AV.pureL, AV.pureB, AV.pureE, pureE_map]) fun e0 he0 => ?_
  refine aw_seq (aw_region ?_)
  refine sq_box rfl (lr _) rfl ?_
  refine sq_alloc rfl z27 ?_
  refine sq_nil (aw_seq (aw_region ?_))
  refine sq_ev rfl (ev_fieldAddr fo27_3 (lr _)) ?_
  refine sq_ev rfl (ev_load (lr _) rfl ty25 rfl) ?_
  refine sq_append_msl rfl sf25 Tryz.underlying25 (less_nilx _) (lr _) (by simp; omega) (by simp; omega) (by simp; omega) fun cap hcap => ?_
  refine sq_ev rfl (ev_fieldAddr fo27_3 (lr _)) ?_
  refine sq_store rfl (lr _) (lr _) rfl rfl ty25 rfl rfl ?_
  refine sq_nil (aw_seq ?_)
  have hfl := flat_len p.scenes
  have hat := most_at p.scenes n hn (List.replicate ((cap - (p.scenes.map sc).length) * 5) .any)
  have hsp := splice1 (p.scenes[n].most + x) p.scenes n hn (List.replicate ((cap - (p.scenes.map sc).length) * 5) .any) _ rfl
  have hble : Nat.ble (n * 5 + 2 + 1) ((p.scenes.map sc).flatten ++ List.replicate ((cap - (p.scenes.map sc).length) * 5) AV.any).length = true := Nat.ble_eq_true_of_le (by rw [List.length_append, hfl, List.length_replicate]; omega)
  refine aw_draw 13 mo (by kernel_rfl) ?_
  refine dr_ev rfl (ev_fieldAddr fo27_3 (lr _)) ?_
  refine dr_ev rfl (ev_load (lr _) rfl ty25 rfl) ?_
  refine dr_ev rfl (ev_mv (v := .raw _) (lr _)) ?_
  refine dr_ev rfl (ev_fieldAddr fo27_3 (lr _)) ?_
  refine dr_ev rfl (ev_load (lr _) rfl ty25 rfl) ?_
  refine dr_ev rfl (ev_mv (v := .raw _) (lr _)) ?_
  refine dr_ev rfl (ev_less (v' := .ptr 2 (n * 5)) (ev_index_msl sl25 (lr _) (lr _) rfl (by simp; omega)) (Less.eq (congrArg (AV.ptr 2) (Nat.zero_add (n * 5))))) ?_
  refine dr_ev rfl (ev_fieldAddr fo84_2 (lr _)) ?_
  refine dr_ev rfl (ev_load (lr _) rfl ty3 hat) ?_
  refine dr_ev rfl (ev_mv (v := .raw _) (lr _)) ?_
  refine dr_ev rfl (ev_add (lr _) (lr _) (wr (by omega) (by omega))) ?_
  refine dr_ev rfl (ev_less (v' := .ptr 2 (n * 5)) (ev_index_msl sl25 (lr _) (lr _) rfl (by simp; omega)) (Less.eq (congrArg (AV.ptr 2) (Nat.zero_add (n * 5))))) ?_
  refine dr_ev rfl (ev_fieldAddr fo84_2 (lr _)) ?_
  refine dr_end ?_
  refine sq_store rfl (lr _) (lr _) rfl rfl ty3 rfl hble ?_
  refine sq_nil (aw_seq (aw_region ?_))
  refine sq_ev rfl (ev_load_agg (lr _) rfl ty27 rfl) ?_
  refine sq_store rfl (lr _) (lr _) rfl rfl ty27 rfl rfl ?_
  refine sq_nil ?_
  refine aw_sub (sub_freeze (j := 2) (n := (p.scenes.map sc).length) (cap := cap) (sz := 5) (es := (p.scenes.set n { p.scenes[n] with most := p.scenes[n].most + x }).map sc) (rest := List.replicate ((cap - (p.scenes.map sc).length) * 5) .any) (sl' := [(6, .ptr 1 0)]) (congrArg (fun l => some (AObj.cells l)) hsp) (by simp) (fun q hq => by obtain ⟨x, _, rfl⟩ := List.mem_map.1 hq; rfl) (fun q hq => by rw [List.mem_singleton] at hq; subst hq; exact Fz.same (AV.ptr 1 0)) (FzH.same _ (by decide) (FzH.cells (by decide) (FzL.cons (Fz.same _) (FzL.cons (Fz.same _) (FzL.cons (Fz.same _) (FzL.cons (Fz.same _) (FzL.cons (Fz.same _) (FzL.cons (Fz.same _) (FzL.cons (Fz.same _) (FzL.cons Fz.frozen FzL.nil)))))))) (FzH.dead _ rfl (FzH.nil _))))) ?_
  refine aw_ret ?_
  exact retQ_res (vs := [.agg _]) rfl rfl ⟨resVar_cell rfl rfl ty27 rfl, trivial⟩ (Less.eq (by simp [moreP, scn_eq hn]))
end Go.Proofs.YtjghdbdiejaacaaGreatDoor
namespace Go.Proofs.YtjghdbdiejaacaaGreatDoor
open Go Go.Ab Ni
theorem aw_join {c : Ctx} {Q : AExit → St → Prop} {s : St} (V : List (Nat × AV)) (ks : List Nat) {a b : Code} (ha : AWP c a (AExit.then (fun s' => LessS s'.sl (V ++ keepS s.sl ks) ∧ s'.H = s.H ∧ s'.df = s.df) Q) s)
    (hb : AWP c b Q ⟨V ++ keepS s.sl ks, s.H, s.df⟩) : AWP c a (AExit.then (AWP c b Q) Q) s := by
  refine AWP.mono ha fun ax s' h => ?_
  cases ax with
  | normal =>
    obtain ⟨h1, h2, h3⟩ := h
    have h4 := aw_less (s := s') (Q := Q) (code := b) _ h1.all (by rw [h2, h3]; exact hb)
    exact h4
  | _ => exact h
theorem moreP_len (p : Pl) (n : Nat) (x : Int) : (moreP p n x).scenes.length = p.scenes.length := by simp [moreP]
theorem moreP_scn {p : Pl} {n : Nat} (hn : n < p.scenes.length) (x : Int) (j : Nat) : scn (moreP p n x) j = if j = n then { scn p n with most := (scn p n).most + x } else scn p j := by
  unfold scn moreP
  simp only [List.getD_eq_getElem?_getD, List.getElem?_set]
  by_cases e : j = n
  · subst e; simp [hn, scn, List.getD_eq_getElem?_getD]
  · rw [if_neg (fun h => e h.symm), if_neg e]
theorem moreP_same {p : Pl} {n : Nat} (hn : n < p.scenes.length) (x : Int) (j : Nat) : (scn (moreP p n x) j).part = (scn p j).part ∧ (scn (moreP p n x) j).least = (scn p j).least ∧ (scn (moreP p n x) j).loose = (scn p j).loose ∧ (scn (moreP p n x) j).wants = (scn p j).wants := by
  rw [moreP_scn hn]; split
  · rename_i e; subst e; exact ⟨rfl, rfl, rfl, rfl⟩
  · exact ⟨rfl, rfl, rfl, rfl⟩
theorem moreP_most {p : Pl} {n : Nat} (hn : n < p.scenes.length) (x : Int) (j : Nat) : (scn (moreP p n x) j).most = (scn p j).most + if j = n then x else 0 := by
  rw [moreP_scn hn]; split
  · rename_i e; subst e; rfl
  · omega
theorem moreP_isC {p : Pl} {n : Nat} (hn : n < p.scenes.length) (x : Int) (l : List Nat) : isC (moreP p n x) l = isC p l := by
  unfold isC isCh
  rw [Bool.eq_iff_iff, okAll_iff, okAll_iff]
  have key : ∀ i (h1 : i < (moreP p n x).scenes.length) (h2 : i < p.scenes.length), chBad (moreP p n x) (up l) i h1 = chBad p (up l) i h2 := fun i h1 h2 => by
    obtain ⟨_, _, e1, e2⟩ := moreP_same hn x i
    rw [scn_eq h1, scn_eq h2] at e1 e2
    unfold chBad; rw [e1, e2]
  constructor
  · intro h i hi; rw [← key i (by rw [moreP_len]; exact hi) hi]; exact h i _
  · intro h i hi; rw [key i hi (by rw [moreP_len] at hi; exact hi)]; exact h i _
theorem allC_more {p : Pl} {n : Nat} (hn : n < p.scenes.length) (x : Int) : allC (moreP p n x) = allC p := by
  have e : isC (moreP p n x) = isC p := funext (moreP_isC hn x)
  unfold allC aA aL
  rw [moreP_len, e]
theorem ofP_more {p : Pl} {n : Nat} (hn : n < p.scenes.length) (x : Int) (l : List Nat) (k : Int) : ofP (moreP p n x) l k = ofP p l k := by
  unfold ofP
  refine List.filter_congr fun j _ => ?_
  unfold inPart; rw [(moreP_same hn x j).1]
theorem pl_more {p : Pl} {n : Nat} (hn : n < p.scenes.length) (x : Int) (l : List Nat) (k : Nat) : pl (moreP p n x) l k = pl p l k := by
  unfold pl lsum leasts
  rw [ofP_more hn]
  exact congrArg List.sum (List.map_congr_left fun j _ => (moreP_same hn x j).2.1)
theorem sum_one {x : Int} {n : Nat} : ∀ {l : List Nat}, l.Pairwise (· < ·) → (l.map fun j => if j = n then x else 0).sum = if n ∈ l then x else 0
  | [], _ => by simp
  | y :: l, h => by
    rw [List.pairwise_cons] at h
    have ih := sum_one (x := x) (n := n) h.2
    rw [List.map_cons, List.sum_cons, ih]
    by_cases e : y = n
    · subst e
      have : ¬ y ∈ l := fun hm => by have := h.1 y hm; omega
      simp [this]
    · have e' : ¬ n = y := fun h => e h.symm
      simp [e, e']
theorem ph_more {p : Pl} {n : Nat} (hn : n < p.scenes.length) (x : Int) {l : List Nat} (inc : l.Pairwise (· < ·)) (k : Nat) : ph (moreP p n x) l k = ph p l k + if n ∈ l ∧ (scn p n).part = (k : Int) then x else 0 := by
  have e1 : ph (moreP p n x) l k = (((ofP p l k).map fun j => (scn p j).most + if j = n then x else 0)).sum := by
    unfold ph hsum mosts
    rw [ofP_more hn]
    exact congrArg List.sum (List.map_congr_left fun j _ => moreP_most hn x j)
  have e2 : ∀ (L : List Nat), (L.map fun j => (scn p j).most + if j = n then x else 0).sum = (L.map fun j => (scn p j).most).sum + (L.map fun j => if j = n then x else 0).sum := fun L => by
    induction L with
    | nil => rfl
    | cons y L ih => simp only [List.map_cons, List.sum_cons, ih]; omega
  have e3 : n ∈ ofP p l k ↔ n ∈ l ∧ (scn p n).part = (k : Int) := by
    unfold ofP; rw [List.mem_filter]; simp [inPart]
  rw [e1, e2, sum_one (by unfold ofP; exact List.Pairwise.filter _ inc)]
  show ph p l k + _ = _
  congr 1
  by_cases h : n ∈ l ∧ (scn p n).part = (k : Int)
  · rw [if_pos h, if_pos (e3.2 h)]
  · rw [if_neg h, if_neg (fun g => h (e3.1 g))]
theorem moreP_ok {p : Pl} (ok : PlOK p = true) {n : Nat} (hn : n < p.scenes.length) {x : Int} (hx : 0 ≤ x) (hm : (scn p n).most + x ≤ 240) : PlOK (moreP p n x) = true := by
  unfold PlOK at ok ⊢
  simp only [Bool.and_eq_true, decide_eq_true_eq] at ok ⊢
  obtain ⟨⟨h1, h2⟩, h3⟩ := ok
  refine ⟨⟨h1, by rw [moreP_len]; exact h2⟩, fun i hi => ?_, ?_⟩
  · have hi' : i < p.scenes.length := by rw [moreP_len] at hi; exact hi
    have hb := h3.1 i hi'
    obtain ⟨a1, a2, a3, a4⟩ := moreP_same hn x i
    have a5 := moreP_most hn x i
    rw [scn_eq hi, scn_eq hi'] at a1 a2 a3 a4 a5
    have hp : ∀ h1 h2, ((moreP p n x).scenes[i - 1]'h1).part = (p.scenes[i - 1]'h2).part := fun g1 g2 => by
      have := (moreP_same hn x (i - 1)).1
      rwa [scn_eq g1, scn_eq g2] at this
    unfold scBad at hb ⊢
    rw [a1, a2, a4, a5, hp _ (by omega), moreP_len]
    simp only [inn, Bool.or_eq_false_iff, Bool.not_eq_false', Bool.and_eq_true, decide_eq_true_eq] at hb ⊢
    refine ⟨⟨⟨hb.1.1.1, ?_⟩, hb.1.2⟩, hb.2⟩
    split
    · rename_i e; subst e; rw [scn_eq hi'] at hm; omega
    · omega
  · have e : (moreP p n x).scenes.map (·.loose) = p.scenes.map (·.loose) := by
      refine List.ext_getElem (by simp [moreP]) fun i g1 g2 => ?_
      have := (moreP_same hn x i).2.2.1
      rw [List.length_map] at g1 g2
      rw [scn_eq g1, scn_eq g2] at this
      simpa using this
    have key : ∀ L : List Sc, loosies L = (L.map (·.loose)).countP id := fun L => by unfold loosies; rw [List.countP_map]; rfl
    rw [key, e, ← key]; exact h3.2
theorem fit_more {p : Pl} {n k : Nat} (hn : n < p.scenes.length) (hk : (scn p n).part = (k : Int)) (hk3 : k < 3) {x : Int} (hx : 0 ≤ x ∧ x ≤ 1800) {l : List Nat} (inc : l.Pairwise (· < ·)) {h : Hr} :
    FitH (moreP p n x) l h ↔ FitH (freeP p n) l h ∧ (n ∈ l → (prH (freeP p n) h k).2 - (prH (freeP p n) h k).1 ≤ ph p l k + x) := by
  obtain ⟨a, b, c⟩ := h
  have m0 := ph_more hn x inc 0; have m1 := ph_more hn x inc 1; have m2 := ph_more hn x inc 2
  have f0 : ph (freeP p n) l 0 = _ := ph_more hn 1800 inc 0
  have f1 : ph (freeP p n) l 1 = _ := ph_more hn 1800 inc 1
  have f2 : ph (freeP p n) l 2 = _ := ph_more hn 1800 inc 2
  have g0 := pl_more hn x l 0; have g1 := pl_more hn x l 1; have g2 := pl_more hn x l 2
  have k0 := pl_free hn l 0; have k1 := pl_free hn l 1; have k2 := pl_free hn l 2
  rw [hk] at m0 m1 m2 f0 f1 f2
  have hb1 : (moreP p n x).beg = p.beg := rfl
  have hb2 : (freeP p n).beg = p.beg := rfl
  have w : ∀ q : Pl, FitH q l (a, b, c) ↔ (q.s0l ≤ a ∧ a ≤ q.s0h ∧ q.s1l ≤ b ∧ b ≤ q.s1h ∧ q.dl ≤ c ∧ c ≤ q.dh ∧ pl q l 0 ≤ a - q.beg ∧ a - q.beg ≤ ph q l 0 ∧ pl q l 1 ≤ b - a ∧ b - a ≤ ph q l 1 ∧ pl q l 2 ≤ c - b ∧ c - b ≤ ph q l 2) := fun q =>
    ⟨fun ⟨h1, h2, h3, h4, h5, h6, h7, h8, h9, h10, h11, h12⟩ => ⟨h1, h2, h3, h4, h5, h6, h7, h8, h9, h10, h11, h12⟩, fun ⟨h1, h2, h3, h4, h5, h6, h7, h8, h9, h10, h11, h12⟩ => ⟨h1, h2, h3, h4, h5, h6, h7, h8, h9, h10, h11, h12⟩⟩
  rw [w, w, m0, m1, m2, f0, f1, f2, g0, g1, g2, k0, k1, k2, hb1, hb2]
  have s1 : (moreP p n x).s0l = p.s0l ∧ (moreP p n x).s0h = p.s0h ∧ (moreP p n x).s1l = p.s1l ∧ (moreP p n x).s1h = p.s1h ∧ (moreP p n x).dl = p.dl ∧ (moreP p n x).dh = p.dh := ⟨rfl, rfl, rfl, rfl, rfl, rfl⟩
  have s2 : (freeP p n).s0l = p.s0l ∧ (freeP p n).s0h = p.s0h ∧ (freeP p n).s1l = p.s1l ∧ (freeP p n).s1h = p.s1h ∧ (freeP p n).dl = p.dl ∧ (freeP p n).dh = p.dh := ⟨rfl, rfl, rfl, rfl, rfl, rfl⟩
  obtain ⟨r1, r2, r3, r4, r5, r6⟩ := s1
  obtain ⟨t1, t2, t3, t4, t5, t6⟩ := s2
  rw [r1, r2, r3, r4, r5, r6, t1, t2, t3, t4, t5, t6]
  clear m0 m1 m2 f0 f1 f2 g0 g1 g2 k0 k1 k2 r1 r2 r3 r4 r5 r6 t1 t2 t3 t4 t5 t6 w
  by_cases hm : n ∈ l
  · rcases k with _ | _ | _ | k
    · simp [hm, prH, hb2]; omega
    · simp [hm, prH]; omega
    · simp [hm, prH]; omega
    · omega
  · simp [hm]
theorem fit_mono {p : Pl} {n : Nat} (hn : n < p.scenes.length) {x : Int} (hx : 0 ≤ x) {l : List Nat} (inc : l.Pairwise (· < ·)) {h : Hr} (f : FitH p l h) : FitH (moreP p n x) l h := by
  obtain ⟨a, b, c⟩ := h
  obtain ⟨h1, h2, h3, h4, h5, h6, h7, h8, h9, h10, h11, h12⟩ := f
  have q : ∀ k : Nat, pl (moreP p n x) l k = pl p l k ∧ ph p l k ≤ ph (moreP p n x) l k := fun k => ⟨pl_more hn x l k, by rw [ph_more hn x inc]; split <;> omega⟩
  have q0 := q 0; have q1 := q 1; have q2 := q 2
  exact ⟨h1, h2, h3, h4, h5, h6, by rw [q0.1]; exact h7, Int.le_trans h8 q0.2, by rw [q1.1]; exact h9, Int.le_trans h10 q1.2, by rw [q2.1]; exact h11, Int.le_trans h12 q2.2⟩
theorem more_iff {p : Pl} (ok : PlOK p = true) {n : Nat} (hn : n < p.scenes.length) {x : Int} (hx : 0 ≤ x ∧ x ≤ 1800) (hno : (choicesC p).length = 0) : (∃ l, l ∈ allC p ∧ ∃ h, FitH (moreP p n x) l h) ↔ (lgL p n).length ≠ 0 ∧ minL (lgL p n) ≤ x := by
  obtain ⟨gp, wp⟩ := gp_of_ok ok
  obtain ⟨k, hk, hk3⟩ := partOf_ok ok hn
  have wpF := freeP_wp wp hn
  have hcv : ∀ l ∈ allC p, CV p l ∧ CV (freeP p n) l := fun l hl => by
    have cv := allC_mem gp l hl
    exact ⟨cv, cv.len, fun x hx => by rw [freeP_len]; exact cv.rng x hx⟩
  have nof : ∀ l ∈ allC p, ∀ h, ¬ FitH p l h := fun l hl h f => by
    have : l ∈ choicesC p := List.mem_filter.2 ⟨hl, (can_fit wp (hcv l hl).1).2 ⟨_, _, _, f⟩⟩
    rw [List.length_eq_zero_iff.1 hno] at this; cases this
  constructor
  · rintro ⟨l, hl, h, f⟩
    have inc := allC_inc hl
    obtain ⟨f1, f2⟩ := (fit_more hn hk hk3 hx inc).1 f
    have hm : n ∈ l := Classical.byContradiction fun hm => by
      have f0 := (fit_more (p := p) (n := n) (h := h) hn hk hk3 (x := 0) ⟨by omega, by omega⟩ inc).2 ⟨f1, fun g => absurd g hm⟩
      have e : ∀ k : Nat, ph (moreP p n 0) l k = ph p l k := fun k => by rw [ph_more hn 0 inc]; split <;> omega
      obtain ⟨a, b, c⟩ := h
      obtain ⟨h1, h2, h3, h4, h5, h6, h7, h8, h9, h10, h11, h12⟩ := f0
      rw [pl_more hn] at h7 h9 h11
      rw [e] at h8 h10 h12
      exact nof l hl (a, b, c) ⟨h1, h2, h3, h4, h5, h6, h7, h8, h9, h10, h11, h12⟩
    have hcf : can (freeP p n) l = true := (can_fit wpF (hcv l hl).2).2 ⟨_, _, _, f1⟩
    have hv := (mem_lgL hn _).2 ⟨l, ⟨hl, hm, hcf⟩, rfl⟩
    have hne : lgL p n ≠ [] := fun e => by rw [e] at hv; cases hv
    have h1 := (minL_char hne).2 _ hv
    have h2 := ((lg_one ok hn hno hk hk3 hl hcf).2 h f1).1
    have h3 := f2 hm
    exact ⟨fun e => hne (List.length_eq_zero_iff.1 e), by omega⟩
  · rintro ⟨h0, hle⟩
    have hne : lgL p n ≠ [] := fun e => h0 (by rw [e]; rfl)
    obtain ⟨l, ⟨hl, hm, hcf⟩, e⟩ := (mem_lgL hn _).1 (minL_char hne).1
    obtain ⟨h, f, e2⟩ := (lg_one ok hn hno hk hk3 hl hcf).1
    exact ⟨l, hl, h, (fit_more hn hk hk3 hx (allC_inc hl)).2 ⟨f, fun _ => by omega⟩⟩
theorem min_bd {p : Pl} (ok : PlOK p = true) {n : Nat} (hn : n < p.scenes.length) (hno : (choicesC p).length = 0) (h0 : (lgL p n).length ≠ 0) : 0 < minL (lgL p n) ∧ minL (lgL p n) ≤ 900 := by
  obtain ⟨gp, wp⟩ := gp_of_ok ok
  obtain ⟨k, hk, hk3⟩ := partOf_ok ok hn
  have hne : lgL p n ≠ [] := fun e => h0 (by rw [e]; rfl)
  obtain ⟨l, ⟨hl, hm, hcf⟩, e⟩ := (mem_lgL hn _).1 (minL_char hne).1
  obtain ⟨⟨h, f, e2⟩, g⟩ := lg_one ok hn hno hk hk3 hl hcf
  have h1 := (g h f).2
  have h2 := win_in (p := freeP p n) f hk3
  have cv := allC_mem gp l hl
  have h3 : 0 ≤ ph p l k := by rw [ph_hi wp cv k]; exact (hi_bd' gp cv _ _ _).1
  have h4 : 0 ≤ (prH (freeP p n) h k).1 ∧ (prH (freeP p n) h k).2 ≤ 900 := by
    simp only [PlOK, wnd, inn, Bool.and_eq_true, decide_eq_true_eq] at ok
    obtain ⟨a, b, c⟩ := h
    obtain ⟨f1, f2, f3, f4, f5, f6, _⟩ := f
    change p.s0l ≤ a at f1; change a ≤ p.s0h at f2; change p.s1l ≤ b at f3; change b ≤ p.s1h at f4; change p.dl ≤ c at f5; change c ≤ p.dh at f6
    have hb : (freeP p n).beg = p.beg := rfl
    rcases k with _ | _ | _ | k
    · simp only [prH, if_true, hb]; omega
    · simp [prH]; omega
    · simp [prH]; omega
    · omega
  omega
theorem withP_ok {p : Pl} (ok : PlOK p = true) {b : Int} (hb : 0 ≤ b ∧ b ≤ 900) : PlOK (withP p b) = true := by
  unfold PlOK at ok ⊢
  simp only [Bool.and_eq_true, decide_eq_true_eq, inn] at ok ⊢
  exact ⟨⟨⟨⟨⟨hb, ok.1.1.1.1.2⟩, ok.1.1.1.2⟩, ok.1.1.2⟩, ok.1.2⟩, ok.2⟩
theorem with_iff {p : Pl} {l : List Nat} (wp : WP p) (cv : CV p l) {b : Int} (hb : 0 ≤ b ∧ b ≤ 900) : (∃ h, FitH (withP p b) l h) ↔ begOk p l = true ∧ (begS p l).1 ≤ b ∧ b ≤ (begS p l).2 := by
  have q0 : pl p l 0 ≤ ph p l 0 := pl_le wp cv 0
  have q1 : pl p l 1 ≤ ph p l 1 := pl_le wp cv 1
  have q2 : pl p l 2 ≤ ph p l 2 := pl_le wp cv 2
  have hd := wp.d
  unfold begOk
  simp only [Bool.and_eq_true, decide_eq_true_eq]
  simp only [begS, bw2, bw1, bw0]
  constructor
  · rintro ⟨⟨a, c, d⟩, h1, h2, h3, h4, h5, h6, h7, h8, h9, h10, h11, h12⟩
    change p.s0l ≤ a at h1; change a ≤ p.s0h at h2; change p.s1l ≤ c at h3; change c ≤ p.s1h at h4; change p.dl ≤ d at h5; change d ≤ p.dh at h6
    change pl p l 0 ≤ a - b at h7; change a - b ≤ ph p l 0 at h8; change pl p l 1 ≤ c - a at h9; change c - a ≤ ph p l 1 at h10; change pl p l 2 ≤ d - c at h11; change d - c ≤ ph p l 2 at h12
    omega
  · rintro ⟨⟨⟨⟨h0, h1⟩, h2⟩, h3⟩, h4, h5⟩
    obtain ⟨a, a1, a2, a3, a4⟩ := pickF (L := pl p l 0) (H := ph p l 0) (t := b) h2 q0 (by omega) (by omega)
    obtain ⟨c, c1, c2, c3, c4⟩ := pickF (L := pl p l 1) (H := ph p l 1) (t := a) h1 q1 (by omega) (by omega)
    obtain ⟨d, d1, d2, d3, d4⟩ := pickF (L := pl p l 2) (H := ph p l 2) (t := c) h0 q2 (by omega) (by omega)
    exact ⟨(a, c, d), by show p.s0l ≤ a; omega, by show a ≤ p.s0h; omega, by show p.s1l ≤ c; omega, by show c ≤ p.s1h; omega, d1, d2, a3, a4, c3, c4, d3, d4⟩
theorem sta_spec {p : Pl} (ok : PlOK p = true) : stM p (allC p).length = true →
    (0 ≤ (wd (stS p (allC p).length)).1 ∧ (wd (stS p (allC p).length)).2 ≤ 900 ∧ (wd (stS p (allC p).length)).1 ≤ (wd (stS p (allC p).length)).2) ∧
    (∃ l, l ∈ allC p ∧ ∃ h, FitH (withP p (wd (stS p (allC p).length)).1) l h) ∧ (∃ l, l ∈ allC p ∧ ∃ h, FitH (withP p (wd (stS p (allC p).length)).2) l h) := by
  obtain ⟨gp, wp⟩ := gp_of_ok ok
  intro hm
  have hne : stS p (allC p).length ≠ [] := fun e => by unfold stM at hm; rw [e] at hm; cases hm
  obtain ⟨⟨u, u1, u2⟩, lo1, ⟨w, w1, w2⟩, hi1⟩ := wd_char hne
  have mem : ∀ v ∈ stS p (allC p).length, ∃ l, l ∈ allC p ∧ begOk p l = true ∧ begS p l = v ∧ 0 ≤ v.1 ∧ v.1 ≤ v.2 ∧ v.2 ≤ 900 := fun v hv => by
    unfold stS at hv; rw [List.take_length] at hv
    obtain ⟨l, hl, rfl⟩ := List.mem_map.1 hv
    obtain ⟨g1, g2⟩ := List.mem_filter.1 hl
    refine ⟨l, g1, g2, rfl, ?_⟩
    unfold begOk at g2
    simp only [Bool.and_eq_true, decide_eq_true_eq] at g2
    refine ⟨?_, g2.2, ?_⟩
    · unfold begS; simp only; omega
    · unfold begS; simp only; omega
  obtain ⟨l, hl, hb, e, b1, b2, b3⟩ := mem u u1
  obtain ⟨m, hm', hb', e', b1', b2', b3'⟩ := mem w w1
  have c1 := hi1 u u1
  refine ⟨⟨by omega, by omega, by omega⟩, ⟨l, hl, (with_iff wp (allC_mem gp l hl) (by omega)).2 ⟨hb, by rw [e]; omega, by rw [e]; omega⟩⟩, ⟨m, hm', (with_iff wp (allC_mem gp m hm') (by omega)).2 ⟨hb', by rw [e']; omega, by rw [e']; omega⟩⟩⟩
theorem sta_only {p : Pl} (ok : PlOK p = true) {b : Int} (hb : 0 ≤ b ∧ b ≤ 900) (h : ∃ l, l ∈ allC p ∧ ∃ h, FitH (withP p b) l h) :
    stM p (allC p).length = true ∧ (wd (stS p (allC p).length)).1 ≤ b ∧ b ≤ (wd (stS p (allC p).length)).2 := by
  obtain ⟨gp, wp⟩ := gp_of_ok ok
  obtain ⟨l, hl, f⟩ := h
  obtain ⟨h1, h2, h3⟩ := (with_iff wp (allC_mem gp l hl) hb).1 f
  have hv : begS p l ∈ stS p (allC p).length := by
    unfold stS; rw [List.take_length]
    exact List.mem_map_of_mem (List.mem_filter.2 ⟨hl, h1⟩)
  obtain ⟨_, lo1, _, hi1⟩ := wd_char (List.ne_nil_of_mem hv)
  have := lo1 _ hv; have := hi1 _ hv
  exact ⟨by unfold stM; exact decide_eq_true (List.length_pos_of_mem hv), by omega, by omega⟩
theorem law17_long (p : Pl) (n d b : Int) (hs : ¬ p.scenes.length ≤ 12) : APure Tryz.prog 17 [plan p, I n, I d, I b] (B true) := by
  refine apure_of (rs := [.tmp 8]) Tryz.func17 rfl rfl (Nat.le_of_ble_eq_true rfl) (by simp [AV.pureL, AV.pureB, AV.pureE, pureE_map]) (rfl) fun e0 he0 => ?_
  refine aw_seq (aw_region ?_)
  refine sq_box rfl (lr _) rfl (asr (lr _) rfl (sq_nil (aw_seq (aw_seq (aw_region ?_)))))
  refine sq_ev rfl (ev_load_agg (lr _) rfl ty27 rfl) ?_
  refine sq_ev rfl (ev_call en20 (lr _) (short_no hs) ⟨lr _, trivial⟩) ?_
  refine sq_ev rfl (ev_not (lr _)) ?_
  refine mvr (lr _) rfl (sq_no rfl rfl (lr _) rfl rfl (sq_no rfl rfl (lr _) rfl rfl (sq_no rfl rfl (lr _) rfl rfl (sq_ev rfl (ev_pickT (v := .raw _) (lr _) (lr _)) ?_))))
  refine mvr (lr _) rfl (sq_no rfl rfl (lr _) rfl rfl (sq_no rfl rfl (lr _) rfl rfl (sq_no rfl rfl (lr _) rfl rfl (sq_no rfl rfl (lr _) rfl rfl (sq_ev rfl (ev_pickT (v := .raw _) (lr _) (lr _)) ?_)))))
  refine mvr (lr _) rfl (sq_no rfl rfl (lr _) rfl rfl (sq_no rfl rfl (lr _) rfl rfl (sq_ev rfl (ev_pickT (v := .raw _) (lr _) (lr _)) ?_)))
  refine mvr (lr _) rfl (sq_no rfl rfl (lr _) rfl rfl (sq_no rfl rfl (lr _) rfl rfl (sq_ev rfl (ev_pickT (v := .raw _) (lr _) (lr _)) ?_)))
  refine mvr (lr _) rfl (sq_no rfl rfl (lr _) rfl rfl (sq_no rfl rfl (lr _) rfl rfl (sq_ev rfl (ev_pickT (v := .raw _) (lr _) (lr _)) ?_)))
  refine mvr (lr _) rfl (sq_no rfl rfl (lr _) rfl rfl (sq_no rfl rfl (lr _) rfl rfl (sq_ev rfl (ev_pickT (v := .raw _) (lr _) (lr _)) ?_)))
  refine sq_nil ?_
  refine aw_true (lr _) ?_
  refine aw_seq (aw_region ?_)
  refine sq_ev rfl (ev_call en21 (lr _) (known_pure) trivial) ?_
  refine asr (lr _) rfl (sq_nil (aw_ret ?_))
  exact retQ_pure (v := .raw _) rfl rfl (lr _)
theorem law17_bad (p : Pl) (n d b : Int) (hs : p.scenes.length ≤ 12) (hk : PlOK p = false) : APure Tryz.prog 17 [plan p, I n, I d, I b] (B true) := by
 refine apure_of (rs := [.tmp 8]) Tryz.func17 rfl rfl (Nat.le_of_ble_eq_true rfl) (by simp [AV.pureL, AV.pureB, AV.pureE, pureE_map]) (rfl) fun e0 he0 => ?_
 refine aw_seq (aw_region ?_)
 refine sq_box rfl (lr _) rfl (asr (lr _) rfl (sq_nil (aw_seq (aw_seq (aw_region ?_)))))
 refine sq_ev rfl (ev_load_agg (lr _) rfl ty27 rfl) ?_
 refine sq_ev rfl (ev_call en20 (lr _) (short_yes hs) ⟨lr _, trivial⟩) ?_
 refine sq_ev rfl (ev_not (lr _)) ?_
 refine mvr (lr _) rfl (sq_yes rfl rfl (lr _) rfl (ev_load_agg (lr _) rfl ty27 rfl) ?_)
 refine sq_yes rfl rfl (lr _) rfl (ev_call en24 (lr _) (plan_no hs hk) ⟨lr _, trivial⟩) ?_
 refine sq_yes rfl rfl (lr _) rfl (ev_not (lr _)) ?_
 refine pf rfl (lr _) (lr _) (mvr (lr _) rfl (sq_no rfl rfl (lr _) rfl rfl (sq_no rfl rfl (lr _) rfl rfl (sq_no rfl rfl (lr _) rfl rfl (sq_no rfl rfl (lr _) rfl rfl (sq_ev rfl (ev_pickT (v := .raw _) (lr _) (lr _)) ?_))))))
 refine mvr (lr _) rfl (sq_no rfl rfl (lr _) rfl rfl (sq_no rfl rfl (lr _) rfl rfl (sq_ev rfl (ev_pickT (v := .raw _) (lr _) (lr _)) ?_)))
 refine mvr (lr _) rfl (sq_no rfl rfl (lr _) rfl rfl (sq_no rfl rfl (lr _) rfl rfl (sq_ev rfl (ev_pickT (v := .raw _) (lr _) (lr _)) ?_)))
 refine mvr (lr _) rfl (sq_no rfl rfl (lr _) rfl rfl (sq_no rfl rfl (lr _) rfl rfl (sq_ev rfl (ev_pickT (v := .raw _) (lr _) (lr _)) ?_)))
 refine mvr (lr _) rfl (sq_no rfl rfl (lr _) rfl rfl (sq_no rfl rfl (lr _) rfl rfl (sq_ev rfl (ev_pickT (v := .raw _) (lr _) (lr _)) ?_)))
 refine sq_nil ?_
 refine aw_true (lr _) ?_
 refine aw_seq (aw_region ?_)
 refine sq_ev rfl (ev_call en21 (lr _) (known_pure) trivial) ?_
 refine asr (lr _) rfl (sq_nil (aw_ret ?_))
 exact retQ_pure (v := .raw _) rfl rfl (lr _)
theorem law17_sc (p : Pl) (n d b : Int) (hs : p.scenes.length ≤ 12) (hk : PlOK p = true) (hsc : isSc p n = false) : APure Tryz.prog 17 [plan p, I n, I d, I b] (B true) := by
 refine apure_of (rs := [.tmp 8]) Tryz.func17 rfl rfl (Nat.le_of_ble_eq_true rfl) (by simp [AV.pureL, AV.pureB, AV.pureE, pureE_map]) (rfl) fun e0 he0 => ?_
 refine aw_seq (aw_region ?_)
 refine sq_box rfl (lr _) rfl (asr (lr _) rfl (sq_nil (aw_seq (aw_seq (aw_region ?_)))))
 refine sq_ev rfl (ev_load_agg (lr _) rfl ty27 rfl) ?_
 refine sq_ev rfl (ev_call en20 (lr _) (short_yes hs) ⟨lr _, trivial⟩) ?_
 refine sq_ev rfl (ev_not (lr _)) ?_
 refine mvr (lr _) rfl (sq_yes rfl rfl (lr _) rfl (ev_load_agg (lr _) rfl ty27 rfl) ?_)
 refine sq_yes rfl rfl (lr _) rfl (ev_call en24 (lr _) (plan_yes hs hk) ⟨lr _, trivial⟩) ?_
 refine sq_yes rfl rfl (lr _) rfl (ev_not (lr _)) ?_
 refine pf rfl (lr _) (lr _) (mvr (lr _) rfl (sq_yes rfl rfl (lr _) rfl (ev_load_agg (lr _) rfl ty27 rfl) ?_))
 refine ymr rfl rfl (lr _) rfl (lr _) (sq_yes rfl rfl (lr _) rfl (ev_call en35 (lr _) (sc_pure hs hsc) ⟨lr _, lr _, trivial⟩) ?_)
 refine sq_yes rfl rfl (lr _) rfl (ev_not (lr _)) ?_
 refine pf rfl (lr _) (lr _) (mvr (lr _) rfl (sq_no rfl rfl (lr _) rfl rfl (sq_no rfl rfl (lr _) rfl rfl (sq_ev rfl (ev_pickT (v := .raw _) (lr _) (lr _)) ?_))))
 refine mvr (lr _) rfl (sq_no rfl rfl (lr _) rfl rfl (sq_no rfl rfl (lr _) rfl rfl (sq_ev rfl (ev_pickT (v := .raw _) (lr _) (lr _)) ?_)))
 refine mvr (lr _) rfl (sq_no rfl rfl (lr _) rfl rfl (sq_no rfl rfl (lr _) rfl rfl (sq_ev rfl (ev_pickT (v := .raw _) (lr _) (lr _)) ?_)))
 refine mvr (lr _) rfl (sq_no rfl rfl (lr _) rfl rfl (sq_no rfl rfl (lr _) rfl rfl (sq_ev rfl (ev_pickT (v := .raw _) (lr _) (lr _)) ?_)))
 refine sq_nil ?_
 refine aw_true (lr _) ?_
 refine aw_seq (aw_region ?_)
 refine sq_ev rfl (ev_call en21 (lr _) (known_pure) trivial) ?_
 refine asr (lr _) rfl (sq_nil (aw_ret ?_))
 exact retQ_pure (v := .raw _) rfl rfl (lr _)
theorem law17_out (p : Pl) (n d b : Int) (hs : p.scenes.length ≤ 12) (hk : PlOK p = true) (hsc : isSc p n = true) (ho : ¬ (0 ≤ d ∧ d ≤ 900 ∧ 0 ≤ b ∧ b ≤ 900)) : APure Tryz.prog 17 [plan p, I n, I d, I b] (B true) := by
 refine apure_of (rs := [.tmp 8]) Tryz.func17 rfl rfl (Nat.le_of_ble_eq_true rfl) (by simp [AV.pureL, AV.pureB, AV.pureE, pureE_map]) (rfl) fun e0 he0 => ?_
 refine aw_seq (aw_region ?_)
 refine sq_box rfl (lr _) rfl (asr (lr _) rfl (sq_nil (aw_seq (aw_seq (aw_region ?_)))))
 refine sq_ev rfl (ev_load_agg (lr _) rfl ty27 rfl) ?_
 refine sq_ev rfl (ev_call en20 (lr _) (short_yes hs) ⟨lr _, trivial⟩) ?_
 refine sq_ev rfl (ev_not (lr _)) ?_
 refine mvr (lr _) rfl (sq_yes rfl rfl (lr _) rfl (ev_load_agg (lr _) rfl ty27 rfl) ?_)
 refine sq_yes rfl rfl (lr _) rfl (ev_call en24 (lr _) (plan_yes hs hk) ⟨lr _, trivial⟩) ?_
 refine sq_yes rfl rfl (lr _) rfl (ev_not (lr _)) ?_
 refine pf rfl (lr _) (lr _) (mvr (lr _) rfl (sq_yes rfl rfl (lr _) rfl (ev_load_agg (lr _) rfl ty27 rfl) ?_))
 refine ymr rfl rfl (lr _) rfl (lr _) (sq_yes rfl rfl (lr _) rfl (ev_call en35 (lr _) (sc_pure hs hsc) ⟨lr _, lr _, trivial⟩) ?_)
 refine sq_yes rfl rfl (lr _) rfl (ev_not (lr _)) ?_
 refine pf rfl (lr _) (lr _) (mvr (lr _) rfl (ymr rfl rfl (lr _) rfl (lr _) (sq_yes rfl rfl (lr _) rfl (ev_lss (lr _) (lr _)) ?_)))
 refine pf rfl (lr _) (lr _) (mvr (lr _) rfl ?_)
 refine sq_split 44 (lr _) (fun g1_18 => ?_) (fun g1_18 => ?_)
 ·
  have g1_18' := of_decide_eq_true g1_18
  refine sq_no rfl rfl (less_b g1_18) rfl rfl ?_
  refine sq_no rfl rfl (less_b g1_18) rfl rfl ?_
  refine sq_ev rfl (ev_pickT (v := .raw _) (less_b g1_18) (lr _)) ?_
  refine mvr (lr _) rfl (sq_no rfl rfl (lr _) rfl rfl (sq_no rfl rfl (lr _) rfl rfl (sq_ev rfl (ev_pickT (v := .raw _) (lr _) (lr _)) ?_)))
  refine mvr (lr _) rfl (sq_no rfl rfl (lr _) rfl rfl (sq_no rfl rfl (lr _) rfl rfl (sq_ev rfl (ev_pickT (v := .raw _) (lr _) (lr _)) ?_)))
  refine sq_nil ?_
  refine aw_true (lr _) ?_
  refine aw_seq (aw_region ?_)
  refine sq_ev rfl (ev_call en21 (lr _) (known_pure) trivial) ?_
  refine asr (lr _) rfl (sq_nil (aw_ret ?_))
  exact retQ_pure (v := .raw _) rfl rfl (lr _)
 ·
  have g1_18' := of_decide_eq_false g1_18
  refine sq_yes rfl rfl (less_b g1_18) rfl (ev_mv (v := .raw _) (lr _)) ?_
  refine sq_yes rfl rfl (less_b g1_18) rfl (ev_gtr (lr _) (lr _)) ?_
  refine sq_ev rfl (ev_pickF (v := .raw _) (less_b g1_18) (lr _)) ?_
  refine mvr (lr _) rfl ?_
  refine sq_split 48 (lr _) (fun g1_22 => ?_) (fun g1_22 => ?_)
  ·
   have g1_22' := of_decide_eq_true g1_22
   refine sq_no rfl rfl (less_b g1_22) rfl rfl ?_
   refine sq_no rfl rfl (less_b g1_22) rfl rfl ?_
   refine sq_ev rfl (ev_pickT (v := .raw _) (less_b g1_22) (lr _)) ?_
   refine mvr (lr _) rfl (sq_no rfl rfl (lr _) rfl rfl (sq_no rfl rfl (lr _) rfl rfl (sq_ev rfl (ev_pickT (v := .raw _) (lr _) (lr _)) ?_)))
   refine sq_nil ?_
   refine aw_true (lr _) ?_
   refine aw_seq (aw_region ?_)
   refine sq_ev rfl (ev_call en21 (lr _) (known_pure) trivial) ?_
   refine asr (lr _) rfl (sq_nil (aw_ret ?_))
   exact retQ_pure (v := .raw _) rfl rfl (lr _)
  ·
   have g1_22' := of_decide_eq_false g1_22
   refine sq_yes rfl rfl (less_b g1_22) rfl (ev_mv (v := .raw _) (lr _)) ?_
   refine sq_yes rfl rfl (less_b g1_22) rfl (ev_lss (lr _) (lr _)) ?_
   refine sq_ev rfl (ev_pickF (v := .raw _) (less_b g1_22) (lr _)) ?_
   refine mvr (lr _) rfl ?_
   refine sq_split 52 (lr _) (fun g1_26 => ?_) (fun g1_26 => ?_)
   ·
    have g1_26' := of_decide_eq_true g1_26
    refine sq_no rfl rfl (less_b g1_26) rfl rfl ?_
    refine sq_no rfl rfl (less_b g1_26) rfl rfl ?_
    refine sq_ev rfl (ev_pickT (v := .raw _) (less_b g1_26) (lr _)) ?_
    refine sq_nil ?_
    refine aw_true (lr _) ?_
    refine aw_seq (aw_region ?_)
    refine sq_ev rfl (ev_call en21 (lr _) (known_pure) trivial) ?_
    refine asr (lr _) rfl (sq_nil (aw_ret ?_))
    exact retQ_pure (v := .raw _) rfl rfl (lr _)
   ·
    have g1_26' := of_decide_eq_false g1_26
    refine sq_yes rfl rfl (less_b g1_26) rfl (ev_mv (v := .raw _) (lr _)) ?_
    refine sq_yes rfl rfl (less_b g1_26) rfl (ev_gtr (lr _) (lr _)) ?_
    refine sq_ev rfl (ev_pickF (v := .raw _) (less_b g1_26) (lr _)) ?_
    refine sq_nil ?_
    refine aw_cond (lr _) (fun c_55 => ?_) (fun c_55 => ?_)
    ·
     have c_55' := of_decide_eq_true c_55
     refine aw_seq (aw_region ?_)
     refine sq_ev rfl (ev_call en21 (lr _) (known_pure) trivial) ?_
     refine asr (lr _) rfl (sq_nil (aw_ret ?_))
     exact retQ_pure (v := .raw _) rfl rfl (lr _)
    ·
     have c_55' := of_decide_eq_false c_55
     exfalso; omega
set_option maxRecDepth 10000 in
theorem law17_main (p : Pl) (n : Nat) (d b : Int) (hs : p.scenes.length ≤ 12) (hk : PlOK p = true) (hn : n < p.scenes.length) (hsc : isSc p n = true) (hd : 0 ≤ d ∧ d ≤ 900) (hb : 0 ≤ b ∧ b ≤ 900) (hm : 0 ≤ p.scenes[n].most ∧ p.scenes[n].most ≤ 240)
  (x E F a z : Int) (can oth : Bool) (h70 : lgR p n = (x, E)) (h71 : staR p = ((a, z), F)) (h38 : APure Tryz.prog 38 [plan p] (.tup [B can, B true])) (h38w : APure Tryz.prog 38 [plan (withP p b)] (.tup [B oth, B true]))
  (hE : E = 0 ∨ E = 5) (hF : F = 0 ∨ F = 5) (hx : 0 ≤ x ∧ x ≤ 900) (hcan : can = true → E = 0 ∧ x ≤ 0 ∧ F = 0) (hoth : oth = true → F = 0 ∧ a ≤ b ∧ b ≤ z)
  (hst : F = 0 → 0 ≤ a ∧ z ≤ 900 ∧ a ≤ z ∧ APure Tryz.prog 38 [plan (withP p a)] (.tup [B true, B true]) ∧ APure Tryz.prog 38 [plan (withP p z)] (.tup [B true, B true]))
  (hyes : E = 0 → x ≤ 240 - p.scenes[n].most → APure Tryz.prog 38 [plan (moreP p n x)] (.tup [B true, B true]))
  (hno : d ≤ 240 - p.scenes[n].most → ¬ (E = 0 ∧ d ≥ x) → APure Tryz.prog 38 [plan (moreP p n d)] (.tup [B false, B true])) : APure Tryz.prog 17 [plan p, I n, I d, I b] (B true) := by
 refine apure_of (rs := [.tmp 8]) Tryz.func17 rfl rfl (Nat.le_of_ble_eq_true rfl) (by simp [AV.pureL, AV.pureB, AV.pureE, pureE_map]) (rfl) fun e0 he0 => ?_
 refine aw_seq (aw_region ?_)
 refine sq_box rfl (lr _) rfl (asr (lr _) rfl (sq_nil (aw_seq (aw_seq (aw_region ?_)))))
 refine sq_ev rfl (ev_load_agg (lr _) rfl ty27 rfl) ?_
 refine sq_ev rfl (ev_call en20 (lr _) (short_yes hs) ⟨lr _, trivial⟩) ?_
 refine sq_ev rfl (ev_not (lr _)) ?_
 refine mvr (lr _) rfl (sq_yes rfl rfl (lr _) rfl (ev_load_agg (lr _) rfl ty27 rfl) ?_)
 refine sq_yes rfl rfl (lr _) rfl (ev_call en24 (lr _) (plan_yes hs hk) ⟨lr _, trivial⟩) ?_
 refine sq_yes rfl rfl (lr _) rfl (ev_not (lr _)) ?_
 refine pf rfl (lr _) (lr _) (mvr (lr _) rfl (sq_yes rfl rfl (lr _) rfl (ev_load_agg (lr _) rfl ty27 rfl) ?_))
 refine ymr rfl rfl (lr _) rfl (lr _) (sq_yes rfl rfl (lr _) rfl (ev_call en35 (lr _) (sc_pure hs hsc) ⟨lr _, lr _, trivial⟩) ?_)
 refine sq_yes rfl rfl (lr _) rfl (ev_not (lr _)) ?_
 refine pf rfl (lr _) (lr _) (mvr (lr _) rfl (ymr rfl rfl (lr _) rfl (lr _) (sq_yes rfl rfl (lr _) rfl (ev_lss (lr _) (lr _)) ?_)))
 refine pf rfl (lr _) (lr _) (mvr (lr _) rfl ?_)
 refine sq_split 44 (lr _) (fun g1_18 => ?_) (fun g1_18 => ?_)
 ·
  have g1_18' := of_decide_eq_true g1_18
  exfalso; omega
 ·
  have g1_18' := of_decide_eq_false g1_18
  refine sq_yes rfl rfl (less_b g1_18) rfl (ev_mv (v := .raw _) (lr _)) ?_
  refine sq_yes rfl rfl (less_b g1_18) rfl (ev_gtr (lr _) (lr _)) ?_
  refine sq_ev rfl (ev_pickF (v := .raw _) (less_b g1_18) (lr _)) ?_
  refine mvr (lr _) rfl ?_
  refine sq_split 48 (lr _) (fun g1_22 => ?_) (fun g1_22 => ?_)
  ·
   have g1_22' := of_decide_eq_true g1_22
   exfalso; omega
  ·
   have g1_22' := of_decide_eq_false g1_22
   refine sq_yes rfl rfl (less_b g1_22) rfl (ev_mv (v := .raw _) (lr _)) ?_
   refine sq_yes rfl rfl (less_b g1_22) rfl (ev_lss (lr _) (lr _)) ?_
   refine sq_ev rfl (ev_pickF (v := .raw _) (less_b g1_22) (lr _)) ?_
   refine mvr (lr _) rfl ?_
   refine sq_split 52 (lr _) (fun g1_26 => ?_) (fun g1_26 => ?_)
   ·
    have g1_26' := of_decide_eq_true g1_26
    exfalso; omega
   ·
    have g1_26' := of_decide_eq_false g1_26
    refine sq_yes rfl rfl (less_b g1_26) rfl (ev_mv (v := .raw _) (lr _)) ?_
    refine sq_yes rfl rfl (less_b g1_26) rfl (ev_gtr (lr _) (lr _)) ?_
    refine sq_ev rfl (ev_pickF (v := .raw _) (less_b g1_26) (lr _)) ?_
    refine sq_nil ?_
    refine aw_cond (lr _) (fun c_55 => ?_) (fun c_55 => ?_)
    ·
     have c_55' := of_decide_eq_true c_55
     exfalso; omega
    ·
     have c_55' := of_decide_eq_false c_55
     refine aw_skip (aw_seq (aw_region ?_))
     refine sq_ev rfl (ev_load_agg (lr _) rfl ty27 rfl) ?_
     refine mvr (lr _) rfl (sq_ev rfl (ev_call en70 (lr _) (lg_val hs h70) ⟨lr _, lr _, trivial⟩) ?_)
     refine sq_ev rfl (ev_mv (v := .tup _) (lr _)) ?_
     refine xtr rfl (lr _) rfl (xtr rfl (lr _) rfl (asr (lr _) rfl (asr (lr _) rfl (sq_nil (aw_seq (aw_region ?_))))))
     refine sq_ev rfl (ev_load_agg (lr _) rfl ty27 rfl) ?_
     refine sq_ev rfl (ev_call en71 (lr _) (st_val hs h71) ⟨lr _, trivial⟩) ?_
     refine sq_ev rfl (ev_mv (v := .tup _) (lr _)) ?_
     refine xtr rfl (lr _) rfl (xtr rfl (lr _) rfl ?_)
     refine sq_alloc rfl z23 ?_
     refine sq_store rfl (lr _) (lr _) rfl rfl ty23 rfl rfl ?_
     refine asr (lr _) rfl (sq_nil (aw_seq (aw_region ?_)))
     refine sq_ev rfl (ev_load_agg (lr _) rfl ty27 rfl) ?_
     refine sq_ev rfl (ev_call en38 (lr _) (h38) ⟨lr _, trivial⟩) ?_
     refine sq_ev rfl (ev_mv (v := .tup _) (lr _)) ?_
     refine xtr rfl (lr _) rfl (xtr rfl (lr _) rfl (asr (lr _) rfl (asr (lr _) rfl (sq_nil (aw_seq (aw_region ?_))))))
     refine sq_ev rfl (ev_load_agg (lr _) rfl ty27 rfl) ?_
     refine mvr (lr _) rfl (sq_ev rfl (ev_call en74 (lr _) (rwith_pure p _) ⟨lr _, lr _, trivial⟩) ?_)
     refine sq_ev rfl (ev_call en38 (lr _) (h38w) ⟨lr _, trivial⟩) ?_
     refine sq_ev rfl (ev_mv (v := .tup _) (lr _)) ?_
     refine xtr rfl (lr _) rfl (xtr rfl (lr _) rfl (asr (lr _) rfl (asr (lr _) rfl (sq_nil (aw_seq (aw_seq ?_))))))
     refine aw_join [(137, B false)] [1, 2, 4, 9, 10, 11, 12] ?_ ?_
     ·
      refine aw_region ?_
      refine mvr (lr _) rfl (sq_ev rfl (ev_not (lr _)) ?_)
      refine mvr (lr _) rfl (ymr rfl rfl (lr _) rfl (lr _) (sq_yes rfl rfl (lr _) rfl (ev_not (lr _)) ?_))
      refine pf rfl (lr _) (lr _) (mvr (lr _) rfl (ymr rfl rfl (lr _) rfl (lr _) (sq_yes rfl rfl (lr _) rfl (ev_neq (lr _) (lr _)) ?_)))
      refine ymr rfl rfl (lr _) rfl (lr _) ?_
      refine sq_split 89 (lr _) (fun g7_9 => ?_) (fun g7_9 => ?_)
      ·
       have g7_9' := of_decide_eq_true g7_9
       refine sq_yes rfl rfl (less_b g7_9) rfl (ev_mv (v := .raw _) (lr _)) ?_
       refine sq_yes rfl rfl (less_b g7_9) rfl (ev_neq (lr _) (lr _)) ?_
       refine sq_yes rfl rfl (lr _) rfl (ev_pickT (v := .raw _) (less_b g7_9) (lr _)) ?_
       refine pf rfl (lr _) (lr _) (mvr (lr _) rfl ?_)
       refine sq_split 94 (lr _) (fun g7_14 => ?_) (fun g7_14 => ?_)
       ·
        have g7_14' := of_decide_eq_true g7_14
        exfalso; omega
       ·
        have g7_14' := of_decide_eq_false g7_14
        refine sq_yes rfl rfl (less_b g7_14) rfl (ev_mv (v := .raw _) (lr _)) ?_
        refine sq_yes rfl rfl (less_b g7_14) rfl (ev_neq (lr _) (lr _)) ?_
        refine sq_yes rfl rfl (less_b g7_14) rfl (ev_mv (v := .raw _) (lr _)) ?_
        refine sq_split 97 (lr _) (fun g7_17 => ?_) (fun g7_17 => ?_)
        ·
         have g7_17' := of_decide_eq_true g7_17
         refine sq_yes rfl rfl (less_b g7_17) rfl (ev_mv (v := .raw _) (lr _)) ?_
         refine sq_yes rfl rfl (less_b g7_17) rfl (ev_neq (lr _) (lr _)) ?_
         refine sq_yes rfl rfl (less_b g7_14) rfl (ev_pickT (v := .raw _) (less_b g7_17) (lr _)) ?_
         refine sq_ev rfl (ev_pickF (v := .raw _) (less_b g7_14) (lr _)) ?_
         refine mvr (lr _) rfl ?_
         refine sq_split 102 (lr _) (fun g7_22 => ?_) (fun g7_22 => ?_)
         ·
          have g7_22' := of_decide_eq_true g7_22
          exfalso; omega
         ·
          have g7_22' := of_decide_eq_false g7_22
          refine sq_yes rfl rfl (less_b g7_22) rfl (ev_mv (v := .raw _) (lr _)) ?_
          refine sq_yes rfl rfl (less_b g7_22) rfl (ev_lss (lr _) (lr _)) ?_
          refine sq_ev rfl (ev_pickF (v := .raw _) (less_b g7_22) (lr _)) ?_
          refine mvr (lr _) rfl ?_
          refine sq_split 106 (lr _) (fun g7_26 => ?_) (fun g7_26 => ?_)
          ·
           have g7_26' := of_decide_eq_true g7_26
           exfalso; omega
          ·
           have g7_26' := of_decide_eq_false g7_26
           refine sq_yes rfl rfl (less_b g7_26) rfl (ev_mv (v := .raw _) (lr _)) ?_
           refine sq_yes rfl rfl (less_b g7_26) rfl (ev_gtr (lr _) (lr _)) ?_
           refine sq_ev rfl (ev_pickF (v := .raw _) (less_b g7_26) (lr _)) ?_
           refine mvr (lr _) rfl ?_
           refine sq_split 110 (lr _) (fun g7_30 => ?_) (fun g7_30 => ?_)
           ·
            have g7_30' := of_decide_eq_true g7_30
            exfalso; omega
           ·
            have g7_30' := of_decide_eq_false g7_30
            refine sq_yes rfl rfl (less_b g7_30) rfl (ev_mv (v := .raw _) (lr _)) ?_
            refine sq_yes rfl rfl (less_b g7_30) rfl (ev_mv (v := .raw _) (lr _)) ?_
            refine sq_split 112 (lr _) (fun g7_32 => ?_) (fun g7_32 => ?_)
            ·
             have hc' := hcan g7_32
             have := hcan g7_32
             exfalso; omega
            ·
             refine sq_no rfl rfl (less_b g7_32) rfl rfl ?_
             refine sq_no rfl rfl (less_b g7_32) rfl rfl ?_
             refine sq_no rfl rfl (less_b g7_32) rfl rfl ?_
             refine sq_no rfl rfl (lr _) rfl rfl (sq_no rfl rfl (lr _) rfl rfl (sq_no rfl rfl (less_b g7_32) rfl rfl ?_))
             refine sq_no rfl rfl (less_b g7_32) rfl rfl ?_
             refine sq_no rfl rfl (lr _) rfl rfl (sq_no rfl rfl (lr _) rfl rfl (sq_no rfl rfl (less_b g7_32) rfl rfl ?_))
             refine sq_yes rfl rfl (less_b g7_30) rfl (ev_pickF (v := .raw _) (less_b g7_32) (lr _)) ?_
             refine sq_ev rfl (ev_pickF (v := .raw _) (less_b g7_30) (lr _)) ?_
             refine mvr (lr _) rfl (ymr rfl rfl (lr _) rfl (lr _) (ymr rfl rfl (lr _) rfl (lr _) ?_))
             refine sq_split 127 (lr _) (fun g7_47 => ?_) (fun g7_47 => ?_)
             ·
              have ho' := hoth g7_47
              have h60 := rwithin_pure b a z
              rw [show inn b a z = true by simp [inn]; omega] at h60
              have := hoth g7_47
              exfalso; omega
             ·
              refine sq_no rfl rfl (less_b g7_47) rfl rfl ?_
              refine sq_no rfl rfl (less_b g7_47) rfl rfl ?_
              refine sq_no rfl rfl (less_b g7_47) rfl rfl ?_
              refine sq_no rfl rfl (lr _) rfl rfl (sq_no rfl rfl (lr _) rfl rfl (sq_no rfl rfl (lr _) rfl rfl (sq_no rfl rfl (lr _) rfl rfl (sq_no rfl rfl (less_b g7_47) rfl rfl ?_))))
              refine sq_yes rfl rfl (lr _) rfl (ev_pickF (v := .raw _) (less_b g7_47) (lr _)) ?_
              refine pf rfl (lr _) (lr _) (sq_nil ?_)
              exact ⟨⟨lr _, lr _, lr _, lr _, lr _, lr _, lr _, lr _, trivial⟩, rfl, rfl⟩
        ·
         have g7_17' := of_decide_eq_false g7_17
         refine sq_no rfl rfl (less_b g7_17) rfl rfl ?_
         refine sq_no rfl rfl (less_b g7_17) rfl rfl ?_
         refine sq_yes rfl rfl (less_b g7_14) rfl (ev_pickF (v := .raw _) (less_b g7_17) (lr _)) ?_
         refine sq_ev rfl (ev_pickF (v := .raw _) (less_b g7_14) (lr _)) ?_
         refine mvr (lr _) rfl (ymr rfl rfl (lr _) rfl (lr _) (sq_yes rfl rfl (lr _) rfl (ev_lss (lr _) (lr _)) ?_))
         refine pf rfl (lr _) (lr _) (mvr (lr _) rfl ?_)
         refine sq_split 106 (lr _) (fun g7_26 => ?_) (fun g7_26 => ?_)
         ·
          have g7_26' := of_decide_eq_true g7_26
          exfalso; omega
         ·
          have g7_26' := of_decide_eq_false g7_26
          refine sq_yes rfl rfl (less_b g7_26) rfl (ev_mv (v := .raw _) (lr _)) ?_
          refine sq_yes rfl rfl (less_b g7_26) rfl (ev_gtr (lr _) (lr _)) ?_
          refine sq_ev rfl (ev_pickF (v := .raw _) (less_b g7_26) (lr _)) ?_
          refine mvr (lr _) rfl ?_
          refine sq_split 110 (lr _) (fun g7_30 => ?_) (fun g7_30 => ?_)
          ·
           have g7_30' := of_decide_eq_true g7_30
           exfalso; omega
          ·
           have g7_30' := of_decide_eq_false g7_30
           refine sq_yes rfl rfl (less_b g7_30) rfl (ev_mv (v := .raw _) (lr _)) ?_
           refine sq_yes rfl rfl (less_b g7_30) rfl (ev_mv (v := .raw _) (lr _)) ?_
           refine sq_split 112 (lr _) (fun g7_32 => ?_) (fun g7_32 => ?_)
           ·
            have hc' := hcan g7_32
            have := hcan g7_32
            exfalso; omega
           ·
            refine sq_no rfl rfl (less_b g7_32) rfl rfl ?_
            refine sq_no rfl rfl (less_b g7_32) rfl rfl ?_
            refine sq_no rfl rfl (less_b g7_32) rfl rfl ?_
            refine sq_no rfl rfl (lr _) rfl rfl (sq_no rfl rfl (lr _) rfl rfl (sq_no rfl rfl (less_b g7_32) rfl rfl ?_))
            refine sq_no rfl rfl (less_b g7_32) rfl rfl ?_
            refine sq_no rfl rfl (lr _) rfl rfl (sq_no rfl rfl (lr _) rfl rfl (sq_no rfl rfl (less_b g7_32) rfl rfl ?_))
            refine sq_yes rfl rfl (less_b g7_30) rfl (ev_pickF (v := .raw _) (less_b g7_32) (lr _)) ?_
            refine sq_ev rfl (ev_pickF (v := .raw _) (less_b g7_30) (lr _)) ?_
            refine mvr (lr _) rfl (ymr rfl rfl (lr _) rfl (lr _) (ymr rfl rfl (lr _) rfl (lr _) ?_))
            refine sq_split 127 (lr _) (fun g7_47 => ?_) (fun g7_47 => ?_)
            ·
             have ho' := hoth g7_47
             have h60 := rwithin_pure b a z
             rw [show inn b a z = true by simp [inn]; omega] at h60
             refine sq_yes rfl rfl (less_b g7_47) rfl (ev_mv (v := .raw _) (lr _)) ?_
             refine sq_yes rfl rfl (less_b g7_47) rfl (ev_neq (lr _) (lr _)) ?_
             refine sq_yes rfl rfl (less_b g7_47) rfl (ev_mv (v := .raw _) (lr _)) ?_
             refine sq_split 130 (lr _) (fun g7_50 => ?_) (fun g7_50 => ?_)
             ·
              have g7_50' := of_decide_eq_true g7_50
              exfalso; omega
             ·
              have g7_50' := of_decide_eq_false g7_50
              refine sq_yes rfl rfl (less_b g7_50) rfl (ev_mv (v := .raw _) (lr _)) ?_
              refine sq_yes rfl rfl (less_b g7_50) rfl (ev_load_agg (lr _) rfl ty23 rfl) ?_
              refine sq_yes rfl rfl (less_b g7_50) rfl (ev_call en60 (lr _) (h60) ⟨lr _, lr _, trivial⟩) ?_
              refine sq_yes rfl rfl (less_b g7_50) rfl (ev_not (lr _)) ?_
              refine sq_yes rfl rfl (less_b g7_47) rfl (ev_pickF (v := .raw _) (less_b g7_50) (lr _)) ?_
              refine sq_yes rfl rfl (lr _) rfl (ev_pickT (v := .raw _) (less_b g7_47) (lr _)) ?_
              refine pf rfl (lr _) (lr _) (sq_nil ?_)
              exact ⟨⟨lr _, lr _, lr _, lr _, lr _, lr _, lr _, lr _, trivial⟩, rfl, rfl⟩
            ·
             refine sq_no rfl rfl (less_b g7_47) rfl rfl ?_
             refine sq_no rfl rfl (less_b g7_47) rfl rfl ?_
             refine sq_no rfl rfl (less_b g7_47) rfl rfl ?_
             refine sq_no rfl rfl (lr _) rfl rfl (sq_no rfl rfl (lr _) rfl rfl (sq_no rfl rfl (lr _) rfl rfl (sq_no rfl rfl (lr _) rfl rfl (sq_no rfl rfl (less_b g7_47) rfl rfl ?_))))
             refine sq_yes rfl rfl (lr _) rfl (ev_pickF (v := .raw _) (less_b g7_47) (lr _)) ?_
             refine pf rfl (lr _) (lr _) (sq_nil ?_)
             exact ⟨⟨lr _, lr _, lr _, lr _, lr _, lr _, lr _, lr _, trivial⟩, rfl, rfl⟩
      ·
       have g7_9' := of_decide_eq_false g7_9
       refine sq_no rfl rfl (less_b g7_9) rfl rfl ?_
       refine sq_no rfl rfl (less_b g7_9) rfl rfl ?_
       refine sq_yes rfl rfl (lr _) rfl (ev_pickF (v := .raw _) (less_b g7_9) (lr _)) ?_
       refine pf rfl (lr _) (lr _) (mvr (lr _) rfl (ymr rfl rfl (lr _) rfl (lr _) (sq_yes rfl rfl (lr _) rfl (ev_neq (lr _) (lr _)) ?_)))
       refine ymr rfl rfl (lr _) rfl (lr _) ?_
       refine sq_split 97 (lr _) (fun g7_17 => ?_) (fun g7_17 => ?_)
       ·
        have g7_17' := of_decide_eq_true g7_17
        refine sq_yes rfl rfl (less_b g7_17) rfl (ev_mv (v := .raw _) (lr _)) ?_
        refine sq_yes rfl rfl (less_b g7_17) rfl (ev_neq (lr _) (lr _)) ?_
        refine sq_yes rfl rfl (lr _) rfl (ev_pickT (v := .raw _) (less_b g7_17) (lr _)) ?_
        refine pf rfl (lr _) (lr _) (mvr (lr _) rfl ?_)
        refine sq_split 102 (lr _) (fun g7_22 => ?_) (fun g7_22 => ?_)
        ·
         have g7_22' := of_decide_eq_true g7_22
         exfalso; omega
        ·
         have g7_22' := of_decide_eq_false g7_22
         refine sq_yes rfl rfl (less_b g7_22) rfl (ev_mv (v := .raw _) (lr _)) ?_
         refine sq_yes rfl rfl (less_b g7_22) rfl (ev_lss (lr _) (lr _)) ?_
         refine sq_ev rfl (ev_pickF (v := .raw _) (less_b g7_22) (lr _)) ?_
         refine mvr (lr _) rfl ?_
         refine sq_split 106 (lr _) (fun g7_26 => ?_) (fun g7_26 => ?_)
         ·
          have g7_26' := of_decide_eq_true g7_26
          exfalso; omega
         ·
          have g7_26' := of_decide_eq_false g7_26
          refine sq_yes rfl rfl (less_b g7_26) rfl (ev_mv (v := .raw _) (lr _)) ?_
          refine sq_yes rfl rfl (less_b g7_26) rfl (ev_gtr (lr _) (lr _)) ?_
          refine sq_ev rfl (ev_pickF (v := .raw _) (less_b g7_26) (lr _)) ?_
          refine mvr (lr _) rfl ?_
          refine sq_split 110 (lr _) (fun g7_30 => ?_) (fun g7_30 => ?_)
          ·
           have g7_30' := of_decide_eq_true g7_30
           exfalso; omega
          ·
           have g7_30' := of_decide_eq_false g7_30
           refine sq_yes rfl rfl (less_b g7_30) rfl (ev_mv (v := .raw _) (lr _)) ?_
           refine sq_yes rfl rfl (less_b g7_30) rfl (ev_mv (v := .raw _) (lr _)) ?_
           refine sq_split 112 (lr _) (fun g7_32 => ?_) (fun g7_32 => ?_)
           ·
            have hc' := hcan g7_32
            have := hcan g7_32
            exfalso; omega
           ·
            refine sq_no rfl rfl (less_b g7_32) rfl rfl ?_
            refine sq_no rfl rfl (less_b g7_32) rfl rfl ?_
            refine sq_no rfl rfl (less_b g7_32) rfl rfl ?_
            refine sq_no rfl rfl (lr _) rfl rfl (sq_no rfl rfl (lr _) rfl rfl (sq_no rfl rfl (less_b g7_32) rfl rfl ?_))
            refine sq_no rfl rfl (less_b g7_32) rfl rfl ?_
            refine sq_no rfl rfl (lr _) rfl rfl (sq_no rfl rfl (lr _) rfl rfl (sq_no rfl rfl (less_b g7_32) rfl rfl ?_))
            refine sq_yes rfl rfl (less_b g7_30) rfl (ev_pickF (v := .raw _) (less_b g7_32) (lr _)) ?_
            refine sq_ev rfl (ev_pickF (v := .raw _) (less_b g7_30) (lr _)) ?_
            refine mvr (lr _) rfl (ymr rfl rfl (lr _) rfl (lr _) (ymr rfl rfl (lr _) rfl (lr _) ?_))
            refine sq_split 127 (lr _) (fun g7_47 => ?_) (fun g7_47 => ?_)
            ·
             have ho' := hoth g7_47
             have h60 := rwithin_pure b a z
             rw [show inn b a z = true by simp [inn]; omega] at h60
             have := hoth g7_47
             exfalso; omega
            ·
             refine sq_no rfl rfl (less_b g7_47) rfl rfl ?_
             refine sq_no rfl rfl (less_b g7_47) rfl rfl ?_
             refine sq_no rfl rfl (less_b g7_47) rfl rfl ?_
             refine sq_no rfl rfl (lr _) rfl rfl (sq_no rfl rfl (lr _) rfl rfl (sq_no rfl rfl (lr _) rfl rfl (sq_no rfl rfl (lr _) rfl rfl (sq_no rfl rfl (less_b g7_47) rfl rfl ?_))))
             refine sq_yes rfl rfl (lr _) rfl (ev_pickF (v := .raw _) (less_b g7_47) (lr _)) ?_
             refine pf rfl (lr _) (lr _) (sq_nil ?_)
             exact ⟨⟨lr _, lr _, lr _, lr _, lr _, lr _, lr _, lr _, trivial⟩, rfl, rfl⟩
       ·
        have g7_17' := of_decide_eq_false g7_17
        refine sq_no rfl rfl (less_b g7_17) rfl rfl ?_
        refine sq_no rfl rfl (less_b g7_17) rfl rfl ?_
        refine sq_yes rfl rfl (lr _) rfl (ev_pickF (v := .raw _) (less_b g7_17) (lr _)) ?_
        refine pf rfl (lr _) (lr _) (mvr (lr _) rfl (ymr rfl rfl (lr _) rfl (lr _) (sq_yes rfl rfl (lr _) rfl (ev_lss (lr _) (lr _)) ?_)))
        refine pf rfl (lr _) (lr _) (mvr (lr _) rfl ?_)
        refine sq_split 106 (lr _) (fun g7_26 => ?_) (fun g7_26 => ?_)
        ·
         have g7_26' := of_decide_eq_true g7_26
         exfalso; omega
        ·
         have g7_26' := of_decide_eq_false g7_26
         refine sq_yes rfl rfl (less_b g7_26) rfl (ev_mv (v := .raw _) (lr _)) ?_
         refine sq_yes rfl rfl (less_b g7_26) rfl (ev_gtr (lr _) (lr _)) ?_
         refine sq_ev rfl (ev_pickF (v := .raw _) (less_b g7_26) (lr _)) ?_
         refine mvr (lr _) rfl ?_
         refine sq_split 110 (lr _) (fun g7_30 => ?_) (fun g7_30 => ?_)
         ·
          have g7_30' := of_decide_eq_true g7_30
          exfalso; omega
         ·
          have g7_30' := of_decide_eq_false g7_30
          refine sq_yes rfl rfl (less_b g7_30) rfl (ev_mv (v := .raw _) (lr _)) ?_
          refine sq_yes rfl rfl (less_b g7_30) rfl (ev_mv (v := .raw _) (lr _)) ?_
          refine sq_split 112 (lr _) (fun g7_32 => ?_) (fun g7_32 => ?_)
          ·
           have hc' := hcan g7_32
           refine sq_yes rfl rfl (less_b g7_32) rfl (ev_mv (v := .raw _) (lr _)) ?_
           refine sq_yes rfl rfl (less_b g7_32) rfl (ev_neq (lr _) (lr _)) ?_
           refine sq_yes rfl rfl (less_b g7_32) rfl (ev_mv (v := .raw _) (lr _)) ?_
           refine sq_split 115 (lr _) (fun g7_35 => ?_) (fun g7_35 => ?_)
           ·
            have g7_35' := of_decide_eq_true g7_35
            exfalso; omega
           ·
            have g7_35' := of_decide_eq_false g7_35
            refine sq_yes rfl rfl (less_b g7_35) rfl (ev_mv (v := .raw _) (lr _)) ?_
            refine sq_yes rfl rfl (less_b g7_35) rfl (ev_gtr (lr _) (lr _)) ?_
            refine sq_yes rfl rfl (less_b g7_32) rfl (ev_pickF (v := .raw _) (less_b g7_35) (lr _)) ?_
            refine sq_yes rfl rfl (less_b g7_32) rfl (ev_mv (v := .raw _) (lr _)) ?_
            refine sq_split 119 (lr _) (fun g7_39 => ?_) (fun g7_39 => ?_)
            ·
             have g7_39' := of_decide_eq_true g7_39
             exfalso; omega
            ·
             have g7_39' := of_decide_eq_false g7_39
             refine sq_yes rfl rfl (less_b g7_39) rfl (ev_mv (v := .raw _) (lr _)) ?_
             refine sq_yes rfl rfl (less_b g7_39) rfl (ev_neq (lr _) (lr _)) ?_
             refine sq_yes rfl rfl (less_b g7_32) rfl (ev_pickF (v := .raw _) (less_b g7_39) (lr _)) ?_
             refine sq_yes rfl rfl (less_b g7_30) rfl (ev_pickT (v := .raw _) (less_b g7_32) (lr _)) ?_
             refine sq_ev rfl (ev_pickF (v := .raw _) (less_b g7_30) (lr _)) ?_
             refine mvr (lr _) rfl ?_
             refine sq_split 125 (lr _) (fun g7_45 => ?_) (fun g7_45 => ?_)
             ·
              have g7_45' := of_decide_eq_true g7_45
              exfalso; omega
             ·
              have g7_45' := of_decide_eq_false g7_45
              refine sq_yes rfl rfl (less_b g7_45) rfl (ev_mv (v := .raw _) (lr _)) ?_
              refine sq_yes rfl rfl (less_b g7_45) rfl (ev_mv (v := .raw _) (lr _)) ?_
              refine sq_split 127 (lr _) (fun g7_47 => ?_) (fun g7_47 => ?_)
              ·
               have ho' := hoth g7_47
               have h60 := rwithin_pure b a z
               rw [show inn b a z = true by simp [inn]; omega] at h60
               refine sq_yes rfl rfl (less_b g7_47) rfl (ev_mv (v := .raw _) (lr _)) ?_
               refine sq_yes rfl rfl (less_b g7_47) rfl (ev_neq (lr _) (lr _)) ?_
               refine sq_yes rfl rfl (less_b g7_47) rfl (ev_mv (v := .raw _) (lr _)) ?_
               refine sq_split 130 (lr _) (fun g7_50 => ?_) (fun g7_50 => ?_)
               ·
                have g7_50' := of_decide_eq_true g7_50
                exfalso; omega
               ·
                have g7_50' := of_decide_eq_false g7_50
                refine sq_yes rfl rfl (less_b g7_50) rfl (ev_mv (v := .raw _) (lr _)) ?_
                refine sq_yes rfl rfl (less_b g7_50) rfl (ev_load_agg (lr _) rfl ty23 rfl) ?_
                refine sq_yes rfl rfl (less_b g7_50) rfl (ev_call en60 (lr _) (h60) ⟨lr _, lr _, trivial⟩) ?_
                refine sq_yes rfl rfl (less_b g7_50) rfl (ev_not (lr _)) ?_
                refine sq_yes rfl rfl (less_b g7_47) rfl (ev_pickF (v := .raw _) (less_b g7_50) (lr _)) ?_
                refine sq_yes rfl rfl (less_b g7_45) rfl (ev_pickT (v := .raw _) (less_b g7_47) (lr _)) ?_
                refine sq_ev rfl (ev_pickF (v := .raw _) (less_b g7_45) (lr _)) ?_
                refine sq_nil ?_
                exact ⟨⟨lr _, lr _, lr _, lr _, lr _, lr _, lr _, lr _, trivial⟩, rfl, rfl⟩
              ·
               refine sq_no rfl rfl (less_b g7_47) rfl rfl ?_
               refine sq_no rfl rfl (less_b g7_47) rfl rfl ?_
               refine sq_no rfl rfl (less_b g7_47) rfl rfl ?_
               refine sq_no rfl rfl (lr _) rfl rfl (sq_no rfl rfl (lr _) rfl rfl (sq_no rfl rfl (lr _) rfl rfl (sq_no rfl rfl (lr _) rfl rfl (sq_no rfl rfl (less_b g7_47) rfl rfl ?_))))
               refine sq_yes rfl rfl (less_b g7_45) rfl (ev_pickF (v := .raw _) (less_b g7_47) (lr _)) ?_
               refine sq_ev rfl (ev_pickF (v := .raw _) (less_b g7_45) (lr _)) ?_
               refine sq_nil ?_
               exact ⟨⟨lr _, lr _, lr _, lr _, lr _, lr _, lr _, lr _, trivial⟩, rfl, rfl⟩
          ·
           refine sq_no rfl rfl (less_b g7_32) rfl rfl ?_
           refine sq_no rfl rfl (less_b g7_32) rfl rfl ?_
           refine sq_no rfl rfl (less_b g7_32) rfl rfl ?_
           refine sq_no rfl rfl (lr _) rfl rfl (sq_no rfl rfl (lr _) rfl rfl (sq_no rfl rfl (less_b g7_32) rfl rfl ?_))
           refine sq_no rfl rfl (less_b g7_32) rfl rfl ?_
           refine sq_no rfl rfl (lr _) rfl rfl (sq_no rfl rfl (lr _) rfl rfl (sq_no rfl rfl (less_b g7_32) rfl rfl ?_))
           refine sq_yes rfl rfl (less_b g7_30) rfl (ev_pickF (v := .raw _) (less_b g7_32) (lr _)) ?_
           refine sq_ev rfl (ev_pickF (v := .raw _) (less_b g7_30) (lr _)) ?_
           refine mvr (lr _) rfl (ymr rfl rfl (lr _) rfl (lr _) (ymr rfl rfl (lr _) rfl (lr _) ?_))
           refine sq_split 127 (lr _) (fun g7_47 => ?_) (fun g7_47 => ?_)
           ·
            have ho' := hoth g7_47
            have h60 := rwithin_pure b a z
            rw [show inn b a z = true by simp [inn]; omega] at h60
            refine sq_yes rfl rfl (less_b g7_47) rfl (ev_mv (v := .raw _) (lr _)) ?_
            refine sq_yes rfl rfl (less_b g7_47) rfl (ev_neq (lr _) (lr _)) ?_
            refine sq_yes rfl rfl (less_b g7_47) rfl (ev_mv (v := .raw _) (lr _)) ?_
            refine sq_split 130 (lr _) (fun g7_50 => ?_) (fun g7_50 => ?_)
            ·
             have g7_50' := of_decide_eq_true g7_50
             exfalso; omega
            ·
             have g7_50' := of_decide_eq_false g7_50
             refine sq_yes rfl rfl (less_b g7_50) rfl (ev_mv (v := .raw _) (lr _)) ?_
             refine sq_yes rfl rfl (less_b g7_50) rfl (ev_load_agg (lr _) rfl ty23 rfl) ?_
             refine sq_yes rfl rfl (less_b g7_50) rfl (ev_call en60 (lr _) (h60) ⟨lr _, lr _, trivial⟩) ?_
             refine sq_yes rfl rfl (less_b g7_50) rfl (ev_not (lr _)) ?_
             refine sq_yes rfl rfl (less_b g7_47) rfl (ev_pickF (v := .raw _) (less_b g7_50) (lr _)) ?_
             refine sq_yes rfl rfl (lr _) rfl (ev_pickT (v := .raw _) (less_b g7_47) (lr _)) ?_
             refine pf rfl (lr _) (lr _) (sq_nil ?_)
             exact ⟨⟨lr _, lr _, lr _, lr _, lr _, lr _, lr _, lr _, trivial⟩, rfl, rfl⟩
           ·
            refine sq_no rfl rfl (less_b g7_47) rfl rfl ?_
            refine sq_no rfl rfl (less_b g7_47) rfl rfl ?_
            refine sq_no rfl rfl (less_b g7_47) rfl rfl ?_
            refine sq_no rfl rfl (lr _) rfl rfl (sq_no rfl rfl (lr _) rfl rfl (sq_no rfl rfl (lr _) rfl rfl (sq_no rfl rfl (lr _) rfl rfl (sq_no rfl rfl (less_b g7_47) rfl rfl ?_))))
            refine sq_yes rfl rfl (lr _) rfl (ev_pickF (v := .raw _) (less_b g7_47) (lr _)) ?_
            refine pf rfl (lr _) (lr _) (sq_nil ?_)
            exact ⟨⟨lr _, lr _, lr _, lr _, lr _, lr _, lr _, lr _, trivial⟩, rfl, rfl⟩
     ·
      dsimp only [keepS, St.put, sget, slotsOf, List.map_cons, List.map_nil, List.cons_append, List.nil_append, List.length_cons, List.length_nil, Nat.reduceBEq, Nat.reduceAdd, cond_true, cond_false]
      refine aw_false (lr _) ?_
      refine aw_skip (aw_seq (aw_seq (aw_region ?_)))
      refine mvr (lr _) rfl (sq_ev rfl (ev_eql (lr _) (lr _)) ?_)
      refine sq_nil ?_
      refine aw_join [] [1, 2, 4, 9, 10] ?_ ?_
      ·
       refine aw_cond (lr _) (fun c_139 => ?_) (fun c_139 => ?_)
       ·
        have c_139' := of_decide_eq_true c_139
        obtain ⟨hst1, hst2, hst3, hst4, hst5⟩ := hst c_139'
        refine aw_seq (aw_seq (aw_region ?_))
        refine sq_ev rfl (ev_fieldAddr fo23_0 (lr _)) ?_
        refine sq_ev rfl (ev_load (lr _) rfl ty3 rfl) ?_
        refine sq_ev rfl (ev_lss (lr _) (lr _)) ?_
        refine mvr (lr _) rfl ?_
        refine sq_split 143 (lr _) (fun g10_3 => ?_) (fun g10_3 => ?_)
        ·
         have g10_3' := of_decide_eq_true g10_3
         exfalso; omega
        ·
         have g10_3' := of_decide_eq_false g10_3
         refine sq_yes rfl rfl (less_b g10_3) rfl (ev_fieldAddr fo23_1 (lr _)) ?_
         refine sq_yes rfl rfl (less_b g10_3) rfl (ev_load (lr _) rfl ty3 rfl) ?_
         refine sq_yes rfl rfl (less_b g10_3) rfl (ev_gtr (lr _) (lr _)) ?_
         refine sq_ev rfl (ev_pickF (v := .raw _) (less_b g10_3) (lr _)) ?_
         refine mvr (lr _) rfl ?_
         refine sq_split 148 (lr _) (fun g10_8 => ?_) (fun g10_8 => ?_)
         ·
          have g10_8' := of_decide_eq_true g10_8
          exfalso; omega
         ·
          have g10_8' := of_decide_eq_false g10_8
          refine sq_yes rfl rfl (less_b g10_8) rfl (ev_fieldAddr fo23_0 (lr _)) ?_
          refine sq_yes rfl rfl (less_b g10_8) rfl (ev_load (lr _) rfl ty3 rfl) ?_
          refine sq_yes rfl rfl (less_b g10_8) rfl (ev_fieldAddr fo23_1 (lr _)) ?_
          refine sq_yes rfl rfl (less_b g10_8) rfl (ev_load (lr _) rfl ty3 rfl) ?_
          refine sq_yes rfl rfl (less_b g10_8) rfl (ev_gtr (lr _) (lr _)) ?_
          refine sq_ev rfl (ev_pickF (v := .raw _) (less_b g10_8) (lr _)) ?_
          refine sq_nil ?_
          refine aw_cond (lr _) (fun c_154 => ?_) (fun c_154 => ?_)
          ·
           have c_154' := of_decide_eq_true c_154
           exfalso; omega
          ·
           have c_154' := of_decide_eq_false c_154
           refine aw_skip (aw_seq (aw_region ?_))
           refine sq_ev rfl (ev_load_agg (lr _) rfl ty27 rfl) ?_
           refine sq_ev rfl (ev_fieldAddr fo23_0 (lr _)) ?_
           refine sq_ev rfl (ev_load (lr _) rfl ty3 rfl) ?_
           refine sq_ev rfl (ev_call en74 (lr _) (rwith_pure p _) ⟨lr _, lr _, trivial⟩) ?_
           refine sq_ev rfl (ev_call en38 (lr _) (hst4) ⟨lr _, trivial⟩) ?_
           refine sq_ev rfl (ev_mv (v := .tup _) (lr _)) ?_
           refine xtr rfl (lr _) rfl (xtr rfl (lr _) rfl (asr (lr _) rfl (asr (lr _) rfl (sq_nil (aw_seq (aw_region ?_))))))
           refine sq_ev rfl (ev_load_agg (lr _) rfl ty27 rfl) ?_
           refine sq_ev rfl (ev_fieldAddr fo23_1 (lr _)) ?_
           refine sq_ev rfl (ev_load (lr _) rfl ty3 rfl) ?_
           refine sq_ev rfl (ev_call en74 (lr _) (rwith_pure p _) ⟨lr _, lr _, trivial⟩) ?_
           refine sq_ev rfl (ev_call en38 (lr _) (hst5) ⟨lr _, trivial⟩) ?_
           refine sq_ev rfl (ev_mv (v := .tup _) (lr _)) ?_
           refine xtr rfl (lr _) rfl (xtr rfl (lr _) rfl (asr (lr _) rfl (asr (lr _) rfl (sq_nil (aw_seq (aw_region ?_))))))
           refine mvr (lr _) rfl (sq_ev rfl (ev_not (lr _)) ?_)
           refine mvr (lr _) rfl (ymr rfl rfl (lr _) rfl (lr _) (sq_yes rfl rfl (lr _) rfl (ev_not (lr _)) ?_))
           refine pf rfl (lr _) (lr _) (mvr (lr _) rfl (ymr rfl rfl (lr _) rfl (lr _) (sq_yes rfl rfl (lr _) rfl (ev_not (lr _)) ?_)))
           refine pf rfl (lr _) (lr _) (mvr (lr _) rfl (ymr rfl rfl (lr _) rfl (lr _) (sq_yes rfl rfl (lr _) rfl (ev_not (lr _)) ?_)))
           refine pf rfl (lr _) (lr _) (sq_nil ?_)
           refine aw_false (lr _) ?_
           refine aw_skip ?_
           exact ⟨⟨lr _, lr _, lr _, lr _, lr _, trivial⟩, rfl, rfl⟩
       ·
        have c_139' := of_decide_eq_false c_139
        refine aw_skip ?_
        exact ⟨⟨lr _, lr _, lr _, lr _, lr _, trivial⟩, rfl, rfl⟩
      ·
       dsimp only [keepS, St.put, sget, slotsOf, List.map_cons, List.map_nil, List.cons_append, List.nil_append, List.length_cons, List.length_nil, Nat.reduceBEq, Nat.reduceAdd, cond_true, cond_false]
       refine aw_seq (aw_region ?_)
       refine sq_ev rfl (ev_fieldAddr fo27_3 (lr _)) ?_
       refine sq_ev rfl (ev_load (lr _) rfl ty25 rfl) ?_
       refine mvr (lr _) rfl (sq_ev rfl (ev_index_map sl25 (lr _) (lr _) rfl (by omega)) ?_)
       refine sq_ev rfl (ev_fieldAddr_i fo84_2 (lr _)) ?_
       refine sq_ev rfl (ev_load_i (lr _) ty3 rfl) ?_
       refine sq_ev rfl (ev_sub (lr _) (lr _) (wr (by omega) (by omega))) ?_
       refine asr (lr _) rfl (sq_nil (aw_seq (aw_seq (aw_region ?_))))
       refine mvr (lr _) rfl (sq_ev rfl (ev_eql (lr _) (lr _)) ?_)
       refine mvr (lr _) rfl ?_
       refine sq_split 194 (lr _) (fun g17_2 => ?_) (fun g17_2 => ?_)
       ·
        have g17_2' := of_decide_eq_true g17_2
        refine sq_yes rfl rfl (less_b g17_2) rfl (ev_mv (v := .raw _) (lr _)) ?_
        refine sq_yes rfl rfl (less_b g17_2) rfl (ev_mv (v := .raw _) (lr _)) ?_
        refine sq_yes rfl rfl (less_b g17_2) rfl (ev_leq (lr _) (lr _)) ?_
        refine sq_ev rfl (ev_pickT (v := .raw _) (less_b g17_2) (lr _)) ?_
        refine sq_nil ?_
        refine aw_join [] [1, 2, 4, 9, 10, 21] ?_ ?_
        ·
         refine aw_cond (lr _) (fun c_198 => ?_) (fun c_198 => ?_)
         ·
          have c_198' := of_decide_eq_true c_198
          have hyes1 := hyes (by omega) (by omega)
          refine aw_seq (aw_region ?_)
          refine sq_ev rfl (ev_load_agg (lr _) rfl ty27 rfl) ?_
          refine mvr (lr _) rfl (mvr (lr _) rfl (sq_ev rfl (ev_call en56 (lr _) (rMore_pure hn (by omega) (by omega) (by omega)) ⟨lr _, lr _, lr _, trivial⟩) ?_))
          refine sq_ev rfl (ev_call en38 (lr _) (hyes1) ⟨lr _, trivial⟩) ?_
          refine sq_ev rfl (ev_mv (v := .tup _) (lr _)) ?_
          refine xtr rfl (lr _) rfl (xtr rfl (lr _) rfl (asr (lr _) rfl (asr (lr _) rfl (sq_nil (aw_seq (aw_region ?_))))))
          refine mvr (lr _) rfl (sq_ev rfl (ev_not (lr _)) ?_)
          refine mvr (lr _) rfl (ymr rfl rfl (lr _) rfl (lr _) (sq_yes rfl rfl (lr _) rfl (ev_not (lr _)) ?_))
          refine pf rfl (lr _) (lr _) (sq_nil ?_)
          refine aw_false (lr _) ?_
          refine aw_skip ?_
          exact ⟨⟨lr _, lr _, lr _, lr _, lr _, lr _, trivial⟩, rfl, rfl⟩
         ·
          have c_198' := of_decide_eq_false c_198
          refine aw_skip ?_
          exact ⟨⟨lr _, lr _, lr _, lr _, lr _, lr _, trivial⟩, rfl, rfl⟩
        ·
         dsimp only [keepS, St.put, sget, slotsOf, List.map_cons, List.map_nil, List.cons_append, List.nil_append, List.length_cons, List.length_nil, Nat.reduceBEq, Nat.reduceAdd, cond_true, cond_false]
         refine aw_seq (aw_seq (aw_region ?_))
         refine mvr (lr _) rfl (mvr (lr _) rfl (sq_ev rfl (ev_gtr (lr _) (lr _)) ?_))
         refine mvr (lr _) rfl ?_
         refine sq_split 216 (lr _) (fun g21_3 => ?_) (fun g21_3 => ?_)
         ·
          have g21_3' := of_decide_eq_true g21_3
          refine sq_no rfl rfl (less_b g21_3) rfl rfl ?_
          refine sq_no rfl rfl (less_b g21_3) rfl rfl ?_
          refine sq_no rfl rfl (less_b g21_3) rfl rfl ?_
          refine sq_no rfl rfl (lr _) rfl rfl (sq_no rfl rfl (lr _) rfl rfl (sq_no rfl rfl (lr _) rfl rfl (sq_no rfl rfl (less_b g21_3) rfl rfl ?_)))
          refine sq_ev rfl (ev_pickT (v := .raw _) (less_b g21_3) (lr _)) ?_
          refine sq_nil ?_
          refine aw_true (lr _) ?_
          refine aw_seq (aw_region ?_)
          refine sq_ev rfl (ev_call en21 (lr _) (known_pure) trivial) ?_
          refine asr (lr _) rfl (sq_nil (aw_ret ?_))
          exact retQ_pure (v := .raw _) rfl rfl (lr _)
         ·
          have g21_3' := of_decide_eq_false g21_3
          refine sq_yes rfl rfl (less_b g21_3) rfl (ev_mv (v := .raw _) (lr _)) ?_
          refine sq_yes rfl rfl (less_b g21_3) rfl (ev_eql (lr _) (lr _)) ?_
          refine sq_yes rfl rfl (less_b g21_3) rfl (ev_mv (v := .raw _) (lr _)) ?_
          refine sq_split 219 (lr _) (fun g21_6 => ?_) (fun g21_6 => ?_)
          ·
           have g21_6' := of_decide_eq_true g21_6
           refine sq_yes rfl rfl (less_b g21_6) rfl (ev_mv (v := .raw _) (lr _)) ?_
           refine sq_yes rfl rfl (less_b g21_6) rfl (ev_mv (v := .raw _) (lr _)) ?_
           refine sq_yes rfl rfl (less_b g21_6) rfl (ev_geq (lr _) (lr _)) ?_
           refine sq_yes rfl rfl (less_b g21_3) rfl (ev_pickT (v := .raw _) (less_b g21_6) (lr _)) ?_
           refine sq_ev rfl (ev_pickF (v := .raw _) (less_b g21_3) (lr _)) ?_
           refine sq_nil ?_
           refine aw_cond (lr _) (fun c_224 => ?_) (fun c_224 => ?_)
           ·
            have c_224' := of_decide_eq_true c_224
            refine aw_seq (aw_region ?_)
            refine sq_ev rfl (ev_call en21 (lr _) (known_pure) trivial) ?_
            refine asr (lr _) rfl (sq_nil (aw_ret ?_))
            exact retQ_pure (v := .raw _) rfl rfl (lr _)
           ·
            have c_224' := of_decide_eq_false c_224
            have hno1 := hno (by omega) (by omega)
            refine aw_skip (aw_seq (aw_region ?_))
            refine sq_ev rfl (ev_load_agg (lr _) rfl ty27 rfl) ?_
            refine mvr (lr _) rfl (mvr (lr _) rfl (sq_ev rfl (ev_call en56 (lr _) (rMore_pure hn (by omega) (by omega) (by omega)) ⟨lr _, lr _, lr _, trivial⟩) ?_))
            refine sq_ev rfl (ev_call en38 (lr _) (hno1) ⟨lr _, trivial⟩) ?_
            refine sq_ev rfl (ev_mv (v := .tup _) (lr _)) ?_
            refine xtr rfl (lr _) rfl (xtr rfl (lr _) rfl (asr (lr _) rfl (asr (lr _) rfl (sq_nil (aw_seq (aw_region ?_))))))
            refine mvr (lr _) rfl (mvr (lr _) rfl (ymr rfl rfl (lr _) rfl (lr _) (sq_yes rfl rfl (lr _) rfl (ev_not (lr _)) ?_)))
            refine sq_ev rfl (ev_pickT (v := .raw _) (lr _) (lr _)) ?_
            refine mvr (lr _) rfl (sq_yes rfl rfl (lr _) rfl (ev_call en21 (lr _) (known_pure) trivial) ?_)
            refine sq_ev rfl (ev_pickT (v := .raw _) (lr _) (lr _)) ?_
            refine asr (lr _) rfl (sq_nil (aw_ret ?_))
            exact retQ_pure (v := .raw _) rfl rfl (lr _)
          ·
           have g21_6' := of_decide_eq_false g21_6
           have hno1 := hno (by omega) (by omega)
           refine sq_no rfl rfl (less_b g21_6) rfl rfl ?_
           refine sq_no rfl rfl (less_b g21_6) rfl rfl ?_
           refine sq_no rfl rfl (less_b g21_6) rfl rfl ?_
           refine sq_yes rfl rfl (less_b g21_3) rfl (ev_pickF (v := .raw _) (less_b g21_6) (lr _)) ?_
           refine sq_ev rfl (ev_pickF (v := .raw _) (less_b g21_3) (lr _)) ?_
           refine sq_nil ?_
           refine aw_false (lr _) ?_
           refine aw_skip (aw_seq (aw_region ?_))
           refine sq_ev rfl (ev_load_agg (lr _) rfl ty27 rfl) ?_
           refine mvr (lr _) rfl (mvr (lr _) rfl (sq_ev rfl (ev_call en56 (lr _) (rMore_pure hn (by omega) (by omega) (by omega)) ⟨lr _, lr _, lr _, trivial⟩) ?_))
           refine sq_ev rfl (ev_call en38 (lr _) (hno1) ⟨lr _, trivial⟩) ?_
           refine sq_ev rfl (ev_mv (v := .tup _) (lr _)) ?_
           refine xtr rfl (lr _) rfl (xtr rfl (lr _) rfl (asr (lr _) rfl (asr (lr _) rfl (sq_nil (aw_seq (aw_region ?_))))))
           refine mvr (lr _) rfl (mvr (lr _) rfl (ymr rfl rfl (lr _) rfl (lr _) (sq_yes rfl rfl (lr _) rfl (ev_not (lr _)) ?_)))
           refine sq_ev rfl (ev_pickT (v := .raw _) (lr _) (lr _)) ?_
           refine mvr (lr _) rfl (sq_yes rfl rfl (lr _) rfl (ev_call en21 (lr _) (known_pure) trivial) ?_)
           refine sq_ev rfl (ev_pickT (v := .raw _) (lr _) (lr _)) ?_
           refine asr (lr _) rfl (sq_nil (aw_ret ?_))
           exact retQ_pure (v := .raw _) rfl rfl (lr _)
       ·
        have g17_2' := of_decide_eq_false g17_2
        refine sq_no rfl rfl (less_b g17_2) rfl rfl ?_
        refine sq_no rfl rfl (less_b g17_2) rfl rfl ?_
        refine sq_no rfl rfl (less_b g17_2) rfl rfl ?_
        refine sq_ev rfl (ev_pickF (v := .raw _) (less_b g17_2) (lr _)) ?_
        refine sq_nil ?_
        refine aw_join [] [1, 2, 4, 9, 10, 21] ?_ ?_
        ·
         refine aw_false (lr _) ?_
         refine aw_skip ?_
         exact ⟨⟨lr _, lr _, lr _, lr _, lr _, lr _, trivial⟩, rfl, rfl⟩
        ·
         dsimp only [keepS, St.put, sget, slotsOf, List.map_cons, List.map_nil, List.cons_append, List.nil_append, List.length_cons, List.length_nil, Nat.reduceBEq, Nat.reduceAdd, cond_true, cond_false]
         refine aw_seq (aw_seq (aw_region ?_))
         refine mvr (lr _) rfl (mvr (lr _) rfl (sq_ev rfl (ev_gtr (lr _) (lr _)) ?_))
         refine mvr (lr _) rfl ?_
         refine sq_split 216 (lr _) (fun g21_3 => ?_) (fun g21_3 => ?_)
         ·
          have g21_3' := of_decide_eq_true g21_3
          refine sq_no rfl rfl (less_b g21_3) rfl rfl ?_
          refine sq_no rfl rfl (less_b g21_3) rfl rfl ?_
          refine sq_no rfl rfl (less_b g21_3) rfl rfl ?_
          refine sq_no rfl rfl (lr _) rfl rfl (sq_no rfl rfl (lr _) rfl rfl (sq_no rfl rfl (lr _) rfl rfl (sq_no rfl rfl (less_b g21_3) rfl rfl ?_)))
          refine sq_ev rfl (ev_pickT (v := .raw _) (less_b g21_3) (lr _)) ?_
          refine sq_nil ?_
          refine aw_true (lr _) ?_
          refine aw_seq (aw_region ?_)
          refine sq_ev rfl (ev_call en21 (lr _) (known_pure) trivial) ?_
          refine asr (lr _) rfl (sq_nil (aw_ret ?_))
          exact retQ_pure (v := .raw _) rfl rfl (lr _)
         ·
          have g21_3' := of_decide_eq_false g21_3
          refine sq_yes rfl rfl (less_b g21_3) rfl (ev_mv (v := .raw _) (lr _)) ?_
          refine sq_yes rfl rfl (less_b g21_3) rfl (ev_eql (lr _) (lr _)) ?_
          refine sq_yes rfl rfl (less_b g21_3) rfl (ev_mv (v := .raw _) (lr _)) ?_
          refine sq_split 219 (lr _) (fun g21_6 => ?_) (fun g21_6 => ?_)
          ·
           have g21_6' := of_decide_eq_true g21_6
           refine sq_yes rfl rfl (less_b g21_6) rfl (ev_mv (v := .raw _) (lr _)) ?_
           refine sq_yes rfl rfl (less_b g21_6) rfl (ev_mv (v := .raw _) (lr _)) ?_
           refine sq_yes rfl rfl (less_b g21_6) rfl (ev_geq (lr _) (lr _)) ?_
           refine sq_yes rfl rfl (less_b g21_3) rfl (ev_pickT (v := .raw _) (less_b g21_6) (lr _)) ?_
           refine sq_ev rfl (ev_pickF (v := .raw _) (less_b g21_3) (lr _)) ?_
           refine sq_nil ?_
           refine aw_cond (lr _) (fun c_224 => ?_) (fun c_224 => ?_)
           ·
            have c_224' := of_decide_eq_true c_224
            refine aw_seq (aw_region ?_)
            refine sq_ev rfl (ev_call en21 (lr _) (known_pure) trivial) ?_
            refine asr (lr _) rfl (sq_nil (aw_ret ?_))
            exact retQ_pure (v := .raw _) rfl rfl (lr _)
           ·
            have c_224' := of_decide_eq_false c_224
            have hno1 := hno (by omega) (by omega)
            refine aw_skip (aw_seq (aw_region ?_))
            refine sq_ev rfl (ev_load_agg (lr _) rfl ty27 rfl) ?_
            refine mvr (lr _) rfl (mvr (lr _) rfl (sq_ev rfl (ev_call en56 (lr _) (rMore_pure hn (by omega) (by omega) (by omega)) ⟨lr _, lr _, lr _, trivial⟩) ?_))
            refine sq_ev rfl (ev_call en38 (lr _) (hno1) ⟨lr _, trivial⟩) ?_
            refine sq_ev rfl (ev_mv (v := .tup _) (lr _)) ?_
            refine xtr rfl (lr _) rfl (xtr rfl (lr _) rfl (asr (lr _) rfl (asr (lr _) rfl (sq_nil (aw_seq (aw_region ?_))))))
            refine mvr (lr _) rfl (mvr (lr _) rfl (ymr rfl rfl (lr _) rfl (lr _) (sq_yes rfl rfl (lr _) rfl (ev_not (lr _)) ?_)))
            refine sq_ev rfl (ev_pickT (v := .raw _) (lr _) (lr _)) ?_
            refine mvr (lr _) rfl (sq_yes rfl rfl (lr _) rfl (ev_call en21 (lr _) (known_pure) trivial) ?_)
            refine sq_ev rfl (ev_pickT (v := .raw _) (lr _) (lr _)) ?_
            refine asr (lr _) rfl (sq_nil (aw_ret ?_))
            exact retQ_pure (v := .raw _) rfl rfl (lr _)
          ·
           have g21_6' := of_decide_eq_false g21_6
           have hno1 := hno (by omega) (by omega)
           refine sq_no rfl rfl (less_b g21_6) rfl rfl ?_
           refine sq_no rfl rfl (less_b g21_6) rfl rfl ?_
           refine sq_no rfl rfl (less_b g21_6) rfl rfl ?_
           refine sq_yes rfl rfl (less_b g21_3) rfl (ev_pickF (v := .raw _) (less_b g21_6) (lr _)) ?_
           refine sq_ev rfl (ev_pickF (v := .raw _) (less_b g21_3) (lr _)) ?_
           refine sq_nil ?_
           refine aw_false (lr _) ?_
           refine aw_skip (aw_seq (aw_region ?_))
           refine sq_ev rfl (ev_load_agg (lr _) rfl ty27 rfl) ?_
           refine mvr (lr _) rfl (mvr (lr _) rfl (sq_ev rfl (ev_call en56 (lr _) (rMore_pure hn (by omega) (by omega) (by omega)) ⟨lr _, lr _, lr _, trivial⟩) ?_))
           refine sq_ev rfl (ev_call en38 (lr _) (hno1) ⟨lr _, trivial⟩) ?_
           refine sq_ev rfl (ev_mv (v := .tup _) (lr _)) ?_
           refine xtr rfl (lr _) rfl (xtr rfl (lr _) rfl (asr (lr _) rfl (asr (lr _) rfl (sq_nil (aw_seq (aw_region ?_))))))
           refine mvr (lr _) rfl (mvr (lr _) rfl (ymr rfl rfl (lr _) rfl (lr _) (sq_yes rfl rfl (lr _) rfl (ev_not (lr _)) ?_)))
           refine sq_ev rfl (ev_pickT (v := .raw _) (lr _) (lr _)) ?_
           refine mvr (lr _) rfl (sq_yes rfl rfl (lr _) rfl (ev_call en21 (lr _) (known_pure) trivial) ?_)
           refine sq_ev rfl (ev_pickT (v := .raw _) (lr _) (lr _)) ?_
           refine asr (lr _) rfl (sq_nil (aw_ret ?_))
           exact retQ_pure (v := .raw _) rfl rfl (lr _)
theorem more_val {p : Pl} (hs : p.scenes.length ≤ 12) (ok : PlOK p = true) {m : Nat} (hm : m < p.scenes.length) {y : Int} (hy : 0 ≤ y) (hr : y ≤ 240 - p.scenes[m].most) {v : Bool} (h : (∃ l, l ∈ allC p ∧ ∃ h, FitH (moreP p m y) l h) ↔ v = true) : APure Tryz.prog 38 [plan (moreP p m y)] (.tup [B v, B true]) := by
  have ok2 := moreP_ok ok hm hy (by rw [scn_eq hm]; omega)
  obtain ⟨g2, w2⟩ := gp_of_ok ok2
  refine poss_val (by rw [moreP_len]; exact hs) ok2 ?_
  rw [Bool.eq_iff_iff, decide_eq_true_eq, poss_iff g2 w2, allC_more hm]; exact h
theorem with_val {p : Pl} (hs : p.scenes.length ≤ 12) (ok : PlOK p = true) {b : Int} (hb : 0 ≤ b ∧ b ≤ 900) {v : Bool} (h : (∃ l, l ∈ allC p ∧ ∃ h, FitH (withP p b) l h) ↔ v = true) : APure Tryz.prog 38 [plan (withP p b)] (.tup [B v, B true]) := by
  have ok2 := withP_ok ok hb
  obtain ⟨g2, w2⟩ := gp_of_ok ok2
  refine poss_val hs ok2 ?_
  rw [Bool.eq_iff_iff, decide_eq_true_eq, poss_iff g2 w2]; exact h
/-- **NightEnough returns true.** -/
theorem law17 (p : Pl) (n : Int) (_ : -9223372036854775808 ≤ n) (_ : n ≤ 9223372036854775807) (d : Int) (_ : -9223372036854775808 ≤ d) (_ : d ≤ 9223372036854775807) (b : Int) (_ : -9223372036854775808 ≤ b) (_ : b ≤ 9223372036854775807) : APure Tryz.prog 17 [plan p, I n, I d, I b] (B true) := by
  by_cases hs : p.scenes.length ≤ 12
  · cases hk : PlOK p with
    | false => exact law17_bad p n d b hs hk
    | true =>
      cases hsc : isSc p n with
      | false => exact law17_sc p n d b hs hk hsc
      | true =>
        by_cases ho : 0 ≤ d ∧ d ≤ 900 ∧ 0 ≤ b ∧ b ≤ 900
        · obtain ⟨hd1, hd2, hb⟩ := ho
          obtain ⟨gp, wp⟩ := gp_of_ok hk
          obtain ⟨m, rfl⟩ : ∃ m : Nat, n = (m : Int) := ⟨n.toNat, by simp only [isSc, inn, Bool.and_eq_true, decide_eq_true_eq] at hsc; omega⟩
          have hm : m < p.scenes.length := by simp only [isSc, inn, Bool.and_eq_true, decide_eq_true_eq] at hsc; omega
          have hmo : 0 ≤ p.scenes[m].most ∧ p.scenes[m].most ≤ 240 := by
            have h1 := most_ok hk hm; have h2 := gp.most hm
            rw [scn_eq hm] at h1 h2; omega
          have h38 := poss_val hs hk rfl
          obtain ⟨oth, ho⟩ : ∃ v : Bool, (∃ l, l ∈ allC p ∧ ∃ h, FitH (withP p b) l h) ↔ v = true := by
            by_cases h : ∃ l, l ∈ allC p ∧ ∃ h, FitH (withP p b) l h
            · exact ⟨true, by simp only [h]⟩
            · exact ⟨false, by simp only [h]; simp⟩
          have h38w := with_val hs hk hb ho
          have mono : ∀ y : Int, 0 ≤ y → 0 < (choicesC p).length → ∃ l, l ∈ allC p ∧ ∃ h, FitH (moreP p m y) l h := fun y hy hc => by
            obtain ⟨l, hl, h, f⟩ := (poss_iff gp wp).1 hc
            exact ⟨l, hl, h, fit_mono hm hy (allC_inc hl) f⟩
          obtain ⟨x, E, h70, hE, hx, hcan, hyes, hno⟩ : ∃ x E, lgR p m = (x, E) ∧ (E = 0 ∨ E = 5) ∧ (0 ≤ x ∧ x ≤ 900) ∧ (decide (0 < (choicesC p).length) = true → E = 0 ∧ x ≤ 0) ∧ (E = 0 → x ≤ 240 - p.scenes[m].most → APure Tryz.prog 38 [plan (moreP p m x)] (.tup [B true, B true])) ∧
              (d ≤ 240 - p.scenes[m].most → ¬ (E = 0 ∧ d ≥ x) → APure Tryz.prog 38 [plan (moreP p m d)] (.tup [B false, B true])) := by
            unfold lgR
            rw [if_pos ⟨hk, hsc⟩, Int.toNat_natCast]
            by_cases hc : 0 < (choicesC p).length
            · rw [if_pos hc]
              refine ⟨0, 0, rfl, .inl rfl, by omega, fun _ => ⟨rfl, by omega⟩, fun _ hr => more_val hs hk hm (by omega) hr (by simpa using mono 0 (by omega) hc), fun hr hne => absurd ⟨rfl, hd1⟩ hne⟩
            · rw [if_neg hc]
              have hno : (choicesC p).length = 0 := by omega
              by_cases hl : (lgL p m).length = 0
              · rw [if_pos hl]
                refine ⟨0, 5, rfl, .inr rfl, by omega, fun h => absurd (of_decide_eq_true h) hc, fun h => by omega, fun hr _ => more_val hs hk hm hd1 hr ?_⟩
                rw [more_iff hk hm (by omega) hno]; simp [hl]
              · rw [if_neg hl]
                obtain ⟨b1, b2⟩ := min_bd hk hm hno hl
                refine ⟨_, 0, rfl, .inl rfl, by omega, fun h => absurd (of_decide_eq_true h) hc, fun _ hr => more_val hs hk hm (by omega) hr ?_, fun hr hne => more_val hs hk hm hd1 hr ?_⟩
                · rw [more_iff hk hm (by omega) hno]; simp [hl]
                · rw [more_iff hk hm (by omega) hno]
                  simp only [Bool.false_eq_true, iff_false, not_and]
                  intro _ hle; exact hne ⟨rfl, hle⟩
          obtain ⟨a, z, F, h71, hF, hst, hcanF, hoth⟩ : ∃ a z F, staR p = ((a, z), F) ∧ (F = 0 ∨ F = 5) ∧ (F = 0 → 0 ≤ a ∧ z ≤ 900 ∧ a ≤ z ∧ APure Tryz.prog 38 [plan (withP p a)] (.tup [B true, B true]) ∧ APure Tryz.prog 38 [plan (withP p z)] (.tup [B true, B true])) ∧
              (decide (0 < (choicesC p).length) = true → F = 0) ∧ (oth = true → F = 0 ∧ a ≤ b ∧ b ≤ z) := by
            have hown : decide (0 < (choicesC p).length) = true → stM p (allC p).length = true := fun h => by
              obtain ⟨l, hl, h, f⟩ := (poss_iff gp wp).1 (of_decide_eq_true h)
              have hbe : 0 ≤ p.beg ∧ p.beg ≤ 900 := by
                have hk' := hk
                simp only [PlOK, inn, Bool.and_eq_true, decide_eq_true_eq] at hk'
                exact hk'.1.1.1.1.1
              exact (sta_only hk hbe ⟨l, hl, h, f⟩).1
            cases hv : stM p (allC p).length with
            | true =>
              obtain ⟨⟨s1, s2, s3⟩, s4, s5⟩ := sta_spec hk hv
              refine ⟨_, _, 0, by rw [staR_3 hk hv], .inl rfl, fun _ => ⟨s1, s2, s3, with_val hs hk (by omega) (by simpa using s4), with_val hs hk (by omega) (by simpa using s5)⟩, fun _ => rfl, fun h => ?_⟩
              obtain ⟨_, t1, t2⟩ := sta_only hk hb (ho.2 h)
              exact ⟨rfl, t1, t2⟩
            | false =>
              refine ⟨0, 0, 5, staR_2 hk hv, .inr rfl, fun h => by omega, fun h => ?_, fun h => ?_⟩
              · have := hown h; rw [hv] at this; cases this
              · have := (sta_only hk hb (ho.2 h)).1; rw [hv] at this; cases this
          exact law17_main p m d b hs hk hm hsc ⟨hd1, hd2⟩ hb hmo x E F a z _ _ h70 h71 h38 h38w hE hF hx (fun h => ⟨(hcan h).1, (hcan h).2, hcanF h⟩) hoth hst hyes hno
        · exact law17_out p n d b hs hk hsc ho
  · exact law17_long p n d b hs
end Go.Proofs.YtjghdbdiejaacaaGreatDoor
