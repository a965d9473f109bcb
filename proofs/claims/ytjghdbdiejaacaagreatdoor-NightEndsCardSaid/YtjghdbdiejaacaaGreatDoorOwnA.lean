/-
  A part of the proof: conditions: none beyond each theorem's own.
-/
import Derived.Test.YtjghdbdiejaacaaGreatDoorSpecA
import Derived.Test.YtjghdbdiejaacaaGreatDoorLogicC
import Derived.KernelRfl
import Derived.Lib.LaidTab
import Derived.Lib.ItoaNum
import Derived.Test.YtjghdbdiejaacaaGreatDoorProg
import Derived.Test.YtjghdbdiejaacaaGreatDoorWalkF
import Derived.Test.YtjghdbdiejaacaaGreatDoorWalkG
import Derived.Test.YtjghdbdiejaacaaGreatDoorLogicD
import Derived.Test.YtjghdbdiejaacaaGreatDoorLogicA
import Derived.Test.YtjghdbdiejaacaaGreatDoorLogicB
import Derived.Test.YtjghdbdiejaacaaGreatDoorShelf
import Derived.Test.YtjghdbdiejaacaaGreatDoorWalkA
import Derived.Test.YtjghdbdiejaacaaGreatDoorWalkB
import Derived.Test.YtjghdbdiejaacaaGreatDoorWalkC
import Derived.Test.YtjghdbdiejaacaaGreatDoorWalkD
import Derived.Test.YtjghdbdiejaacaaGreatDoorWalkE
import Derived.Test.YtjghdbdiejaacaaGreatDoorRow
set_option linter.all false
namespace Ni

def FitH (p : Pl) (l : List Nat) (h : Hr) : Prop := Fit p l h.1 h.2.1 h.2.2
theorem mem_hrsH {p : Pl} {l : List Nat} (wp : WP p) (cv : CV p l) {h : Hr} : h ∈ hrs p l ↔ FitH p l h := by
  obtain ⟨a, b, c⟩ := h; exact mem_hrs wp cv
theorem pickF {lo hi L H t : Int} (h1 : lo ≤ hi) (h2 : L ≤ H) (h3 : lo - H ≤ t) (h4 : t ≤ hi - L) : ∃ s, lo ≤ s ∧ s ≤ hi ∧ L ≤ s - t ∧ s - t ≤ H :=
  ⟨max lo (t + L), by omega, by omega, by omega, by omega⟩
section
variable {p : Pl} {l : List Nat}
theorem fw1 : fw p l 1 = (max (p.beg + pl p l 0) p.s0l, min (p.beg + ph p l 0) p.s0h) := rfl
theorem fw2 : fw p l 2 = (max ((fw p l 1).1 + pl p l 1) p.s1l, min ((fw p l 1).2 + ph p l 1) p.s1h) := rfl
theorem bw0 : bw p l 0 = (p.dl, p.dh) := rfl
theorem bw1 : bw p l 1 = (max p.s1l (p.dl - ph p l 2), min p.s1h (p.dh - pl p l 2)) := rfl
theorem bw2 : bw p l 2 = (max p.s0l ((bw p l 1).1 - ph p l 1), min p.s0h ((bw p l 1).2 - pl p l 1)) := rfl
theorem fit_rg {h : Hr} (f : FitH p l h) {k : Nat} (hk : k < 3) : Rg p l k (prH p h k).1 (prH p h k).2 := by
  obtain ⟨a, b, c⟩ := h
  obtain ⟨h1, h2, h3, h4, h5, h6, h7, h8, h9, h10, h11, h12⟩ := f
  simp only at h1 h2 h3 h4 h5 h6 h7 h8 h9 h10 h11 h12
  have f0 : fw p l 0 = (p.beg, p.beg) := rfl
  rcases k with _ | _ | _ | k
  · constructor <;> simp only [prH, if_true, f0, bw2, bw1, Nat.sub_zero] <;> omega
  · constructor <;> simp only [prH, if_true, fw1, bw1, Nat.reduceSub, Nat.reduceAdd, Nat.reduceEqDiff, if_false] <;> omega
  · constructor <;> simp only [prH, fw2, fw1, bw0, Nat.reduceSub, Nat.reduceAdd, Nat.reduceEqDiff, if_false] <;> omega
  · omega
theorem rg_fit (wp : WP p) (cv : CV p l) (hc : can p l = true) {k : Nat} (hk : k < 3) {x y : Int} (r : Rg p l k x y) : ∃ h, FitH p l h ∧ prH p h k = (x, y) := by
  obtain ⟨a', b', c', f⟩ := (can_fit wp cv).1 hc
  obtain ⟨h1, h2, h3, h4, h5, h6, h7, h8, h9, h10, h11, h12⟩ := f
  obtain ⟨x1, x2, y1, y2, d1, d2⟩ := r
  have q0 := pl_le wp cv 0; have q1 := pl_le wp cv 1; have q2 := pl_le wp cv 2
  have f0 : fw p l 0 = (p.beg, p.beg) := rfl
  rcases k with _ | _ | _ | k
  · simp only [f0, bw2, bw1, Nat.sub_zero] at x1 x2 y1 y2
    obtain ⟨b, b1, b2, b3, b4⟩ := pickF (lo := max p.s1l (p.dl - ph p l 2)) (hi := min p.s1h (p.dh - pl p l 2)) (t := y) (by omega) q1 (by omega) (by omega)
    obtain ⟨c, c1, c2, c3, c4⟩ := pickF (lo := p.dl) (hi := p.dh) (t := b) (by omega) q2 (by omega) (by omega)
    obtain rfl : x = p.beg := by omega
    exact ⟨(y, b, c), ⟨by simp only; omega, by simp only; omega, by simp only; omega, by simp only; omega, by simp only; omega, by simp only; omega, by simp only; omega, by simp only; omega, by simp only; omega, by simp only; omega, by simp only; omega, by simp only; omega⟩, rfl⟩
  · simp only [fw1, bw1, Nat.reduceSub, Nat.reduceAdd] at x1 x2 y1 y2 d1 d2
    obtain ⟨c, c1, c2, c3, c4⟩ := pickF (lo := p.dl) (hi := p.dh) (t := y) (by omega) q2 (by omega) (by omega)
    exact ⟨(x, y, c), ⟨by simp only; omega, by simp only; omega, by simp only; omega, by simp only; omega, by simp only; omega, by simp only; omega, by simp only; omega, by simp only; omega, by simp only; omega, by simp only; omega, by simp only; omega, by simp only; omega⟩, rfl⟩
  · simp only [fw2, fw1, bw0, Nat.reduceSub, Nat.reduceAdd] at x1 x2 y1 y2 d1 d2
    obtain ⟨a, a1, a2, a3, a4⟩ := pick (lo := max (p.beg + pl p l 0) p.s0l) (hi := min (p.beg + ph p l 0) p.s0h) (t := x) (by omega) q1 (by omega) (by omega)
    exact ⟨(a, x, y), ⟨by simp only; omega, by simp only; omega, by simp only; omega, by simp only; omega, by simp only; omega, by simp only; omega, by simp only; omega, by simp only; omega, by simp only; omega, by simp only; omega, by simp only; omega, by simp only; omega⟩, rfl⟩
  · omega
/-- a part's ranges fit together if the choice can be played -/
theorem rg_some (wp : WP p) (cv : CV p l) (hc : can p l = true) {k : Nat} (hk : k < 3) : (fw p l k).1 ≤ (fw p l k).2 ∧ (bw p l (2 - k)).1 ≤ (bw p l (2 - k)).2 ∧ pl p l k ≤ ph p l k ∧ pl p l k ≤ (bw p l (2 - k)).2 - (fw p l k).1 ∧ (bw p l (2 - k)).1 - (fw p l k).2 ≤ ph p l k := by
  obtain ⟨a', b', c', f⟩ := (can_fit wp cv).1 hc
  have r := fit_rg (h := (a', b', c')) f hk
  obtain ⟨x1, x2, y1, y2, d1, d2⟩ := r
  have := pl_le wp cv k
  omega
end

/-! the widest of some bounds -/
theorem wd_char : ∀ {vs : List (Int × Int)}, vs ≠ [] → (∃ v ∈ vs, v.1 = (wd vs).1) ∧ (∀ v ∈ vs, (wd vs).1 ≤ v.1) ∧ (∃ v ∈ vs, v.2 = (wd vs).2) ∧ (∀ v ∈ vs, v.2 ≤ (wd vs).2) := by
  intro vs
  generalize hn : vs.length = n
  induction n generalizing vs with
  | zero => intro h; exact absurd (List.length_eq_zero_iff.1 hn) h
  | succ n ih =>
    intro _
    have e : vs = vs.dropLast ++ [vs.getLast (by intro e; rw [e] at hn; cases hn)] := (List.dropLast_concat_getLast _).symm
    generalize vs.getLast (by intro e; rw [e] at hn; cases hn) = v at e
    generalize hw : vs.dropLast = ws at e
    have hl : ws.length = n := by rw [e, List.length_append] at hn; simpa using hn
    subst e
    by_cases h0 : ws = []
    · subst h0
      simp [wd]
    · obtain ⟨⟨u, u1, u2⟩, g1, ⟨w, w1, w2⟩, g2⟩ := ih hl h0
      rw [wd_app h0]
      refine ⟨?_, ?_, ?_, ?_⟩
      · simp only
        rcases Int.le_total (wd ws).1 v.1 with h | h
        · exact ⟨u, by simp [u1], by omega⟩
        · exact ⟨v, by simp, by omega⟩
      · intro x hx; simp only
        rcases List.mem_append.1 hx with hx | hx
        · have := g1 x hx; omega
        · simp only [List.mem_singleton] at hx; subst hx; omega
      · simp only
        rcases Int.le_total v.2 (wd ws).2 with h | h
        · exact ⟨w, by simp [w1], by omega⟩
        · exact ⟨v, by simp, by omega⟩
      · intro x hx; simp only
        rcases List.mem_append.1 hx with hx | hx
        · have := g2 x hx; omega
        · simp only [List.mem_singleton] at hx; subst hx; omega
section
variable {p : Pl} {l : List Nat} (wp : WP p) (cv : CV p l) (hc : can p l = true)
include wp cv hc
/-- when a part ends -/
theorem end_met {k : Nat} (hk : k < 3) : Met (hrs p l) (fun h => ((prH p h k).2, (prH p h k).2)) (endV p k l) := by
  obtain ⟨a', b', c', f⟩ := (can_fit wp cv).1 hc
  have r0 := fit_rg (h := (a', b', c')) f hk
  obtain ⟨x1, x2, y1, y2, d1, d2⟩ := r0
  obtain ⟨e1, e2, e3, e4, e5⟩ := rg_some wp cv hc hk
  have ef : fw p l (k + 1) = (max ((fw p l k).1 + pl p l k) (wl p k), min ((fw p l k).2 + ph p l k) (wh p k)) := rfl
  have hw := win_le wp k
  have hb : wl p k ≤ (bw p l (2 - k)).1 ∧ (bw p l (2 - k)).2 ≤ wh p k := by
    have w0 : wl p 0 = p.s0l := rfl
    have w0' : wh p 0 = p.s0h := rfl
    have w1 : wl p 1 = p.s1l := rfl
    have w1' : wh p 1 = p.s1h := rfl
    have w2 : wl p 2 = p.dl := rfl
    have w2' : wh p 2 = p.dh := rfl
    rcases k with _ | _ | _ | k
    · simp only [bw2, Nat.sub_zero]; omega
    · simp only [bw1, Nat.reduceSub, Nat.reduceAdd]; omega
    · simp only [bw0, Nat.reduceSub, Nat.reduceAdd]; omega
    · omega
  have key : ∀ z, (endV p k l).1 ≤ z → z ≤ (endV p k l).2 → ∃ h ∈ hrs p l, (prH p h k).2 = z := fun z z1 z2 => by
    simp only [endV, ef] at z1 z2
    obtain ⟨x, p1, p2, p3, p4⟩ := pick (lo := (fw p l k).1) (hi := (fw p l k).2) (t := z) e1 e3 (by omega) (by omega)
    obtain ⟨h, h1, h2⟩ := rg_fit wp cv hc hk (x := x) (y := z) ⟨p1, p2, by omega, by omega, p3, p4⟩
    exact ⟨h, (mem_hrsH wp cv).2 h1, by rw [h2]⟩
  have hz : (endV p k l).1 ≤ (endV p k l).2 := by simp only [endV, ef]; omega
  refine ⟨key _ (Int.le_refl _) hz, fun h hm => ?_, key _ hz (Int.le_refl _), fun h hm => ?_⟩
  · obtain ⟨x1, x2, y1, y2, d1, d2⟩ := fit_rg ((mem_hrsH wp cv).1 hm) hk
    simp only [endV, ef]; omega
  · obtain ⟨x1, x2, y1, y2, d1, d2⟩ := fit_rg ((mem_hrsH wp cv).1 hm) hk
    simp only [endV, ef]; omega
end
end Ni

namespace Go.Proofs.YtjghdbdiejaacaaGreatDoor
open Go Go.Ab Ni
theorem en89 : Ent Tryz.prog 89 := Ent.of Tryz.func89 (by kernel_rfl) rfl
theorem en90 : Ent Tryz.prog 90 := Ent.of Tryz.func90 (by kernel_rfl) rfl
theorem en91 : Ent Tryz.prog 91 := Ent.of Tryz.func91 (by kernel_rfl) rfl
set_option maxHeartbeats 400000 in
/-- kelir/kelirref03.in -/
theorem in_pure (n lo hi : Int) : APure Tryz.prog 89 [I n, I lo, I hi] (B (inn n lo hi)) := by
 refine apure_of (rs := [.tmp 6]) Tryz.func89 rfl rfl (Nat.le_of_ble_eq_true rfl) (by simp [AV.pureL, AV.pureB, AV.pureE, pureE_map]) (rfl) fun e0 he0 => ?_
 refine aw_seq (aw_region ?_)
 refine asr (lr _) rfl ?_
 refine sq_nil (aw_seq (aw_region ?_))
 refine mvr (lr _) rfl ?_
 refine mvr (lr _) rfl ?_
 refine sq_ev rfl (ev_geq (lr _) (lr _)) ?_
 refine mvr (lr _) rfl ?_
 refine sq_split 10 (lr _) (fun g1 => ?_) (fun g1 => ?_)
 ·
  have g1' := g1
  try simp only [qq] at g1'
  refine sq_yes rfl rfl (less_b g1) rfl (ev_mv (v := .raw _) (lr _)) ?_
  refine sq_yes rfl rfl (less_b g1) rfl (ev_mv (v := .raw _) (lr _)) ?_
  refine sq_yes rfl rfl (less_b g1) rfl (ev_leq (lr _) (lr _)) ?_
  refine sq_ev rfl (ev_pickT (v := .raw _) (less_b g1) (lr _)) ?_
  refine asr (lr _) rfl ?_
  refine sq_nil (aw_ret ?_)
  exact retQ_pure (v := .raw _) rfl rfl (Less.eq (by simp [inn, *]))
 ·
  have g1' := g1
  try simp only [qq] at g1'
  refine sq_no rfl rfl (less_b g1) rfl rfl ?_
  refine sq_no rfl rfl (less_b g1) rfl rfl ?_
  refine sq_no rfl rfl (less_b g1) rfl rfl ?_
  refine sq_ev rfl (ev_pickF (v := .raw _) (less_b g1) (lr _)) ?_
  refine asr (lr _) rfl ?_
  refine sq_nil (aw_ret ?_)
  exact retQ_pure (v := .raw _) rfl rfl (Less.eq (by simp [inn, *]))

set_option maxHeartbeats 400000 in
/-- kelir/kelirref03.window -/
theorem window_pure (lo hi : Int) : APure Tryz.prog 90 [.agg [I lo, I hi]] (B (wnd lo hi)) := by
 refine apure_of (rs := [.tmp 2]) Tryz.func90 rfl rfl (Nat.le_of_ble_eq_true rfl) (by simp [AV.pureL, AV.pureB, AV.pureE, pureE_map]) (rfl) fun e0 he0 => ?_
 refine aw_seq (aw_region ?_)
 refine sq_box rfl (lr _) rfl ?_
 refine asr (lr _) rfl ?_
 refine sq_nil (aw_seq (aw_region ?_))
 refine sq_ev rfl (ev_fieldAddr fo23_0 (lr _)) ?_
 refine sq_ev rfl (ev_load (lr _) rfl ty3 rfl) ?_
 refine sq_ev rfl (ev_call en89 (lr _) (in_pure _ _ _) ⟨lr _, lr _, lr _, trivial⟩) ?_
 refine mvr (lr _) rfl ?_
 refine sq_split 6 (lr _) (fun g1 => ?_) (fun g1 => ?_)
 ·
  have g1' := g1
  try simp only [qq] at g1'
  refine sq_yes rfl rfl (less_b g1) rfl (ev_fieldAddr fo23_1 (lr _)) ?_
  refine sq_yes rfl rfl (less_b g1) rfl (ev_load (lr _) rfl ty3 rfl) ?_
  refine sq_yes rfl rfl (less_b g1) rfl (ev_fieldAddr fo23_0 (lr _)) ?_
  refine sq_yes rfl rfl (less_b g1) rfl (ev_load (lr _) rfl ty3 rfl) ?_
  refine sq_yes rfl rfl (less_b g1) rfl (ev_call en89 (lr _) (in_pure _ _ _) ⟨lr _, lr _, lr _, trivial⟩) ?_
  refine sq_ev rfl (ev_pickT (v := .raw _) (less_b g1) (lr _)) ?_
  refine mvr (lr _) rfl ?_
  refine sq_split 13 (lr _) (fun g2 => ?_) (fun g2 => ?_)
  ·
   have g2' := g2
   try simp only [qq] at g2'
   simp only [inn, Bool.and_eq_true, decide_eq_true_eq] at g1' g2'
   refine sq_yes rfl rfl (less_b g2) rfl (ev_fieldAddr fo23_1 (lr _)) ?_
   refine sq_yes rfl rfl (less_b g2) rfl (ev_load (lr _) rfl ty3 rfl) ?_
   refine sq_yes rfl rfl (less_b g2) rfl (ev_fieldAddr fo23_0 (lr _)) ?_
   refine sq_yes rfl rfl (less_b g2) rfl (ev_load (lr _) rfl ty3 rfl) ?_
   refine sq_yes rfl rfl (less_b g2) rfl (ev_sub (lr _) (lr _) (wr (by omega) (by omega))) ?_
   refine sq_yes rfl rfl (less_b g2) rfl (ev_leq (lr _) (lr _)) ?_
   refine sq_ev rfl (ev_pickT (v := .raw _) (less_b g2) (lr _)) ?_
   refine asr (lr _) rfl ?_
   refine sq_nil (aw_ret ?_)
   exact retQ_pure (v := .raw _) rfl rfl (Less.eq (by simp [wnd, *]))
  ·
   have g2' := g2
   try simp only [qq] at g2'
   refine sq_no rfl rfl (less_b g2) rfl rfl ?_
   refine sq_no rfl rfl (less_b g2) rfl rfl ?_
   refine sq_no rfl rfl (less_b g2) rfl rfl ?_
   refine sq_no rfl rfl (less_b g2) rfl rfl ?_
   refine sq_no rfl rfl (less_b g2) rfl rfl ?_
   refine sq_no rfl rfl (less_b g2) rfl rfl ?_
   refine sq_ev rfl (ev_pickF (v := .raw _) (less_b g2) (lr _)) ?_
   refine asr (lr _) rfl ?_
   refine sq_nil (aw_ret ?_)
   exact retQ_pure (v := .raw _) rfl rfl (Less.eq (by simp [wnd, *]))
 ·
  have g1' := g1
  try simp only [qq] at g1'
  refine sq_no rfl rfl (less_b g1) rfl rfl ?_
  refine sq_no rfl rfl (less_b g1) rfl rfl ?_
  refine sq_no rfl rfl (less_b g1) rfl rfl ?_
  refine sq_no rfl rfl (less_b g1) rfl rfl ?_
  refine sq_no rfl rfl (less_b g1) rfl rfl ?_
  refine sq_ev rfl (ev_pickF (v := .raw _) (less_b g1) (lr _)) ?_
  refine mvr (lr _) rfl ?_
  refine sq_no rfl rfl (lr _) rfl rfl ?_
  refine sq_no rfl rfl (lr _) rfl rfl ?_
  refine sq_no rfl rfl (lr _) rfl rfl ?_
  refine sq_no rfl rfl (lr _) rfl rfl ?_
  refine sq_no rfl rfl (lr _) rfl rfl ?_
  refine sq_no rfl rfl (lr _) rfl rfl ?_
  refine sq_ev rfl (ev_pickF (v := .raw _) (lr _) (lr _)) ?_
  refine asr (lr _) rfl ?_
  refine sq_nil (aw_ret ?_)
  exact retQ_pure (v := .raw _) rfl rfl (Less.eq (by simp [wnd, *]))

set_option maxHeartbeats 2000000 in
/-- kelir/kelirref03.scenes -/
theorem scenes_pure (p : Pl) (hl : p.scenes.length ≤ 1000000) : APure Tryz.prog 91 [plan p] (B (decide (ScOK p.scenes))) := by
 refine apure_of (rs := [.tmp 2]) Tryz.func91 rfl rfl (Nat.le_of_ble_eq_true rfl) (by simp [AV.pureL, AV.pureB, AV.pureE, pureE_map]) (rfl) fun e0 he0 => ?_
 refine aw_seq (aw_region ?_)
 refine sq_box rfl (lr _) rfl ?_
 refine asr (lr _) rfl ?_
 refine sq_nil (aw_seq (aw_region ?_))
 refine asr (lr _) rfl ?_
 refine sq_nil (aw_seq (aw_seq (aw_region ?_)))
 refine asr (lr _) rfl ?_
 refine sq_nil (aw_block ?_)
 refine aw_loopk (ι := { k : Nat // k ≤ p.scenes.length ∧ ∀ i, (h : i < p.scenes.length) → i < k → scBad p.scenes i h = false }) [1] (fun i => [(3, I (loosies (p.scenes.take i.1))), (4, I i.1)]) (fun H i => H) (fun i => p.scenes.length - i.1) (⟨0, Nat.zero_le _, by omega⟩) ⟨lr _, lr _, lr _, trivial⟩ rfl ?_
 rintro ⟨k, hk, hok⟩
 dsimp only [keepS, St.put, sget, slotsOf, List.map_cons, List.map_nil, List.cons_append, List.nil_append, List.length_cons, List.length_nil, Nat.reduceBEq, Nat.reduceAdd, cond_true, cond_false]
 have hlo := loosies_le (p.scenes.take k)
 have hlt := List.length_take_le k p.scenes
 refine aw_seq (aw_seq (aw_region ?_))
 refine mvr (lr _) rfl ?_
 refine sq_ev rfl (ev_fieldAddr fo27_3 (lr _)) ?_
 refine sq_ev rfl (ev_load (lr _) rfl ty25 rfl) ?_
 refine sq_ev rfl (ev_len_map sl25 (lr _)) ?_
 refine sq_ev rfl (ev_lss (lr _) (lr _)) ?_
 refine sq_nil ?_
 refine aw_cond (lr _) (fun c1 => ?_) (fun c1 => ?_)
 ·
  have c1' := c1
  try simp only [qq] at c1'
  refine aw_skip (aw_seq (aw_block (aw_seq (aw_region ?_))))
  refine sq_ev rfl (ev_fieldAddr fo27_3 (lr _)) ?_
  refine sq_ev rfl (ev_load (lr _) rfl ty25 rfl) ?_
  refine mvr (lr _) rfl ?_
  refine sq_ev rfl (ev_index_map sl25 (lr _) (lr _) rfl (by omega)) ?_
  refine sq_ev rfl (ev_load_agg_i (lr _) ty84 (Nat.le_of_ble_eq_true rfl)) ?_
  refine sq_alloc rfl z84 ?_
  refine sq_store rfl (lr _) (lr _) rfl rfl ty84 rfl rfl ?_
  refine sq_nil (aw_seq (aw_seq ?_))
  refine aw_draw 50 mo (by kernel_rfl) ?_
  refine dr_ev rfl (ev_fieldAddr fo84_0 (lr _)) ?_
  refine dr_ev rfl (ev_load (lr _) rfl ty3 rfl) ?_
  refine dr_ev rfl (ev_call en89 (lr _) (in_pure _ _ _) ⟨lr _, lr _, lr _, trivial⟩) ?_
  refine dr_ev rfl (ev_not (lr _)) ?_
  refine dr_ev rfl (ev_mv (v := .raw _) (lr _)) ?_
  refine dr_split 22 (lr _) (fun g2 => ?_) (fun g2 => ?_)
  ·
   have g2' := g2
   try simp only [qq] at g2'
   refine dr_no rfl rfl (less_b g2) rfl rfl ?_
   refine dr_no rfl rfl (less_b g2) rfl rfl ?_
   refine dr_no rfl rfl (less_b g2) rfl rfl ?_
   refine dr_no rfl rfl (lr _) rfl rfl ?_
   refine dr_no rfl rfl (lr _) rfl rfl ?_
   refine dr_no rfl rfl (lr _) rfl rfl ?_
   refine dr_no rfl rfl (lr _) rfl rfl ?_
   refine dr_no rfl rfl (lr _) rfl rfl ?_
   refine dr_no rfl rfl (lr _) rfl rfl ?_
   refine dr_no rfl rfl (lr _) rfl rfl ?_
   refine dr_no rfl rfl (lr _) rfl rfl ?_
   refine dr_no rfl rfl (lr _) rfl rfl ?_
   refine dr_no rfl rfl (lr _) rfl rfl ?_
   refine dr_no rfl rfl (less_b g2) rfl rfl ?_
   refine dr_ev rfl (ev_pickT (v := .raw _) (less_b g2) (lr _)) ?_
   refine dr_ev rfl (ev_mv (v := .raw _) (lr _)) ?_
   refine dr_no rfl rfl (lr _) rfl rfl ?_
   refine dr_no rfl rfl (lr _) rfl rfl ?_
   refine dr_no rfl rfl (lr _) rfl rfl ?_
   refine dr_no rfl rfl (lr _) rfl rfl ?_
   refine dr_ev rfl (ev_pickT (v := .raw _) (lr _) (lr _)) ?_
   refine dr_ev rfl (ev_mv (v := .raw _) (lr _)) ?_
   refine dr_no rfl rfl (lr _) rfl rfl ?_
   refine dr_no rfl rfl (lr _) rfl rfl ?_
   refine dr_no rfl rfl (lr _) rfl rfl ?_
   refine dr_no rfl rfl (lr _) rfl rfl ?_
   refine dr_no rfl rfl (lr _) rfl rfl ?_
   refine dr_no rfl rfl (lr _) rfl rfl ?_
   refine dr_ev rfl (ev_pickT (v := .raw _) (lr _) (lr _)) ?_
   refine dr_ev rfl (ev_mv (v := .raw _) (lr _)) ?_
   refine dr_no rfl rfl (lr _) rfl rfl ?_
   refine dr_no rfl rfl (lr _) rfl rfl ?_
   refine dr_no rfl rfl (lr _) rfl rfl ?_
   refine dr_no rfl rfl (lr _) rfl rfl ?_
   refine dr_no rfl rfl (lr _) rfl rfl ?_
   refine dr_no rfl rfl (lr _) rfl rfl ?_
   refine dr_no rfl rfl (lr _) rfl rfl ?_
   refine dr_no rfl rfl (lr _) rfl rfl ?_
   refine dr_ev rfl (ev_pickT (v := .raw _) (lr _) (lr _)) ?_
   refine dr_ev rfl (ev_mv (v := .raw _) (lr _)) ?_
   refine dr_no rfl rfl (lr _) rfl rfl ?_
   refine dr_no rfl rfl (lr _) rfl rfl ?_
   refine dr_no rfl rfl (lr _) rfl rfl ?_
   refine dr_no rfl rfl (lr _) rfl rfl ?_
   refine dr_ev rfl (ev_pickT (v := .raw _) (lr _) (lr _)) ?_
   refine dr_end (sq_nil ?_)
   refine aw_true (lr _) ?_
   refine aw_seq (aw_region ?_)
   refine asr (lr _) rfl ?_
   refine sq_nil (aw_ret ?_)
   exact retQ_pure (v := .raw _) rfl rfl (Less.eq (by rw [scOK_bad (i := k) (by omega) (by simp [scBad, *])]))
  ·
   have g2' := g2
   try simp only [qq] at g2'
   refine dr_yes rfl rfl (less_b g2) rfl (ev_mv (v := .raw _) (lr _)) ?_
   refine dr_yes rfl rfl (less_b g2) rfl (ev_gtr (lr _) (lr _)) ?_
   refine dr_yes rfl rfl (less_b g2) rfl (ev_mv (v := .raw _) (lr _)) ?_
   refine dr_split 25 (lr _) (fun g3 => ?_) (fun g3 => ?_)
   ·
    have g3' := g3
    try simp only [qq] at g3'
    have g3n : 0 < k := by omega
    refine dr_yes rfl rfl (less_b g3) rfl (ev_fieldAddr fo84_0 (lr _)) ?_
    refine dr_yes rfl rfl (less_b g3) rfl (ev_load (lr _) rfl ty3 rfl) ?_
    refine dr_yes rfl rfl (less_b g3) rfl (ev_fieldAddr fo27_3 (lr _)) ?_
    refine dr_yes rfl rfl (less_b g3) rfl (ev_load (lr _) rfl ty25 rfl) ?_
    refine dr_yes rfl rfl (less_b g3) rfl (ev_mv (v := .raw _) (lr _)) ?_
    refine dr_yes rfl rfl (less_b g3) rfl (ev_sub (lr _) (lr _) (wr (by omega) (by omega))) ?_
    refine dr_yes rfl rfl (less_b g3) rfl (ev_index_map sl25 (lr _) (lr _) (show ((k : Int) - 1) = ((k - 1 : Nat) : Int) by omega) (by omega)) ?_
    refine dr_yes rfl rfl (less_b g3) rfl (ev_fieldAddr_i fo84_0 (lr _)) ?_
    refine dr_yes rfl rfl (less_b g3) rfl (ev_load_i (lr _) ty3 rfl) ?_
    refine dr_yes rfl rfl (less_b g3) rfl (ev_lss (lr _) (lr _)) ?_
    refine dr_yes rfl rfl (less_b g2) rfl (ev_pickT (v := .raw _) (less_b g3) (lr _)) ?_
    refine dr_ev rfl (ev_pickF (v := .raw _) (less_b g2) (lr _)) ?_
    refine dr_ev rfl (ev_mv (v := .raw _) (lr _)) ?_
    refine dr_split 38 (lr _) (fun g4 => ?_) (fun g4 => ?_)
    ·
     have g4' := g4
     try simp only [qq] at g4'
     refine dr_no rfl rfl (less_b g4) rfl rfl ?_
     refine dr_no rfl rfl (less_b g4) rfl rfl ?_
     refine dr_no rfl rfl (less_b g4) rfl rfl ?_
     refine dr_no rfl rfl (less_b g4) rfl rfl ?_
     refine dr_ev rfl (ev_pickT (v := .raw _) (less_b g4) (lr _)) ?_
     refine dr_ev rfl (ev_mv (v := .raw _) (lr _)) ?_
     refine dr_no rfl rfl (lr _) rfl rfl ?_
     refine dr_no rfl rfl (lr _) rfl rfl ?_
     refine dr_no rfl rfl (lr _) rfl rfl ?_
     refine dr_no rfl rfl (lr _) rfl rfl ?_
     refine dr_no rfl rfl (lr _) rfl rfl ?_
     refine dr_no rfl rfl (lr _) rfl rfl ?_
     refine dr_ev rfl (ev_pickT (v := .raw _) (lr _) (lr _)) ?_
     refine dr_ev rfl (ev_mv (v := .raw _) (lr _)) ?_
     refine dr_no rfl rfl (lr _) rfl rfl ?_
     refine dr_no rfl rfl (lr _) rfl rfl ?_
     refine dr_no rfl rfl (lr _) rfl rfl ?_
     refine dr_no rfl rfl (lr _) rfl rfl ?_
     refine dr_no rfl rfl (lr _) rfl rfl ?_
     refine dr_no rfl rfl (lr _) rfl rfl ?_
     refine dr_no rfl rfl (lr _) rfl rfl ?_
     refine dr_no rfl rfl (lr _) rfl rfl ?_
     refine dr_ev rfl (ev_pickT (v := .raw _) (lr _) (lr _)) ?_
     refine dr_ev rfl (ev_mv (v := .raw _) (lr _)) ?_
     refine dr_no rfl rfl (lr _) rfl rfl ?_
     refine dr_no rfl rfl (lr _) rfl rfl ?_
     refine dr_no rfl rfl (lr _) rfl rfl ?_
     refine dr_no rfl rfl (lr _) rfl rfl ?_
     refine dr_ev rfl (ev_pickT (v := .raw _) (lr _) (lr _)) ?_
     refine dr_end (sq_nil ?_)
     refine aw_true (lr _) ?_
     refine aw_seq (aw_region ?_)
     refine asr (lr _) rfl ?_
     refine sq_nil (aw_ret ?_)
     exact retQ_pure (v := .raw _) rfl rfl (Less.eq (by rw [scOK_bad (i := k) (by omega) (by simp [scBad, *])]))
    ·
     have g4' := g4
     try simp only [qq] at g4'
     refine dr_yes rfl rfl (less_b g4) rfl (ev_fieldAddr fo84_1 (lr _)) ?_
     refine dr_yes rfl rfl (less_b g4) rfl (ev_load (lr _) rfl ty3 rfl) ?_
     refine dr_yes rfl rfl (less_b g4) rfl (ev_call en89 (lr _) (in_pure _ _ _) ⟨lr _, lr _, lr _, trivial⟩) ?_
     refine dr_yes rfl rfl (less_b g4) rfl (ev_not (lr _)) ?_
     refine dr_ev rfl (ev_pickF (v := .raw _) (less_b g4) (lr _)) ?_
     refine dr_ev rfl (ev_mv (v := .raw _) (lr _)) ?_
     refine dr_split 44 (lr _) (fun g5 => ?_) (fun g5 => ?_)
     ·
      have g5' := g5
      try simp only [qq] at g5'
      refine dr_no rfl rfl (less_b g5) rfl rfl ?_
      refine dr_no rfl rfl (less_b g5) rfl rfl ?_
      refine dr_no rfl rfl (less_b g5) rfl rfl ?_
      refine dr_no rfl rfl (less_b g5) rfl rfl ?_
      refine dr_no rfl rfl (less_b g5) rfl rfl ?_
      refine dr_no rfl rfl (less_b g5) rfl rfl ?_
      refine dr_ev rfl (ev_pickT (v := .raw _) (less_b g5) (lr _)) ?_
      refine dr_ev rfl (ev_mv (v := .raw _) (lr _)) ?_
      refine dr_no rfl rfl (lr _) rfl rfl ?_
      refine dr_no rfl rfl (lr _) rfl rfl ?_
      refine dr_no rfl rfl (lr _) rfl rfl ?_
      refine dr_no rfl rfl (lr _) rfl rfl ?_
      refine dr_no rfl rfl (lr _) rfl rfl ?_
      refine dr_no rfl rfl (lr _) rfl rfl ?_
      refine dr_no rfl rfl (lr _) rfl rfl ?_
      refine dr_no rfl rfl (lr _) rfl rfl ?_
      refine dr_ev rfl (ev_pickT (v := .raw _) (lr _) (lr _)) ?_
      refine dr_ev rfl (ev_mv (v := .raw _) (lr _)) ?_
      refine dr_no rfl rfl (lr _) rfl rfl ?_
      refine dr_no rfl rfl (lr _) rfl rfl ?_
      refine dr_no rfl rfl (lr _) rfl rfl ?_
      refine dr_no rfl rfl (lr _) rfl rfl ?_
      refine dr_ev rfl (ev_pickT (v := .raw _) (lr _) (lr _)) ?_
      refine dr_end (sq_nil ?_)
      refine aw_true (lr _) ?_
      refine aw_seq (aw_region ?_)
      refine asr (lr _) rfl ?_
      refine sq_nil (aw_ret ?_)
      exact retQ_pure (v := .raw _) rfl rfl (Less.eq (by rw [scOK_bad (i := k) (by omega) (by simp [scBad, *])]))
     ·
      have g5' := g5
      try simp only [qq] at g5'
      refine dr_yes rfl rfl (less_b g5) rfl (ev_fieldAddr fo84_2 (lr _)) ?_
      refine dr_yes rfl rfl (less_b g5) rfl (ev_load (lr _) rfl ty3 rfl) ?_
      refine dr_yes rfl rfl (less_b g5) rfl (ev_fieldAddr fo84_1 (lr _)) ?_
      refine dr_yes rfl rfl (less_b g5) rfl (ev_load (lr _) rfl ty3 rfl) ?_
      refine dr_yes rfl rfl (less_b g5) rfl (ev_call en89 (lr _) (in_pure _ _ _) ⟨lr _, lr _, lr _, trivial⟩) ?_
      refine dr_yes rfl rfl (less_b g5) rfl (ev_not (lr _)) ?_
      refine dr_ev rfl (ev_pickF (v := .raw _) (less_b g5) (lr _)) ?_
      refine dr_ev rfl (ev_mv (v := .raw _) (lr _)) ?_
      refine dr_split 52 (lr _) (fun g6 => ?_) (fun g6 => ?_)
      ·
       have g6' := g6
       try simp only [qq] at g6'
       refine dr_no rfl rfl (less_b g6) rfl rfl ?_
       refine dr_no rfl rfl (less_b g6) rfl rfl ?_
       refine dr_no rfl rfl (less_b g6) rfl rfl ?_
       refine dr_no rfl rfl (less_b g6) rfl rfl ?_
       refine dr_no rfl rfl (less_b g6) rfl rfl ?_
       refine dr_no rfl rfl (less_b g6) rfl rfl ?_
       refine dr_no rfl rfl (less_b g6) rfl rfl ?_
       refine dr_no rfl rfl (less_b g6) rfl rfl ?_
       refine dr_ev rfl (ev_pickT (v := .raw _) (less_b g6) (lr _)) ?_
       refine dr_ev rfl (ev_mv (v := .raw _) (lr _)) ?_
       refine dr_no rfl rfl (lr _) rfl rfl ?_
       refine dr_no rfl rfl (lr _) rfl rfl ?_
       refine dr_no rfl rfl (lr _) rfl rfl ?_
       refine dr_no rfl rfl (lr _) rfl rfl ?_
       refine dr_ev rfl (ev_pickT (v := .raw _) (lr _) (lr _)) ?_
       refine dr_end (sq_nil ?_)
       refine aw_true (lr _) ?_
       refine aw_seq (aw_region ?_)
       refine asr (lr _) rfl ?_
       refine sq_nil (aw_ret ?_)
       exact retQ_pure (v := .raw _) rfl rfl (Less.eq (by rw [scOK_bad (i := k) (by omega) (by simp [scBad, *])]))
      ·
       have g6' := g6
       try simp only [qq] at g6'
       refine dr_yes rfl rfl (less_b g6) rfl (ev_fieldAddr fo84_4 (lr _)) ?_
       refine dr_yes rfl rfl (less_b g6) rfl (ev_load (lr _) rfl ty3 rfl) ?_
       refine dr_yes rfl rfl (less_b g6) rfl (ev_fieldAddr fo27_3 (lr _)) ?_
       refine dr_yes rfl rfl (less_b g6) rfl (ev_load (lr _) rfl ty25 rfl) ?_
       refine dr_yes rfl rfl (less_b g6) rfl (ev_len_map sl25 (lr _)) ?_
       refine dr_yes rfl rfl (less_b g6) rfl (ev_sub (lr _) (lr _) (wr (by omega) (by omega))) ?_
       refine dr_yes rfl rfl (less_b g6) rfl (ev_call en89 (lr _) (in_pure _ _ _) ⟨lr _, lr _, lr _, trivial⟩) ?_
       refine dr_yes rfl rfl (less_b g6) rfl (ev_not (lr _)) ?_
       refine dr_ev rfl (ev_pickF (v := .raw _) (less_b g6) (lr _)) ?_
       refine dr_ev rfl (ev_mv (v := .raw _) (lr _)) ?_
       refine dr_split 62 (lr _) (fun g7 => ?_) (fun g7 => ?_)
       ·
        have g7' := g7
        try simp only [qq] at g7'
        refine dr_no rfl rfl (less_b g7) rfl rfl ?_
        refine dr_no rfl rfl (less_b g7) rfl rfl ?_
        refine dr_no rfl rfl (less_b g7) rfl rfl ?_
        refine dr_no rfl rfl (less_b g7) rfl rfl ?_
        refine dr_ev rfl (ev_pickT (v := .raw _) (less_b g7) (lr _)) ?_
        refine dr_end (sq_nil ?_)
        refine aw_true (lr _) ?_
        refine aw_seq (aw_region ?_)
        refine asr (lr _) rfl ?_
        refine sq_nil (aw_ret ?_)
        exact retQ_pure (v := .raw _) rfl rfl (Less.eq (by rw [scOK_bad (i := k) (by omega) (by simp [scBad, *])]))
       ·
        have g7' := g7
        try simp only [qq] at g7'
        refine dr_yes rfl rfl (less_b g7) rfl (ev_fieldAddr fo84_4 (lr _)) ?_
        refine dr_yes rfl rfl (less_b g7) rfl (ev_load (lr _) rfl ty3 rfl) ?_
        refine dr_yes rfl rfl (less_b g7) rfl (ev_mv (v := .raw _) (lr _)) ?_
        refine dr_yes rfl rfl (less_b g7) rfl (ev_eql (lr _) (lr _)) ?_
        refine dr_ev rfl (ev_pickF (v := .raw _) (less_b g7) (lr _)) ?_
        refine dr_end (sq_nil ?_)
        refine aw_cond (lr _) (fun c8 => ?_) (fun c8 => ?_)
        ·
         have c8' := c8
         try simp only [qq] at c8'
         refine aw_seq (aw_region ?_)
         refine asr (lr _) rfl ?_
         refine sq_nil (aw_ret ?_)
         exact retQ_pure (v := .raw _) rfl rfl (Less.eq (by rw [scOK_bad (i := k) (by omega) (by simp [scBad, *])]))
        ·
         have c8' := c8
         try simp only [qq] at c8'
         refine aw_skip (aw_seq (aw_region ?_))
         refine sq_ev rfl (ev_fieldAddr fo84_3 (lr _)) ?_
         refine sq_ev rfl (ev_load (lr _) rfl ty4 rfl) ?_
         refine sq_nil ?_
         refine aw_cond (lr _) (fun c9 => ?_) (fun c9 => ?_)
         ·
          have c9' := c9
          try simp only [qq] at c9'
          refine aw_region ?_
          refine mvr (lr _) rfl ?_
          refine sq_ev rfl (ev_add (lr _) (lr _) (wr (by omega) (by omega))) ?_
          refine asr (lr _) rfl ?_
          refine sq_nil (aw_region ?_)
          refine mvr (lr _) rfl ?_
          refine sq_ev rfl (ev_add (lr _) (lr _) (wr (by omega) (by omega))) ?_
          refine asr (lr _) rfl ?_
          refine sq_nil ?_
          have hstep := loosies_take (l := p.scenes) (k := k) (by omega)
          have hgood : scBad p.scenes k (by omega) = false := by simp [scBad, *]
          exact ⟨⟨k + 1, by omega, fun i h hi => (by by_cases e : i = k; (subst e; exact hgood); exact hok i h (by omega))⟩, by simp only; omega, Sub.fin 1 ⟨less_int (by rw [hstep]; simp [*]), lr _, lr _, trivial⟩ rfl (by simp [slotsIn, objsIn, sget, keepS, AObj.inB, AV.inB, AV.inL, AV.inE, inE_map]) (by simp [slotsIn, objsIn, sget, keepS, AObj.inB, AV.inB, AV.inL, AV.inE, inE_map]) (by simp [he0])⟩
         ·
          have c9' := c9
          try simp only [qq] at c9'
          refine aw_skip (aw_region ?_)
          refine mvr (lr _) rfl ?_
          refine sq_ev rfl (ev_add (lr _) (lr _) (wr (by omega) (by omega))) ?_
          refine asr (lr _) rfl ?_
          refine sq_nil ?_
          have hstep := loosies_take (l := p.scenes) (k := k) (by omega)
          have hgood : scBad p.scenes k (by omega) = false := by simp [scBad, *]
          exact ⟨⟨k + 1, by omega, fun i h hi => (by by_cases e : i = k; (subst e; exact hgood); exact hok i h (by omega))⟩, by simp only; omega, Sub.fin 1 ⟨less_int (by rw [hstep]; simp [*]), lr _, lr _, trivial⟩ rfl (by simp [slotsIn, objsIn, sget, keepS, AObj.inB, AV.inB, AV.inL, AV.inE, inE_map]) (by simp [slotsIn, objsIn, sget, keepS, AObj.inB, AV.inB, AV.inL, AV.inE, inE_map]) (by simp [he0])⟩
   ·
    have g3' := g3
    try simp only [qq] at g3'
    have g3n : ¬ (0 < k) := by omega
    refine dr_no rfl rfl (less_b g3) rfl rfl ?_
    refine dr_no rfl rfl (less_b g3) rfl rfl ?_
    refine dr_no rfl rfl (less_b g3) rfl rfl ?_
    refine dr_no rfl rfl (less_b g3) rfl rfl ?_
    refine dr_no rfl rfl (less_b g3) rfl rfl ?_
    refine dr_no rfl rfl (less_b g3) rfl rfl ?_
    refine dr_no rfl rfl (less_b g3) rfl rfl ?_
    refine dr_no rfl rfl (less_b g3) rfl rfl ?_
    refine dr_no rfl rfl (less_b g3) rfl rfl ?_
    refine dr_no rfl rfl (less_b g3) rfl rfl ?_
    refine dr_yes rfl rfl (less_b g2) rfl (ev_pickF (v := .raw _) (less_b g3) (lr _)) ?_
    refine dr_ev rfl (ev_pickF (v := .raw _) (less_b g2) (lr _)) ?_
    refine dr_ev rfl (ev_mv (v := .raw _) (lr _)) ?_
    refine dr_yes rfl rfl (lr _) rfl (ev_fieldAddr fo84_1 (lr _)) ?_
    refine dr_yes rfl rfl (lr _) rfl (ev_load (lr _) rfl ty3 rfl) ?_
    refine dr_yes rfl rfl (lr _) rfl (ev_call en89 (lr _) (in_pure _ _ _) ⟨lr _, lr _, lr _, trivial⟩) ?_
    refine dr_yes rfl rfl (lr _) rfl (ev_not (lr _)) ?_
    refine dr_ev rfl (ev_pickF (v := .raw _) (lr _) (lr _)) ?_
    refine dr_ev rfl (ev_mv (v := .raw _) (lr _)) ?_
    refine dr_split 44 (lr _) (fun g10 => ?_) (fun g10 => ?_)
    ·
     have g10' := g10
     try simp only [qq] at g10'
     refine dr_no rfl rfl (less_b g10) rfl rfl ?_
     refine dr_no rfl rfl (less_b g10) rfl rfl ?_
     refine dr_no rfl rfl (less_b g10) rfl rfl ?_
     refine dr_no rfl rfl (less_b g10) rfl rfl ?_
     refine dr_no rfl rfl (less_b g10) rfl rfl ?_
     refine dr_no rfl rfl (less_b g10) rfl rfl ?_
     refine dr_ev rfl (ev_pickT (v := .raw _) (less_b g10) (lr _)) ?_
     refine dr_ev rfl (ev_mv (v := .raw _) (lr _)) ?_
     refine dr_no rfl rfl (lr _) rfl rfl ?_
     refine dr_no rfl rfl (lr _) rfl rfl ?_
     refine dr_no rfl rfl (lr _) rfl rfl ?_
     refine dr_no rfl rfl (lr _) rfl rfl ?_
     refine dr_no rfl rfl (lr _) rfl rfl ?_
     refine dr_no rfl rfl (lr _) rfl rfl ?_
     refine dr_no rfl rfl (lr _) rfl rfl ?_
     refine dr_no rfl rfl (lr _) rfl rfl ?_
     refine dr_ev rfl (ev_pickT (v := .raw _) (lr _) (lr _)) ?_
     refine dr_ev rfl (ev_mv (v := .raw _) (lr _)) ?_
     refine dr_no rfl rfl (lr _) rfl rfl ?_
     refine dr_no rfl rfl (lr _) rfl rfl ?_
     refine dr_no rfl rfl (lr _) rfl rfl ?_
     refine dr_no rfl rfl (lr _) rfl rfl ?_
     refine dr_ev rfl (ev_pickT (v := .raw _) (lr _) (lr _)) ?_
     refine dr_end (sq_nil ?_)
     refine aw_true (lr _) ?_
     refine aw_seq (aw_region ?_)
     refine asr (lr _) rfl ?_
     refine sq_nil (aw_ret ?_)
     exact retQ_pure (v := .raw _) rfl rfl (Less.eq (by rw [scOK_bad (i := k) (by omega) (by simp [scBad, *])]))
    ·
     have g10' := g10
     try simp only [qq] at g10'
     refine dr_yes rfl rfl (less_b g10) rfl (ev_fieldAddr fo84_2 (lr _)) ?_
     refine dr_yes rfl rfl (less_b g10) rfl (ev_load (lr _) rfl ty3 rfl) ?_
     refine dr_yes rfl rfl (less_b g10) rfl (ev_fieldAddr fo84_1 (lr _)) ?_
     refine dr_yes rfl rfl (less_b g10) rfl (ev_load (lr _) rfl ty3 rfl) ?_
     refine dr_yes rfl rfl (less_b g10) rfl (ev_call en89 (lr _) (in_pure _ _ _) ⟨lr _, lr _, lr _, trivial⟩) ?_
     refine dr_yes rfl rfl (less_b g10) rfl (ev_not (lr _)) ?_
     refine dr_ev rfl (ev_pickF (v := .raw _) (less_b g10) (lr _)) ?_
     refine dr_ev rfl (ev_mv (v := .raw _) (lr _)) ?_
     refine dr_split 52 (lr _) (fun g11 => ?_) (fun g11 => ?_)
     ·
      have g11' := g11
      try simp only [qq] at g11'
      refine dr_no rfl rfl (less_b g11) rfl rfl ?_
      refine dr_no rfl rfl (less_b g11) rfl rfl ?_
      refine dr_no rfl rfl (less_b g11) rfl rfl ?_
      refine dr_no rfl rfl (less_b g11) rfl rfl ?_
      refine dr_no rfl rfl (less_b g11) rfl rfl ?_
      refine dr_no rfl rfl (less_b g11) rfl rfl ?_
      refine dr_no rfl rfl (less_b g11) rfl rfl ?_
      refine dr_no rfl rfl (less_b g11) rfl rfl ?_
      refine dr_ev rfl (ev_pickT (v := .raw _) (less_b g11) (lr _)) ?_
      refine dr_ev rfl (ev_mv (v := .raw _) (lr _)) ?_
      refine dr_no rfl rfl (lr _) rfl rfl ?_
      refine dr_no rfl rfl (lr _) rfl rfl ?_
      refine dr_no rfl rfl (lr _) rfl rfl ?_
      refine dr_no rfl rfl (lr _) rfl rfl ?_
      refine dr_ev rfl (ev_pickT (v := .raw _) (lr _) (lr _)) ?_
      refine dr_end (sq_nil ?_)
      refine aw_true (lr _) ?_
      refine aw_seq (aw_region ?_)
      refine asr (lr _) rfl ?_
      refine sq_nil (aw_ret ?_)
      exact retQ_pure (v := .raw _) rfl rfl (Less.eq (by rw [scOK_bad (i := k) (by omega) (by simp [scBad, *])]))
     ·
      have g11' := g11
      try simp only [qq] at g11'
      refine dr_yes rfl rfl (less_b g11) rfl (ev_fieldAddr fo84_4 (lr _)) ?_
      refine dr_yes rfl rfl (less_b g11) rfl (ev_load (lr _) rfl ty3 rfl) ?_
      refine dr_yes rfl rfl (less_b g11) rfl (ev_fieldAddr fo27_3 (lr _)) ?_
      refine dr_yes rfl rfl (less_b g11) rfl (ev_load (lr _) rfl ty25 rfl) ?_
      refine dr_yes rfl rfl (less_b g11) rfl (ev_len_map sl25 (lr _)) ?_
      refine dr_yes rfl rfl (less_b g11) rfl (ev_sub (lr _) (lr _) (wr (by omega) (by omega))) ?_
      refine dr_yes rfl rfl (less_b g11) rfl (ev_call en89 (lr _) (in_pure _ _ _) ⟨lr _, lr _, lr _, trivial⟩) ?_
      refine dr_yes rfl rfl (less_b g11) rfl (ev_not (lr _)) ?_
      refine dr_ev rfl (ev_pickF (v := .raw _) (less_b g11) (lr _)) ?_
      refine dr_ev rfl (ev_mv (v := .raw _) (lr _)) ?_
      refine dr_split 62 (lr _) (fun g12 => ?_) (fun g12 => ?_)
      ·
       have g12' := g12
       try simp only [qq] at g12'
       refine dr_no rfl rfl (less_b g12) rfl rfl ?_
       refine dr_no rfl rfl (less_b g12) rfl rfl ?_
       refine dr_no rfl rfl (less_b g12) rfl rfl ?_
       refine dr_no rfl rfl (less_b g12) rfl rfl ?_
       refine dr_ev rfl (ev_pickT (v := .raw _) (less_b g12) (lr _)) ?_
       refine dr_end (sq_nil ?_)
       refine aw_true (lr _) ?_
       refine aw_seq (aw_region ?_)
       refine asr (lr _) rfl ?_
       refine sq_nil (aw_ret ?_)
       exact retQ_pure (v := .raw _) rfl rfl (Less.eq (by rw [scOK_bad (i := k) (by omega) (by simp [scBad, *])]))
      ·
       have g12' := g12
       try simp only [qq] at g12'
       refine dr_yes rfl rfl (less_b g12) rfl (ev_fieldAddr fo84_4 (lr _)) ?_
       refine dr_yes rfl rfl (less_b g12) rfl (ev_load (lr _) rfl ty3 rfl) ?_
       refine dr_yes rfl rfl (less_b g12) rfl (ev_mv (v := .raw _) (lr _)) ?_
       refine dr_yes rfl rfl (less_b g12) rfl (ev_eql (lr _) (lr _)) ?_
       refine dr_ev rfl (ev_pickF (v := .raw _) (less_b g12) (lr _)) ?_
       refine dr_end (sq_nil ?_)
       refine aw_cond (lr _) (fun c13 => ?_) (fun c13 => ?_)
       ·
        have c13' := c13
        try simp only [qq] at c13'
        refine aw_seq (aw_region ?_)
        refine asr (lr _) rfl ?_
        refine sq_nil (aw_ret ?_)
        exact retQ_pure (v := .raw _) rfl rfl (Less.eq (by rw [scOK_bad (i := k) (by omega) (by simp [scBad, *])]))
       ·
        have c13' := c13
        try simp only [qq] at c13'
        refine aw_skip (aw_seq (aw_region ?_))
        refine sq_ev rfl (ev_fieldAddr fo84_3 (lr _)) ?_
        refine sq_ev rfl (ev_load (lr _) rfl ty4 rfl) ?_
        refine sq_nil ?_
        refine aw_cond (lr _) (fun c14 => ?_) (fun c14 => ?_)
        ·
         have c14' := c14
         try simp only [qq] at c14'
         refine aw_region ?_
         refine mvr (lr _) rfl ?_
         refine sq_ev rfl (ev_add (lr _) (lr _) (wr (by omega) (by omega))) ?_
         refine asr (lr _) rfl ?_
         refine sq_nil (aw_region ?_)
         refine mvr (lr _) rfl ?_
         refine sq_ev rfl (ev_add (lr _) (lr _) (wr (by omega) (by omega))) ?_
         refine asr (lr _) rfl ?_
         refine sq_nil ?_
         have hstep := loosies_take (l := p.scenes) (k := k) (by omega)
         have hgood : scBad p.scenes k (by omega) = false := by simp [scBad, *]
         exact ⟨⟨k + 1, by omega, fun i h hi => (by by_cases e : i = k; (subst e; exact hgood); exact hok i h (by omega))⟩, by simp only; omega, Sub.fin 1 ⟨less_int (by rw [hstep]; simp [*]), lr _, lr _, trivial⟩ rfl (by simp [slotsIn, objsIn, sget, keepS, AObj.inB, AV.inB, AV.inL, AV.inE, inE_map]) (by simp [slotsIn, objsIn, sget, keepS, AObj.inB, AV.inB, AV.inL, AV.inE, inE_map]) (by simp [he0])⟩
        ·
         have c14' := c14
         try simp only [qq] at c14'
         refine aw_skip (aw_region ?_)
         refine mvr (lr _) rfl ?_
         refine sq_ev rfl (ev_add (lr _) (lr _) (wr (by omega) (by omega))) ?_
         refine asr (lr _) rfl ?_
         refine sq_nil ?_
         have hstep := loosies_take (l := p.scenes) (k := k) (by omega)
         have hgood : scBad p.scenes k (by omega) = false := by simp [scBad, *]
         exact ⟨⟨k + 1, by omega, fun i h hi => (by by_cases e : i = k; (subst e; exact hgood); exact hok i h (by omega))⟩, by simp only; omega, Sub.fin 1 ⟨less_int (by rw [hstep]; simp [*]), lr _, lr _, trivial⟩ rfl (by simp [slotsIn, objsIn, sget, keepS, AObj.inB, AV.inB, AV.inL, AV.inE, inE_map]) (by simp [slotsIn, objsIn, sget, keepS, AObj.inB, AV.inB, AV.inL, AV.inE, inE_map]) (by simp [he0])⟩
 ·
  have c1' := c1
  try simp only [qq] at c1'
  refine aw_exit (aw_seq (aw_region ?_))
  refine mvr (lr _) rfl ?_
  refine sq_ev rfl (ev_leq (lr _) (lr _)) ?_
  refine asr (lr _) rfl ?_
  refine sq_nil (aw_ret ?_)
  exact retQ_pure (v := .raw _) rfl rfl (Less.eq (by rw [scOK_end hk c1' hok]))

set_option maxHeartbeats 1000000 in
/-- kelir/kelirref03.Plan -/
theorem plan_pure (p : Pl) (hl : p.scenes.length ≤ 1000000) : APure Tryz.prog 24 [plan p] (B (PlOK p)) := by
 refine apure_of (rs := [.tmp 2]) Tryz.func24 rfl rfl (Nat.le_of_ble_eq_true rfl) (by simp [AV.pureL, AV.pureB, AV.pureE, pureE_map]) (rfl) fun e0 he0 => ?_
 refine aw_seq (aw_region ?_)
 refine sq_box rfl (lr _) rfl ?_
 refine asr (lr _) rfl ?_
 refine sq_nil (aw_seq (aw_region ?_))
 refine sq_ev rfl (ev_fieldAddr fo27_0 (lr _)) ?_
 refine sq_ev rfl (ev_load (lr _) rfl ty3 rfl) ?_
 refine sq_ev rfl (ev_call en89 (lr _) (in_pure _ _ _) ⟨lr _, lr _, lr _, trivial⟩) ?_
 refine mvr (lr _) rfl ?_
 refine sq_split 6 (lr _) (fun g1 => ?_) (fun g1 => ?_)
 ·
  have g1' := g1
  try simp only [qq] at g1'
  refine sq_yes rfl rfl (less_b g1) rfl (ev_fieldAddr fo27_1 (lr _)) ?_
  refine sq_yes rfl rfl (less_b g1) rfl (ev_index_box ar24 (lr _) (lr _) rfl (by decide)) ?_
  refine sq_yes rfl rfl (less_b g1) rfl (ev_load_agg (lr _) rfl ty23 rfl) ?_
  refine sq_yes rfl rfl (less_b g1) rfl (ev_call en90 (lr _) (window_pure _ _) ⟨lr _, trivial⟩) ?_
  refine sq_ev rfl (ev_pickT (v := .raw _) (less_b g1) (lr _)) ?_
  refine mvr (lr _) rfl ?_
  refine sq_split 12 (lr _) (fun g2 => ?_) (fun g2 => ?_)
  ·
   have g2' := g2
   try simp only [qq] at g2'
   refine sq_yes rfl rfl (less_b g2) rfl (ev_fieldAddr fo27_1 (lr _)) ?_
   refine sq_yes rfl rfl (less_b g2) rfl (ev_index_box ar24 (lr _) (lr _) rfl (by decide)) ?_
   refine sq_yes rfl rfl (less_b g2) rfl (ev_load_agg (lr _) rfl ty23 rfl) ?_
   refine sq_yes rfl rfl (less_b g2) rfl (ev_call en90 (lr _) (window_pure _ _) ⟨lr _, trivial⟩) ?_
   refine sq_ev rfl (ev_pickT (v := .raw _) (less_b g2) (lr _)) ?_
   refine mvr (lr _) rfl ?_
   refine sq_split 18 (lr _) (fun g3 => ?_) (fun g3 => ?_)
   ·
    have g3' := g3
    try simp only [qq] at g3'
    refine sq_yes rfl rfl (less_b g3) rfl (ev_fieldAddr fo27_2 (lr _)) ?_
    refine sq_yes rfl rfl (less_b g3) rfl (ev_load_agg (lr _) rfl ty23 rfl) ?_
    refine sq_yes rfl rfl (less_b g3) rfl (ev_call en90 (lr _) (window_pure _ _) ⟨lr _, trivial⟩) ?_
    refine sq_ev rfl (ev_pickT (v := .raw _) (less_b g3) (lr _)) ?_
    refine mvr (lr _) rfl ?_
    refine sq_split 23 (lr _) (fun g4 => ?_) (fun g4 => ?_)
    ·
     have g4' := g4
     try simp only [qq] at g4'
     refine sq_yes rfl rfl (less_b g4) rfl (ev_fieldAddr fo27_3 (lr _)) ?_
     refine sq_yes rfl rfl (less_b g4) rfl (ev_load (lr _) rfl ty25 rfl) ?_
     refine sq_yes rfl rfl (less_b g4) rfl (ev_len_map sl25 (lr _)) ?_
     refine sq_yes rfl rfl (less_b g4) rfl (ev_call en89 (lr _) (in_pure _ _ _) ⟨lr _, lr _, lr _, trivial⟩) ?_
     refine sq_ev rfl (ev_pickT (v := .raw _) (less_b g4) (lr _)) ?_
     refine mvr (lr _) rfl ?_
     refine sq_split 29 (lr _) (fun g5 => ?_) (fun g5 => ?_)
     ·
      have g5' := g5
      try simp only [qq] at g5'
      refine sq_yes rfl rfl (less_b g5) rfl (ev_load_agg (lr _) rfl ty27 rfl) ?_
      refine sq_yes rfl rfl (less_b g5) rfl (ev_call en91 (lr _) (scenes_pure _ hl) ⟨lr _, trivial⟩) ?_
      refine sq_ev rfl (ev_pickT (v := .raw _) (less_b g5) (lr _)) ?_
      refine asr (lr _) rfl ?_
      refine sq_nil (aw_ret ?_)
      exact retQ_pure (v := .raw _) rfl rfl (Less.eq (by simp [PlOK, *]))
     ·
      have g5' := g5
      try simp only [qq] at g5'
      refine sq_no rfl rfl (less_b g5) rfl rfl ?_
      refine sq_no rfl rfl (less_b g5) rfl rfl ?_
      refine sq_ev rfl (ev_pickF (v := .raw _) (less_b g5) (lr _)) ?_
      refine asr (lr _) rfl ?_
      refine sq_nil (aw_ret ?_)
      exact retQ_pure (v := .raw _) rfl rfl (Less.eq (by simp [PlOK, *]))
    ·
     have g4' := g4
     try simp only [qq] at g4'
     refine sq_no rfl rfl (less_b g4) rfl rfl ?_
     refine sq_no rfl rfl (less_b g4) rfl rfl ?_
     refine sq_no rfl rfl (less_b g4) rfl rfl ?_
     refine sq_no rfl rfl (less_b g4) rfl rfl ?_
     refine sq_ev rfl (ev_pickF (v := .raw _) (less_b g4) (lr _)) ?_
     refine mvr (lr _) rfl ?_
     refine sq_no rfl rfl (lr _) rfl rfl ?_
     refine sq_no rfl rfl (lr _) rfl rfl ?_
     refine sq_ev rfl (ev_pickF (v := .raw _) (lr _) (lr _)) ?_
     refine asr (lr _) rfl ?_
     refine sq_nil (aw_ret ?_)
     exact retQ_pure (v := .raw _) rfl rfl (Less.eq (by simp [PlOK, *]))
   ·
    have g3' := g3
    try simp only [qq] at g3'
    refine sq_no rfl rfl (less_b g3) rfl rfl ?_
    refine sq_no rfl rfl (less_b g3) rfl rfl ?_
    refine sq_no rfl rfl (less_b g3) rfl rfl ?_
    refine sq_ev rfl (ev_pickF (v := .raw _) (less_b g3) (lr _)) ?_
    refine mvr (lr _) rfl ?_
    refine sq_no rfl rfl (lr _) rfl rfl ?_
    refine sq_no rfl rfl (lr _) rfl rfl ?_
    refine sq_no rfl rfl (lr _) rfl rfl ?_
    refine sq_no rfl rfl (lr _) rfl rfl ?_
    refine sq_ev rfl (ev_pickF (v := .raw _) (lr _) (lr _)) ?_
    refine mvr (lr _) rfl ?_
    refine sq_no rfl rfl (lr _) rfl rfl ?_
    refine sq_no rfl rfl (lr _) rfl rfl ?_
    refine sq_ev rfl (ev_pickF (v := .raw _) (lr _) (lr _)) ?_
    refine asr (lr _) rfl ?_
    refine sq_nil (aw_ret ?_)
    exact retQ_pure (v := .raw _) rfl rfl (Less.eq (by simp [PlOK, *]))
  ·
   have g2' := g2
   try simp only [qq] at g2'
   refine sq_no rfl rfl (less_b g2) rfl rfl ?_
   refine sq_no rfl rfl (less_b g2) rfl rfl ?_
   refine sq_no rfl rfl (less_b g2) rfl rfl ?_
   refine sq_no rfl rfl (less_b g2) rfl rfl ?_
   refine sq_ev rfl (ev_pickF (v := .raw _) (less_b g2) (lr _)) ?_
   refine mvr (lr _) rfl ?_
   refine sq_no rfl rfl (lr _) rfl rfl ?_
   refine sq_no rfl rfl (lr _) rfl rfl ?_
   refine sq_no rfl rfl (lr _) rfl rfl ?_
   refine sq_ev rfl (ev_pickF (v := .raw _) (lr _) (lr _)) ?_
   refine mvr (lr _) rfl ?_
   refine sq_no rfl rfl (lr _) rfl rfl ?_
   refine sq_no rfl rfl (lr _) rfl rfl ?_
   refine sq_no rfl rfl (lr _) rfl rfl ?_
   refine sq_no rfl rfl (lr _) rfl rfl ?_
   refine sq_ev rfl (ev_pickF (v := .raw _) (lr _) (lr _)) ?_
   refine mvr (lr _) rfl ?_
   refine sq_no rfl rfl (lr _) rfl rfl ?_
   refine sq_no rfl rfl (lr _) rfl rfl ?_
   refine sq_ev rfl (ev_pickF (v := .raw _) (lr _) (lr _)) ?_
   refine asr (lr _) rfl ?_
   refine sq_nil (aw_ret ?_)
   exact retQ_pure (v := .raw _) rfl rfl (Less.eq (by simp [PlOK, *]))
 ·
  have g1' := g1
  try simp only [qq] at g1'
  refine sq_no rfl rfl (less_b g1) rfl rfl ?_
  refine sq_no rfl rfl (less_b g1) rfl rfl ?_
  refine sq_no rfl rfl (less_b g1) rfl rfl ?_
  refine sq_no rfl rfl (less_b g1) rfl rfl ?_
  refine sq_ev rfl (ev_pickF (v := .raw _) (less_b g1) (lr _)) ?_
  refine mvr (lr _) rfl ?_
  refine sq_no rfl rfl (lr _) rfl rfl ?_
  refine sq_no rfl rfl (lr _) rfl rfl ?_
  refine sq_no rfl rfl (lr _) rfl rfl ?_
  refine sq_no rfl rfl (lr _) rfl rfl ?_
  refine sq_ev rfl (ev_pickF (v := .raw _) (lr _) (lr _)) ?_
  refine mvr (lr _) rfl ?_
  refine sq_no rfl rfl (lr _) rfl rfl ?_
  refine sq_no rfl rfl (lr _) rfl rfl ?_
  refine sq_no rfl rfl (lr _) rfl rfl ?_
  refine sq_ev rfl (ev_pickF (v := .raw _) (lr _) (lr _)) ?_
  refine mvr (lr _) rfl ?_
  refine sq_no rfl rfl (lr _) rfl rfl ?_
  refine sq_no rfl rfl (lr _) rfl rfl ?_
  refine sq_no rfl rfl (lr _) rfl rfl ?_
  refine sq_no rfl rfl (lr _) rfl rfl ?_
  refine sq_ev rfl (ev_pickF (v := .raw _) (lr _) (lr _)) ?_
  refine mvr (lr _) rfl ?_
  refine sq_no rfl rfl (lr _) rfl rfl ?_
  refine sq_no rfl rfl (lr _) rfl rfl ?_
  refine sq_ev rfl (ev_pickF (v := .raw _) (lr _) (lr _)) ?_
  refine asr (lr _) rfl ?_
  refine sq_nil (aw_ret ?_)
  exact retQ_pure (v := .raw _) rfl rfl (Less.eq (by simp [PlOK, *]))

end Go.Proofs.YtjghdbdiejaacaaGreatDoor

namespace Go.Proofs.YtjghdbdiejaacaaGreatDoor
open Go Go.Ab Ni
section
variable {r : Option Nat} {H : List AObj} {ρ : Operand → AV} {d : Option Tmp} {t : TypeId} {p : String} {af : Array Edge} {g : Option (Nat × Bool)} {x y : Operand} {yt : TypeId} {a b c e : Int}
end
set_option maxHeartbeats 400000 in
/-- kelir/kelirref03.Narrow -/
theorem rnarrow0_pure (p : Pl) (a b : Int) : APure Tryz.prog 40 [plan p, I 0, .agg [I a, I b]] (plan (narP p 0 a b)) := by
 refine apure_of (rs := [.cell 6 27]) Tryz.func40 rfl rfl (Nat.le_of_ble_eq_true rfl) (by simp [AV.pureL, AV.pureB, AV.pureE, pureE_map]) (by simp [AV.pureL, AV.pureB, AV.pureE, pureE_map]) fun e0 he0 => ?_
 refine aw_seq (aw_region ?_)
 refine sq_box rfl (lr _) rfl ?_
 refine sq_box rfl (lr _) rfl ?_
 refine sq_alloc rfl z27 ?_
 refine sq_nil (aw_seq (aw_seq (aw_region ?_)))
 refine mvr (lr _) rfl ?_
 refine sq_ev rfl (ev_eql (lr _) (lr _)) ?_
 refine sq_nil ?_
 refine aw_cond (lr _) (fun c1 => ?_) (fun c1 => ?_)
 ·
  have c1' := c1
  try simp only [qq] at c1'
  cases c1
 ·
  have c1' := c1
  try simp only [qq] at c1'
  refine aw_region ?_
  refine mvr (lr _) rfl ?_
  refine sq_ev rfl (ev_load_agg (lr _) rfl ty23 rfl) ?_
  refine sq_ev rfl (ev_fieldAddr fo27_1 (lr _)) ?_
  refine sq_ev rfl (ev_index_box (k := 0) ar24 (lr _) (lr _) rfl (by decide)) ?_
  refine sq_store rfl (lr _) (lr _) rfl rfl ty23 rfl rfl ?_
  refine sq_nil (aw_seq (aw_region ?_))
  refine sq_ev rfl (ev_load_agg (lr _) rfl ty27 rfl) ?_
  refine sq_store rfl (lr _) (lr _) rfl rfl ty27 rfl rfl ?_
  refine sq_nil (aw_ret ?_)
  exact retQ_res (vs := [.agg _]) rfl rfl ⟨resVar_cell rfl rfl ty27 rfl, trivial⟩ (lr _)

set_option maxHeartbeats 400000 in
/-- kelir/kelirref03.Narrow -/
theorem rnarrow1_pure (p : Pl) (a b : Int) : APure Tryz.prog 40 [plan p, I 1, .agg [I a, I b]] (plan (narP p 1 a b)) := by
 refine apure_of (rs := [.cell 6 27]) Tryz.func40 rfl rfl (Nat.le_of_ble_eq_true rfl) (by simp [AV.pureL, AV.pureB, AV.pureE, pureE_map]) (by simp [AV.pureL, AV.pureB, AV.pureE, pureE_map]) fun e0 he0 => ?_
 refine aw_seq (aw_region ?_)
 refine sq_box rfl (lr _) rfl ?_
 refine sq_box rfl (lr _) rfl ?_
 refine sq_alloc rfl z27 ?_
 refine sq_nil (aw_seq (aw_seq (aw_region ?_)))
 refine mvr (lr _) rfl ?_
 refine sq_ev rfl (ev_eql (lr _) (lr _)) ?_
 refine sq_nil ?_
 refine aw_cond (lr _) (fun c1 => ?_) (fun c1 => ?_)
 ·
  have c1' := c1
  try simp only [qq] at c1'
  cases c1
 ·
  have c1' := c1
  try simp only [qq] at c1'
  refine aw_region ?_
  refine mvr (lr _) rfl ?_
  refine sq_ev rfl (ev_load_agg (lr _) rfl ty23 rfl) ?_
  refine sq_ev rfl (ev_fieldAddr fo27_1 (lr _)) ?_
  refine sq_ev rfl (ev_index_box (k := 1) ar24 (lr _) (lr _) rfl (by decide)) ?_
  refine sq_store rfl (lr _) (lr _) rfl rfl ty23 rfl rfl ?_
  refine sq_nil (aw_seq (aw_region ?_))
  refine sq_ev rfl (ev_load_agg (lr _) rfl ty27 rfl) ?_
  refine sq_store rfl (lr _) (lr _) rfl rfl ty27 rfl rfl ?_
  refine sq_nil (aw_ret ?_)
  exact retQ_res (vs := [.agg _]) rfl rfl ⟨resVar_cell rfl rfl ty27 rfl, trivial⟩ (lr _)

set_option maxHeartbeats 400000 in
/-- kelir/kelirlaw03.short -/
theorem rshort_pure (p : Pl) : APure Tryz.prog 20 [plan p] (B (decide (p.scenes.length ≤ 12))) := by
 refine apure_of (rs := [.tmp 2]) Tryz.func20 rfl rfl (Nat.le_of_ble_eq_true rfl) (by simp [AV.pureL, AV.pureB, AV.pureE, pureE_map]) (rfl) fun e0 he0 => ?_
 refine aw_seq (aw_region ?_)
 refine sq_box rfl (lr _) rfl ?_
 refine asr (lr _) rfl ?_
 refine sq_nil (aw_seq (aw_region ?_))
 refine sq_ev rfl (ev_fieldAddr fo27_3 (lr _)) ?_
 refine sq_ev rfl (ev_load (lr _) rfl ty25 rfl) ?_
 refine sq_ev rfl (ev_len_map sl25 (lr _)) ?_
 refine sq_ev rfl (ev_leq (lr _) (lr _)) ?_
 refine asr (lr _) rfl ?_
 refine sq_nil (aw_ret ?_)
 exact retQ_pure (v := .raw _) rfl rfl (Less.eq (by simp; omega))


end Go.Proofs.YtjghdbdiejaacaaGreatDoor

namespace Go.Proofs.YtjghdbdiejaacaaGreatDoor
open Go Go.Ab Ni
theorem en20 : Ent Tryz.prog 20 := Ent.of Tryz.func20 (by kernel_rfl) rfl
theorem en21 : Ent Tryz.prog 21 := Ent.of Tryz.func21 (by kernel_rfl) rfl
theorem en24 : Ent Tryz.prog 24 := Ent.of Tryz.func24 (by kernel_rfl) rfl
theorem short_no {p : Pl} (h : ¬ p.scenes.length ≤ 12) : APure Tryz.prog 20 [plan p] (B false) := by have := rshort_pure p; simpa [h] using this
theorem short_yes {p : Pl} (h : p.scenes.length ≤ 12) : APure Tryz.prog 20 [plan p] (B true) := by have := rshort_pure p; simpa [h] using this
theorem plan_no {p : Pl} (hs : p.scenes.length ≤ 12) (h : PlOK p = false) : APure Tryz.prog 24 [plan p] (B false) := by have := plan_pure p (by omega); rwa [h] at this
theorem plan_yes {p : Pl} (hs : p.scenes.length ≤ 12) (h : PlOK p = true) : APure Tryz.prog 24 [plan p] (B true) := by have := plan_pure p (by omega); rwa [h] at this
theorem ch_yes {p : Pl} (hs : p.scenes.length ≤ 12) (h : PlOK p = true) : APure Tryz.prog 22 [plan p] (.tup [natss (choicesC p), I 0]) := by have := nChoices_pure p (by omega); rwa [if_pos h] at this
end Go.Proofs.YtjghdbdiejaacaaGreatDoor

namespace Go.Proofs.YtjghdbdiejaacaaGreatDoor
open Go Go.Ab Ni
def askV (p : Pl) (b : Bool) : Int := if PlOK p = true ∧ b = true then (if 0 < (choicesC p).length then 0 else 7) else 2
end Go.Proofs.YtjghdbdiejaacaaGreatDoor

namespace Go.Proofs.YtjghdbdiejaacaaGreatDoor
open Go Go.Ab Ni
theorem en39 : Ent Tryz.prog 39 := Ent.of Tryz.func39 (by kernel_rfl) rfl
set_option maxHeartbeats 400000 in
/-- kelir/kelirref03.Window -/
theorem rwindow0_pure (p : Pl) : APure Tryz.prog 39 [plan p, I 0] (.agg (spanC (wl p 0) (wh p 0))) := by
  refine apure_of (rs := [.cell 4 23]) Tryz.func39 rfl rfl (Nat.le_of_ble_eq_true rfl) (by simp [AV.pureL, AV.pureB, AV.pureE, pureE_map]) (rfl) fun e0 he0 => ?_
  refine aw_seq (aw_region ?_)
  refine sq_box rfl (lr _) rfl ?_
  refine sq_alloc rfl z23 ?_
  refine sq_nil (aw_seq (aw_seq (aw_region ?_)))
  refine mvr (lr _) rfl ?_
  refine sq_ev rfl (ev_eql (lr _) (lr _)) ?_
  refine sq_nil ?_
  refine aw_cond (lr _) (fun c1 => ?_) (fun c1 => ?_)
  · skip
    have c1' := c1
    try simp only [qq] at c1'
    try exact absurd c1' (by decide)
  · skip
    have c1' := c1
    try simp only [qq] at c1'
    try exact absurd (by decide) c1'
    refine aw_skip (aw_seq (aw_region ?_))
    refine mvr (lr _) rfl ?_
    refine sq_ev rfl (ev_fieldAddr fo27_1 (lr _)) ?_
    refine sq_ev rfl (ev_index_box (k := 0) ar24 (lr _) (lr _) rfl (by decide)) ?_
    refine sq_ev rfl (ev_load_agg (lr _) rfl ty23 rfl) ?_
    refine sq_store rfl (lr _) (lr _) rfl rfl ty23 rfl rfl ?_
    refine sq_nil (aw_ret ?_)
    exact retQ_res (vs := [.agg _]) rfl rfl ⟨resVar_cell rfl rfl ty23 rfl, trivial⟩ (Less.eq (by simp [wl, wh]))

set_option maxHeartbeats 400000 in
/-- kelir/kelirref03.Window -/
theorem rwindow1_pure (p : Pl) : APure Tryz.prog 39 [plan p, I 1] (.agg (spanC (wl p 1) (wh p 1))) := by
 refine apure_of (rs := [.cell 4 23]) Tryz.func39 rfl rfl (Nat.le_of_ble_eq_true rfl) (by simp [AV.pureL, AV.pureB, AV.pureE, pureE_map]) (rfl) fun e0 he0 => ?_
 refine aw_seq (aw_region ?_)
 refine sq_box rfl (lr _) rfl ?_
 refine sq_alloc rfl z23 ?_
 refine sq_nil (aw_seq (aw_seq (aw_region ?_)))
 refine mvr (lr _) rfl ?_
 refine sq_ev rfl (ev_eql (lr _) (lr _)) ?_
 refine sq_nil ?_
 refine aw_cond (lr _) (fun c1 => ?_) (fun c1 => ?_)
 ·
  have c1' := c1
  try simp only [qq] at c1'
  try exact absurd c1' (by decide)
 ·
  have c1' := c1
  try simp only [qq] at c1'
  try exact absurd (by decide) c1'
  refine aw_skip (aw_seq (aw_region ?_))
  refine mvr (lr _) rfl ?_
  refine sq_ev rfl (ev_fieldAddr fo27_1 (lr _)) ?_
  refine sq_ev rfl (ev_index_box (k := 1) ar24 (lr _) (lr _) rfl (by decide)) ?_
  refine sq_ev rfl (ev_load_agg (lr _) rfl ty23 rfl) ?_
  refine sq_store rfl (lr _) (lr _) rfl rfl ty23 rfl rfl ?_
  refine sq_nil (aw_ret ?_)
  exact retQ_res (vs := [.agg _]) rfl rfl ⟨resVar_cell rfl rfl ty23 rfl, trivial⟩ (Less.eq (by simp [wl, wh]))

set_option maxHeartbeats 400000 in
/-- kelir/kelirref03.Window -/
theorem rwindow2_pure (p : Pl) : APure Tryz.prog 39 [plan p, I 2] (.agg (spanC (wl p 2) (wh p 2))) := by
 refine apure_of (rs := [.cell 4 23]) Tryz.func39 rfl rfl (Nat.le_of_ble_eq_true rfl) (by simp [AV.pureL, AV.pureB, AV.pureE, pureE_map]) (rfl) fun e0 he0 => ?_
 refine aw_seq (aw_region ?_)
 refine sq_box rfl (lr _) rfl ?_
 refine sq_alloc rfl z23 ?_
 refine sq_nil (aw_seq (aw_seq (aw_region ?_)))
 refine mvr (lr _) rfl ?_
 refine sq_ev rfl (ev_eql (lr _) (lr _)) ?_
 refine sq_nil ?_
 refine aw_cond (lr _) (fun c1 => ?_) (fun c1 => ?_)
 ·
  have c1' := c1
  try simp only [qq] at c1'
  try exact absurd c1' (by decide)
  refine aw_seq (aw_region ?_)
  refine sq_ev rfl (ev_fieldAddr fo27_2 (lr _)) ?_
  refine sq_ev rfl (ev_load_agg (lr _) rfl ty23 rfl) ?_
  refine sq_store rfl (lr _) (lr _) rfl rfl ty23 rfl rfl ?_
  refine sq_nil (aw_ret ?_)
  exact retQ_res (vs := [.agg _]) rfl rfl ⟨resVar_cell rfl rfl ty23 rfl, trivial⟩ (Less.eq (by simp [wl, wh]))
 ·
  have c1' := c1
  try simp only [qq] at c1'
  try exact absurd (by decide) c1'

theorem rwindow_pure (p : Pl) (k : Nat) (h : k < 3) : APure Tryz.prog 39 [plan p, I k] (.agg (spanC (wl p k) (wh p k))) := by
  rcases k with _ | _ | _ | k
  · exact rwindow0_pure p
  · exact rwindow1_pure p
  · exact rwindow2_pure p
  · omega

end Go.Proofs.YtjghdbdiejaacaaGreatDoor

namespace Go.Proofs.YtjghdbdiejaacaaGreatDoor
open Go Go.Ab Ni
theorem un4 : Tryz.prog.underlying 4 = some .bool := by kernel_rfl

end Go.Proofs.YtjghdbdiejaacaaGreatDoor

namespace Go.Proofs.YtjghdbdiejaacaaGreatDoor
open Go Go.Ab Ni


section
variable {p : Pl} {l : List Nat} {n k : Nat} (wp : WP p) (cv : CV p l) (inc : l.Pairwise (· < ·)) (hc : can p l = true) (hm : n ∈ l) (hk : (scn p n).part = (k : Int)) (hk3 : k < 3)
include wp cv inc hc hm hk hk3
end
theorem en_err {p : Pl} (hs : p.scenes.length ≤ 12) (h : ¬ askV p true = 0) : APure Tryz.prog 31 [plan p] (.tup [.sl 2 [], I (askV p true)]) := by
  have := nEnds_pure p (by omega); unfold endsAV at this; unfold askV at h ⊢
  by_cases hk : PlOK p = true
  · rw [if_pos hk] at this
    rw [if_pos ⟨hk, rfl⟩] at h ⊢
    by_cases hc : (choicesC p).length = 0
    · rw [if_pos hc] at this; rw [if_neg (by omega)]; exact this
    · rw [if_pos (by omega)] at h; exact absurd rfl h
  · rw [if_neg hk] at this; rw [if_neg (fun h => hk h.1)]; exact this
theorem en_ok {p : Pl} (hs : p.scenes.length ≤ 12) (hk : PlOK p = true) (hc : ¬ (choicesC p).length = 0) : APure Tryz.prog 31 [plan p] (.tup [spans (endsT p 3), I 0]) := by
  have := nEnds_pure p (by omega); unfold endsAV at this; rwa [if_pos hk, if_neg hc] at this
end Go.Proofs.YtjghdbdiejaacaaGreatDoor

namespace Go.Proofs.YtjghdbdiejaacaaGreatDoor
open Go Go.Ab Ni


section
variable {p : Pl} {l : List Nat} {ls : List Int}
theorem end_in (gp : GP p) (wp : WP p) (hl : l ∈ choicesC p) {h : Hr} (f : FitH p l h) {k : Nat} (hk : k < 3) : (endT p k (choicesC p).length).1 ≤ (prH p h k).2 ∧ (prH p h k).2 ≤ (endT p k (choicesC p).length).2 := by
  have cv := choicesC_mem gp l hl
  have hm := end_met wp cv (List.mem_filter.1 hl).2 hk
  have hh := (mem_hrsH wp cv).2 f
  have h1 := hm.lows h hh; have h2 := hm.highs h hh
  have hv : endV p k l ∈ (choicesC p).map (endV p k) := List.mem_map.2 ⟨l, hl, rfl⟩
  obtain ⟨_, g1, _, g2⟩ := wd_char (vs := (choicesC p).map (endV p k)) (List.ne_nil_of_mem hv)
  have q1 := g1 _ hv; have q2 := g2 _ hv
  unfold endT; rw [List.take_length]
  simp only at h1 h2
  omega
end
end Go.Proofs.YtjghdbdiejaacaaGreatDoor

namespace Go.Proofs.YtjghdbdiejaacaaGreatDoor
open Go Go.Ab Ni
theorem en38 : Ent Tryz.prog 38 := Ent.of Tryz.func38 (by kernel_rfl) rfl

theorem rnar_pure (p : Pl) (k : Nat) (hk : k < 3) (a b : Int) : APure Tryz.prog 40 [plan p, I k, .agg [I a, I b]] (plan (narP p k a b)) := by
  rcases k with _ | _ | _ | k
  · exact rnarrow0_pure p a b
  · exact rnarrow1_pure p a b
  · exact rnarrow2_pure p a b
  · omega
theorem nar_ok {p : Pl} (ok : PlOK p = true) (k : Nat) {a b : Int} (h : wnd a b = true) : PlOK (narP p k a b) = true := by
  unfold PlOK at ok ⊢
  simp only [Bool.and_eq_true] at ok ⊢
  obtain ⟨⟨⟨⟨⟨h1, h2⟩, h3⟩, h4⟩, h5⟩, h6⟩ := ok
  unfold narP
  split
  · exact ⟨⟨⟨⟨⟨h1, h⟩, h3⟩, h4⟩, h5⟩, h6⟩
  · split
    · exact ⟨⟨⟨⟨⟨h1, h2⟩, h⟩, h4⟩, h5⟩, h6⟩
    · exact ⟨⟨⟨⟨⟨h1, h2⟩, h3⟩, h⟩, h5⟩, h6⟩
theorem nar_all (p : Pl) (k : Nat) (a b : Int) : allC (narP p k a b) = allC p := by
  unfold narP; split
  · rfl
  · split <;> rfl
theorem fit_nar {p : Pl} {l : List Nat} {h : Hr} (f : FitH p l h) {k : Nat} (hk : k < 3) {a b : Int} (h1 : a ≤ (prH p h k).2) (h2 : (prH p h k).2 ≤ b) : FitH (narP p k a b) l h := by
  obtain ⟨g1, g2, g3, g4, g5, g6, g7, g8, g9, g10, g11, g12⟩ := f
  rcases k with _ | _ | _ | k
  · exact ⟨h1, h2, g3, g4, g5, g6, g7, g8, g9, g10, g11, g12⟩
  · exact ⟨g1, g2, h1, h2, g5, g6, g7, g8, g9, g10, g11, g12⟩
  · exact ⟨g1, g2, g3, g4, h1, h2, g7, g8, g9, g10, g11, g12⟩
  · omega
theorem nar_fit {p : Pl} {l : List Nat} {h : Hr} {k : Nat} (hk : k < 3) {a b : Int} (f : FitH (narP p k a b) l h) (h1 : wl p k ≤ a) (h2 : b ≤ wh p k) : FitH p l h ∧ a ≤ (prH p h k).2 ∧ (prH p h k).2 ≤ b := by
  obtain ⟨g1, g2, g3, g4, g5, g6, g7, g8, g9, g10, g11, g12⟩ := f
  rcases k with _ | _ | _ | k
  · exact ⟨⟨Int.le_trans h1 g1, Int.le_trans g2 h2, g3, g4, g5, g6, g7, g8, g9, g10, g11, g12⟩, g1, g2⟩
  · exact ⟨⟨g1, g2, Int.le_trans h1 g3, Int.le_trans g4 h2, g5, g6, g7, g8, g9, g10, g11, g12⟩, g3, g4⟩
  · exact ⟨⟨g1, g2, g3, g4, Int.le_trans h1 g5, Int.le_trans g6 h2, g7, g8, g9, g10, g11, g12⟩, g5, g6⟩
  · omega
theorem choices_iff {p : Pl} (gp : GP p) (wp : WP p) {l : List Nat} : l ∈ choicesC p ↔ l ∈ allC p ∧ ∃ h, FitH p l h := by
  unfold choicesC
  rw [List.mem_filter]
  constructor
  · rintro ⟨h1, h2⟩
    obtain ⟨a, b, c, f⟩ := (can_fit wp (allC_mem gp l h1)).1 h2
    exact ⟨h1, (a, b, c), f⟩
  · rintro ⟨h1, h, f⟩
    exact ⟨h1, (can_fit wp (allC_mem gp l h1)).2 ⟨_, _, _, f⟩⟩
theorem poss_iff {p : Pl} (gp : GP p) (wp : WP p) : 0 < (choicesC p).length ↔ ∃ l, l ∈ allC p ∧ ∃ h, FitH p l h := by
  rw [List.length_pos_iff_exists_mem]
  constructor
  · rintro ⟨l, hl⟩; exact ⟨l, (choices_iff gp wp).1 hl⟩
  · rintro ⟨l, hl⟩; exact ⟨l, (choices_iff gp wp).2 hl⟩
theorem en_att {p : Pl} (gp : GP p) (wp : WP p) (hc : ¬ (choicesC p).length = 0) {k : Nat} (hk : k < 3) : (∃ l ∈ choicesC p, ∃ h, FitH p l h ∧ (prH p h k).2 = (endT p k (choicesC p).length).1) ∧ ∃ l ∈ choicesC p, ∃ h, FitH p l h ∧ (prH p h k).2 = (endT p k (choicesC p).length).2 := by
  have hne : (choicesC p).map (endV p k) ≠ [] := fun e => hc (by have := congrArg List.length e; simpa using this)
  obtain ⟨⟨u, u1, u2⟩, _, ⟨w, w1, w2⟩, _⟩ := wd_char hne
  obtain ⟨l, hl, rfl⟩ := List.mem_map.1 u1
  obtain ⟨m, hm, rfl⟩ := List.mem_map.1 w1
  have e : endT p k (choicesC p).length = wd ((choicesC p).map (endV p k)) := by unfold endT; rw [List.take_length]
  rw [e]
  obtain ⟨h, hh, h2⟩ := (end_met wp (choicesC_mem gp l hl) (List.mem_filter.1 hl).2 hk).low
  obtain ⟨g, gg, g2⟩ := (end_met wp (choicesC_mem gp m hm) (List.mem_filter.1 hm).2 hk).high
  exact ⟨⟨l, hl, h, (mem_hrsH wp (choicesC_mem gp l hl)).1 hh, h2.trans u2⟩, ⟨m, hm, g, (mem_hrsH wp (choicesC_mem gp m hm)).1 gg, g2.trans w2⟩⟩
theorem win_in {p : Pl} {l : List Nat} {h : Hr} (f : FitH p l h) {k : Nat} (hk : k < 3) : wl p k ≤ (prH p h k).2 ∧ (prH p h k).2 ≤ wh p k := by
  obtain ⟨g1, g2, g3, g4, g5, g6, _⟩ := f
  rcases k with _ | _ | _ | k
  · exact ⟨g1, g2⟩
  · exact ⟨g3, g4⟩
  · exact ⟨g5, g6⟩
  · omega
theorem win_ok {p : Pl} (ok : PlOK p = true) {k : Nat} (hk : k < 3) {a b : Int} (h1 : wl p k ≤ a) (h2 : a ≤ b) (h3 : b ≤ wh p k) : wnd a b = true := by
  have key : wnd (wl p k) (wh p k) = true := by
    unfold PlOK at ok
    simp only [Bool.and_eq_true] at ok
    rcases k with _ | _ | _ | k
    · exact ok.1.1.1.1.2
    · exact ok.1.1.1.2
    · exact ok.1.1.2
    · omega
  simp only [wnd, inn, Bool.and_eq_true, decide_eq_true_eq] at key ⊢
  omega
set_option maxHeartbeats 4000000 in
/-- kelir/kelirlaw03.possible -/
theorem rposs_yes {p : Pl} (hs : p.scenes.length ≤ 12) (hk : PlOK p = true) : APure Tryz.prog 38 [plan p] (.tup [B (decide (0 < (choicesC p).length)), B true]) := by
 refine apure_of (rs := [.tmp 2, .tmp 3]) Tryz.func38 rfl rfl (Nat.le_of_ble_eq_true rfl) (by simp [AV.pureL, AV.pureB, AV.pureE, pureE_map]) (rfl) fun e0 he0 => ?_
 refine aw_seq (aw_region ?_)
 refine sq_box rfl (lr _) rfl ?_
 refine asr (lr _) rfl ?_
 refine asr (lr _) rfl ?_
 refine sq_nil (aw_seq (aw_region ?_))
 refine sq_ev rfl (ev_load_agg (lr _) rfl ty27 rfl) ?_
 refine sq_ev rfl (ev_call en22 (lr _) (ch_yes hs hk) ⟨lr _, trivial⟩) ?_
 refine sq_ev rfl (ev_mv (v := .tup _) (lr _)) ?_
 refine sq_ev rfl (ev_extract (lr _) rfl) ?_
 refine sq_ev rfl (ev_extract (lr _) rfl) ?_
 refine sq_ev rfl (ev_as (v := .sl _ _) (lr _)) ?_
 refine asr (lr _) rfl ?_
 refine sq_nil (aw_seq (aw_region ?_))
 refine sq_ev rfl (ev_mv (v := .sl _ _) (lr _)) ?_
 refine sq_ev rfl (ev_len_map sl30 (lr _)) ?_
 refine sq_ev rfl (ev_gtr (lr _) (lr _)) ?_
 refine mvr (lr _) rfl ?_
 refine sq_ev rfl (ev_eql (lr _) (lr _)) ?_
 refine asr (lr _) rfl ?_
 refine asr (lr _) rfl ?_
 refine sq_nil (aw_ret ?_)
 exact retQ_pure (v := .tup [.raw _, .raw _]) rfl rfl (Less.eq (by simp))

theorem poss_val {p : Pl} {b : Bool} (hs : p.scenes.length ≤ 12) (hk : PlOK p = true) (h : decide (0 < (choicesC p).length) = b) : APure Tryz.prog 38 [plan p] (.tup [B b, B true]) := by subst h; exact rposs_yes hs hk
theorem nar_len (p : Pl) (k : Nat) (a b : Int) : (narP p k a b).scenes.length = p.scenes.length := by
  unfold narP; split
  · rfl
  · split <;> rfl
theorem nar_yes {p : Pl} (hs : p.scenes.length ≤ 12) (ok : PlOK p = true) {k : Nat} (hk : k < 3) {z : Int} {l : List Nat} {h : Hr} (hl : l ∈ allC p) (f : FitH p l h) (e : (prH p h k).2 = z) : APure Tryz.prog 38 [plan (narP p k z z)] (.tup [B true, B true]) := by
  have hw := win_in f hk
  have ok2 := nar_ok ok k (win_ok ok hk (a := z) (b := z) (by omega) (Int.le_refl _) (by omega))
  obtain ⟨g2, w2⟩ := gp_of_ok ok2
  refine poss_val (by rw [nar_len]; exact hs) ok2 (decide_eq_true ((poss_iff g2 w2).2 ⟨l, by rw [nar_all]; exact hl, h, fit_nar f hk (by omega) (by omega)⟩))
theorem nar_no {p : Pl} (hs : p.scenes.length ≤ 12) (ok : PlOK p = true) {k : Nat} (hk : k < 3) {a b : Int} (h1 : wl p k ≤ a) (h2 : a ≤ b) (h3 : b ≤ wh p k) (hno : ∀ l ∈ choicesC p, ∀ h, FitH p l h → ¬ (a ≤ (prH p h k).2 ∧ (prH p h k).2 ≤ b)) : APure Tryz.prog 38 [plan (narP p k a b)] (.tup [B false, B true]) := by
  have ok2 := nar_ok ok k (win_ok ok hk h1 h2 h3)
  obtain ⟨g2, w2⟩ := gp_of_ok ok2
  obtain ⟨gp, wp⟩ := gp_of_ok ok
  refine poss_val (by rw [nar_len]; exact hs) ok2 (decide_eq_false fun hc => ?_)
  obtain ⟨l, hl, h, f⟩ := (poss_iff g2 w2).1 hc
  rw [nar_all] at hl
  obtain ⟨f1, f2⟩ := nar_fit hk f h1 h3
  exact hno l ((choices_iff gp wp).2 ⟨hl, h, f1⟩) h f1 f2
set_option maxHeartbeats 4000000 in
/-- kelir/kelirlaw03.NightEnds -/
theorem law5_long (p : Pl) (n : Int) (hs : ¬ p.scenes.length ≤ 12) : APure Tryz.prog 5 [plan p, I n] (B true) := by
  refine apure_of (rs := [.tmp 4]) Tryz.func5 rfl rfl (Nat.le_of_ble_eq_true rfl) (by simp [AV.pureL, AV.pureB, AV.pureE, pureE_map]) (rfl) fun e0 he0 => ?_
  refine aw_seq (aw_region ?_)
  refine sq_box rfl (lr _) rfl ?_
  refine asr (lr _) rfl ?_
  refine sq_nil (aw_seq (aw_seq (aw_region ?_)))
  refine sq_ev rfl (ev_load_agg (lr _) rfl ty27 rfl) ?_
  refine sq_ev rfl (ev_call en20 (lr _) (short_no hs) ⟨lr _, trivial⟩) ?_
  refine sq_ev rfl (ev_not (lr _)) ?_
  refine mvr (lr _) rfl ?_
  refine sq_split 23 (lr _) (fun g1 => ?_) (fun g1 => ?_)
  · skip
    have g1' := g1
    try simp only [qq] at g1'
    refine sq_no rfl rfl (less_b g1) rfl rfl ?_
    refine sq_no rfl rfl (less_b g1) rfl rfl ?_
    refine sq_no rfl rfl (less_b g1) rfl rfl ?_
    refine sq_ev rfl (ev_pickT (v := .raw _) (less_b g1) (lr _)) ?_
    refine mvr (lr _) rfl ?_
    refine sq_no rfl rfl (lr _) rfl rfl ?_
    refine sq_no rfl rfl (lr _) rfl rfl ?_
    refine sq_ev rfl (ev_pickT (v := .raw _) (lr _) (lr _)) ?_
    refine mvr (lr _) rfl ?_
    refine sq_no rfl rfl (lr _) rfl rfl ?_
    refine sq_no rfl rfl (lr _) rfl rfl ?_
    refine sq_ev rfl (ev_pickT (v := .raw _) (lr _) (lr _)) ?_
    refine sq_nil ?_
    refine aw_true (lr _) ?_
    refine aw_seq (aw_region ?_)
    refine sq_ev rfl (ev_call en21 (lr _) (known_pure) trivial) ?_
    refine asr (lr _) rfl ?_
    refine sq_nil (aw_ret ?_)
    exact retQ_pure (v := .raw _) rfl rfl (lr _)
  · skip
    have g1' := g1
    try simp only [qq] at g1'
    first | exact absurd g1 (by decide) | (exfalso; simp at g1; done) | (exfalso; simp at g1; omega)

set_option maxHeartbeats 4000000 in
/-- kelir/kelirlaw03.NightEnds -/
theorem law5_bad (p : Pl) (n : Int) (hs : p.scenes.length ≤ 12) (hk : PlOK p = false) : APure Tryz.prog 5 [plan p, I n] (B true) := by
 refine apure_of (rs := [.tmp 4]) Tryz.func5 rfl rfl (Nat.le_of_ble_eq_true rfl) (by simp [AV.pureL, AV.pureB, AV.pureE, pureE_map]) (rfl) fun e0 he0 => ?_
 refine aw_seq (aw_region ?_)
 refine sq_box rfl (lr _) rfl ?_
 refine asr (lr _) rfl ?_
 refine sq_nil (aw_seq (aw_seq (aw_region ?_)))
 refine sq_ev rfl (ev_load_agg (lr _) rfl ty27 rfl) ?_
 refine sq_ev rfl (ev_call en20 (lr _) (short_yes hs) ⟨lr _, trivial⟩) ?_
 refine sq_ev rfl (ev_not (lr _)) ?_
 refine mvr (lr _) rfl ?_
 refine sq_split 23 (lr _) (fun g1 => ?_) (fun g1 => ?_)
 ·
  have g1' := g1
  try simp only [qq] at g1'
  first | exact absurd g1 (by decide) | (exfalso; simp at g1; done) | (exfalso; simp at g1; omega)
 ·
  have g1' := g1
  try simp only [qq] at g1'
  refine sq_yes rfl rfl (less_b g1) rfl (ev_load_agg (lr _) rfl ty27 rfl) ?_
  refine sq_yes rfl rfl (less_b g1) rfl (ev_call en24 (lr _) (plan_no hs hk) ⟨lr _, trivial⟩) ?_
  refine sq_yes rfl rfl (less_b g1) rfl (ev_not (lr _)) ?_
  refine sq_ev rfl (ev_pickF (v := .raw _) (less_b g1) (lr _)) ?_
  refine mvr (lr _) rfl ?_
  refine sq_split 28 (lr _) (fun g2 => ?_) (fun g2 => ?_)
  ·
   have g2' := g2
   try simp only [qq] at g2'
   refine sq_no rfl rfl (less_b g2) rfl rfl ?_
   refine sq_no rfl rfl (less_b g2) rfl rfl ?_
   refine sq_ev rfl (ev_pickT (v := .raw _) (less_b g2) (lr _)) ?_
   refine mvr (lr _) rfl ?_
   refine sq_no rfl rfl (lr _) rfl rfl ?_
   refine sq_no rfl rfl (lr _) rfl rfl ?_
   refine sq_ev rfl (ev_pickT (v := .raw _) (lr _) (lr _)) ?_
   refine sq_nil ?_
   refine aw_true (lr _) ?_
   refine aw_seq (aw_region ?_)
   refine sq_ev rfl (ev_call en21 (lr _) (known_pure) trivial) ?_
   refine asr (lr _) rfl ?_
   refine sq_nil (aw_ret ?_)
   exact retQ_pure (v := .raw _) rfl rfl (lr _)
  ·
   have g2' := g2
   try simp only [qq] at g2'
   first | exact absurd g2 (by decide) | (exfalso; simp at g2; done) | (exfalso; simp at g2; omega)

set_option maxHeartbeats 4000000 in
/-- kelir/kelirlaw03.NightEnds -/
theorem law5_neg (p : Pl) (n : Int) (hs : p.scenes.length ≤ 12) (hk : PlOK p = true) (hn : n < 0) : APure Tryz.prog 5 [plan p, I n] (B true) := by
 refine apure_of (rs := [.tmp 4]) Tryz.func5 rfl rfl (Nat.le_of_ble_eq_true rfl) (by simp [AV.pureL, AV.pureB, AV.pureE, pureE_map]) (rfl) fun e0 he0 => ?_
 refine aw_seq (aw_region ?_)
 refine sq_box rfl (lr _) rfl ?_
 refine asr (lr _) rfl ?_
 refine sq_nil (aw_seq (aw_seq (aw_region ?_)))
 refine sq_ev rfl (ev_load_agg (lr _) rfl ty27 rfl) ?_
 refine sq_ev rfl (ev_call en20 (lr _) (short_yes hs) ⟨lr _, trivial⟩) ?_
 refine sq_ev rfl (ev_not (lr _)) ?_
 refine mvr (lr _) rfl ?_
 refine sq_split 23 (lr _) (fun g1 => ?_) (fun g1 => ?_)
 ·
  have g1' := g1
  try simp only [qq] at g1'
  first | exact absurd g1 (by decide) | (exfalso; simp at g1; done) | (exfalso; simp at g1; omega)
 ·
  have g1' := g1
  try simp only [qq] at g1'
  refine sq_yes rfl rfl (less_b g1) rfl (ev_load_agg (lr _) rfl ty27 rfl) ?_
  refine sq_yes rfl rfl (less_b g1) rfl (ev_call en24 (lr _) (plan_yes hs hk) ⟨lr _, trivial⟩) ?_
  refine sq_yes rfl rfl (less_b g1) rfl (ev_not (lr _)) ?_
  refine sq_ev rfl (ev_pickF (v := .raw _) (less_b g1) (lr _)) ?_
  refine mvr (lr _) rfl ?_
  refine sq_split 28 (lr _) (fun g2 => ?_) (fun g2 => ?_)
  ·
   have g2' := g2
   try simp only [qq] at g2'
   first | exact absurd g2 (by decide) | (exfalso; simp at g2; done) | (exfalso; simp at g2; omega)
  ·
   have g2' := g2
   try simp only [qq] at g2'
   refine sq_yes rfl rfl (less_b g2) rfl (ev_mv (v := .raw _) (lr _)) ?_
   refine sq_yes rfl rfl (less_b g2) rfl (ev_lss (lr _) (lr _)) ?_
   refine sq_ev rfl (ev_pickF (v := .raw _) (less_b g2) (lr _)) ?_
   refine mvr (lr _) rfl ?_
   refine sq_split 32 (lr _) (fun g3 => ?_) (fun g3 => ?_)
   ·
    have g3' := g3
    try simp only [qq] at g3'
    refine sq_no rfl rfl (less_b g3) rfl rfl ?_
    refine sq_no rfl rfl (less_b g3) rfl rfl ?_
    refine sq_ev rfl (ev_pickT (v := .raw _) (less_b g3) (lr _)) ?_
    refine sq_nil ?_
    refine aw_true (lr _) ?_
    refine aw_seq (aw_region ?_)
    refine sq_ev rfl (ev_call en21 (lr _) (known_pure) trivial) ?_
    refine asr (lr _) rfl ?_
    refine sq_nil (aw_ret ?_)
    exact retQ_pure (v := .raw _) rfl rfl (lr _)
   ·
    have g3' := g3
    try simp only [qq] at g3'
    first | exact absurd g3 (by decide) | (exfalso; simp at g3; done) | (exfalso; simp at g3; omega)

set_option maxHeartbeats 4000000 in
/-- kelir/kelirlaw03.NightEnds -/
theorem law5_big (p : Pl) (n : Int) (hs : p.scenes.length ≤ 12) (hk : PlOK p = true) (hn0 : ¬ n < 0) (hn : 2 < n) : APure Tryz.prog 5 [plan p, I n] (B true) := by
 refine apure_of (rs := [.tmp 4]) Tryz.func5 rfl rfl (Nat.le_of_ble_eq_true rfl) (by simp [AV.pureL, AV.pureB, AV.pureE, pureE_map]) (rfl) fun e0 he0 => ?_
 refine aw_seq (aw_region ?_)
 refine sq_box rfl (lr _) rfl ?_
 refine asr (lr _) rfl ?_
 refine sq_nil (aw_seq (aw_seq (aw_region ?_)))
 refine sq_ev rfl (ev_load_agg (lr _) rfl ty27 rfl) ?_
 refine sq_ev rfl (ev_call en20 (lr _) (short_yes hs) ⟨lr _, trivial⟩) ?_
 refine sq_ev rfl (ev_not (lr _)) ?_
 refine mvr (lr _) rfl ?_
 refine sq_split 23 (lr _) (fun g1 => ?_) (fun g1 => ?_)
 ·
  have g1' := g1
  try simp only [qq] at g1'
  first | exact absurd g1 (by decide) | (exfalso; simp at g1; done) | (exfalso; simp at g1; omega)
 ·
  have g1' := g1
  try simp only [qq] at g1'
  refine sq_yes rfl rfl (less_b g1) rfl (ev_load_agg (lr _) rfl ty27 rfl) ?_
  refine sq_yes rfl rfl (less_b g1) rfl (ev_call en24 (lr _) (plan_yes hs hk) ⟨lr _, trivial⟩) ?_
  refine sq_yes rfl rfl (less_b g1) rfl (ev_not (lr _)) ?_
  refine sq_ev rfl (ev_pickF (v := .raw _) (less_b g1) (lr _)) ?_
  refine mvr (lr _) rfl ?_
  refine sq_split 28 (lr _) (fun g2 => ?_) (fun g2 => ?_)
  ·
   have g2' := g2
   try simp only [qq] at g2'
   first | exact absurd g2 (by decide) | (exfalso; simp at g2; done) | (exfalso; simp at g2; omega)
  ·
   have g2' := g2
   try simp only [qq] at g2'
   refine sq_yes rfl rfl (less_b g2) rfl (ev_mv (v := .raw _) (lr _)) ?_
   refine sq_yes rfl rfl (less_b g2) rfl (ev_lss (lr _) (lr _)) ?_
   refine sq_ev rfl (ev_pickF (v := .raw _) (less_b g2) (lr _)) ?_
   refine mvr (lr _) rfl ?_
   refine sq_split 32 (lr _) (fun g3 => ?_) (fun g3 => ?_)
   ·
    have g3' := g3
    try simp only [qq] at g3'
    first | exact absurd g3 (by decide) | (exfalso; simp at g3; done) | (exfalso; simp at g3; omega)
   ·
    have g3' := g3
    try simp only [qq] at g3'
    refine sq_yes rfl rfl (less_b g3) rfl (ev_mv (v := .raw _) (lr _)) ?_
    refine sq_yes rfl rfl (less_b g3) rfl (ev_gtr (lr _) (lr _)) ?_
    refine sq_ev rfl (ev_pickF (v := .raw _) (less_b g3) (lr _)) ?_
    refine sq_nil ?_
    refine aw_cond (lr _) (fun c4 => ?_) (fun c4 => ?_)
    ·
     have c4' := c4
     try simp only [qq] at c4'
     refine aw_seq (aw_region ?_)
     refine sq_ev rfl (ev_call en21 (lr _) (known_pure) trivial) ?_
     refine asr (lr _) rfl ?_
     refine sq_nil (aw_ret ?_)
     exact retQ_pure (v := .raw _) rfl rfl (lr _)
    ·
     have c4' := c4
     try simp only [qq] at c4'
     first | exact absurd c4 (by decide) | (exfalso; simp at c4; done) | (exfalso; simp at c4; omega)

set_option maxHeartbeats 4000000 in
/-- kelir/kelirlaw03.NightEnds -/
theorem law5_nil (p : Pl) (k : Nat) (hs : p.scenes.length ≤ 12) (hk : PlOK p = true) (hk3 : k < 3) (h31 : APure Tryz.prog 31 [plan p] (.tup [.sl 2 [], I 7])) (h38 : APure Tryz.prog 38 [plan p] (.tup [B false, B true])) : APure Tryz.prog 5 [plan p, I k] (B true) := by
 refine apure_of (rs := [.tmp 4]) Tryz.func5 rfl rfl (Nat.le_of_ble_eq_true rfl) (by simp [AV.pureL, AV.pureB, AV.pureE, pureE_map]) (rfl) fun e0 he0 => ?_
 refine aw_seq (aw_region ?_)
 refine sq_box rfl (lr _) rfl ?_
 refine asr (lr _) rfl ?_
 refine sq_nil (aw_seq (aw_seq (aw_region ?_)))
 refine sq_ev rfl (ev_load_agg (lr _) rfl ty27 rfl) ?_
 refine sq_ev rfl (ev_call en20 (lr _) (short_yes hs) ⟨lr _, trivial⟩) ?_
 refine sq_ev rfl (ev_not (lr _)) ?_
 refine mvr (lr _) rfl ?_
 refine sq_split 23 (lr _) (fun g1 => ?_) (fun g1 => ?_)
 ·
  have g1' := g1
  try simp only [qq] at g1'
  first | exact absurd g1 (by decide) | (exfalso; simp at g1; done) | (exfalso; simp at g1; omega)
 ·
  have g1' := g1
  try simp only [qq] at g1'
  refine sq_yes rfl rfl (less_b g1) rfl (ev_load_agg (lr _) rfl ty27 rfl) ?_
  refine sq_yes rfl rfl (less_b g1) rfl (ev_call en24 (lr _) (plan_yes hs hk) ⟨lr _, trivial⟩) ?_
  refine sq_yes rfl rfl (less_b g1) rfl (ev_not (lr _)) ?_
  refine sq_ev rfl (ev_pickF (v := .raw _) (less_b g1) (lr _)) ?_
  refine mvr (lr _) rfl ?_
  refine sq_split 28 (lr _) (fun g2 => ?_) (fun g2 => ?_)
  ·
   have g2' := g2
   try simp only [qq] at g2'
   first | exact absurd g2 (by decide) | (exfalso; simp at g2; done) | (exfalso; simp at g2; omega)
  ·
   have g2' := g2
   try simp only [qq] at g2'
   refine sq_yes rfl rfl (less_b g2) rfl (ev_mv (v := .raw _) (lr _)) ?_
   refine sq_yes rfl rfl (less_b g2) rfl (ev_lss (lr _) (lr _)) ?_
   refine sq_ev rfl (ev_pickF (v := .raw _) (less_b g2) (lr _)) ?_
   refine mvr (lr _) rfl ?_
   refine sq_split 32 (lr _) (fun g3 => ?_) (fun g3 => ?_)
   ·
    have g3' := g3
    try simp only [qq] at g3'
    first | exact absurd g3 (by decide) | (exfalso; simp at g3; done) | (exfalso; simp at g3; omega)
   ·
    have g3' := g3
    try simp only [qq] at g3'
    refine sq_yes rfl rfl (less_b g3) rfl (ev_mv (v := .raw _) (lr _)) ?_
    refine sq_yes rfl rfl (less_b g3) rfl (ev_gtr (lr _) (lr _)) ?_
    refine sq_ev rfl (ev_pickF (v := .raw _) (less_b g3) (lr _)) ?_
    refine sq_nil ?_
    refine aw_cond (lr _) (fun c4 => ?_) (fun c4 => ?_)
    ·
     have c4' := c4
     try simp only [qq] at c4'
     first | exact absurd c4 (by decide) | (exfalso; simp at c4; done) | (exfalso; simp at c4; omega)
    ·
     have c4' := c4
     try simp only [qq] at c4'
     refine aw_skip (aw_seq (aw_region ?_))
     refine sq_ev rfl (ev_load_agg (lr _) rfl ty27 rfl) ?_
     refine sq_ev rfl (ev_call en31 (lr _) (h31) ⟨lr _, trivial⟩) ?_
     refine sq_ev rfl (ev_mv (v := .tup _) (lr _)) ?_
     refine sq_ev rfl (ev_extract (lr _) rfl) ?_
     refine sq_ev rfl (ev_extract (lr _) rfl) ?_
     refine sq_ev rfl (ev_as (v := .sl _ _) (lr _)) ?_
     refine asr (lr _) rfl ?_
     refine sq_nil (aw_seq (aw_region ?_))
     refine sq_ev rfl (ev_load_agg (lr _) rfl ty27 rfl) ?_
     refine sq_ev rfl (ev_call en38 (lr _) (h38) ⟨lr _, trivial⟩) ?_
     refine sq_ev rfl (ev_mv (v := .tup _) (lr _)) ?_
     refine sq_ev rfl (ev_extract (lr _) rfl) ?_
     refine sq_ev rfl (ev_extract (lr _) rfl) ?_
     refine asr (lr _) rfl ?_
     refine asr (lr _) rfl ?_
     refine sq_nil (aw_seq (aw_seq (aw_region ?_)))
     refine mvr (lr _) rfl ?_
     refine sq_ev rfl (ev_not (lr _)) ?_
     refine mvr (lr _) rfl ?_
     refine sq_split 49 (lr _) (fun g5 => ?_) (fun g5 => ?_)
     ·
      have g5' := g5
      try simp only [qq] at g5'
      first | exact absurd g5 (by decide) | (exfalso; simp at g5; done) | (exfalso; simp at g5; omega)
     ·
      have g5' := g5
      try simp only [qq] at g5'
      refine sq_yes rfl rfl (less_b g5) rfl (ev_mv (v := .raw _) (lr _)) ?_
      refine sq_yes rfl rfl (less_b g5) rfl (ev_neq (lr _) (lr _)) ?_
      refine sq_yes rfl rfl (less_b g5) rfl (ev_mv (v := .raw _) (lr _)) ?_
      refine sq_split 52 (lr _) (fun g6 => ?_) (fun g6 => ?_)
      ·
       have g6' := g6
       try simp only [qq] at g6'
       refine sq_yes rfl rfl (less_b g6) rfl (ev_mv (v := .raw _) (lr _)) ?_
       refine sq_yes rfl rfl (less_b g6) rfl (ev_neq (lr _) (lr _)) ?_
       refine sq_yes rfl rfl (less_b g5) rfl (ev_pickT (v := .raw _) (less_b g6) (lr _)) ?_
       refine sq_ev rfl (ev_pickF (v := .raw _) (less_b g5) (lr _)) ?_
       refine mvr (lr _) rfl ?_
       refine sq_split 57 (lr _) (fun g7 => ?_) (fun g7 => ?_)
       ·
        have g7' := g7
        try simp only [qq] at g7'
        first | exact absurd g7 (by decide) | (exfalso; simp at g7; done) | (exfalso; simp at g7; omega)
       ·
        have g7' := g7
        try simp only [qq] at g7'
        refine sq_yes rfl rfl (less_b g7) rfl (ev_mv (v := .raw _) (lr _)) ?_
        refine sq_yes rfl rfl (less_b g7) rfl (ev_mv (v := .raw _) (lr _)) ?_
        refine sq_yes rfl rfl (less_b g7) rfl (ev_eql (lr _) (lr _)) ?_
        refine sq_yes rfl rfl (less_b g7) rfl (ev_neqB un4 (lr _) (lr _)) ?_
        refine sq_ev rfl (ev_pickF (v := .raw _) (less_b g7) (lr _)) ?_
        refine sq_nil ?_
        refine aw_cond (lr _) (fun c8 => ?_) (fun c8 => ?_)
        ·
         have c8' := c8
         try simp only [qq] at c8'
         first | exact absurd c8 (by decide) | (exfalso; simp at c8; done) | (exfalso; simp at c8; omega)
        ·
         have c8' := c8
         try simp only [qq] at c8'
         refine aw_skip (aw_seq (aw_seq (aw_region ?_)))
         refine mvr (lr _) rfl ?_
         refine sq_ev rfl (ev_not (lr _)) ?_
         refine sq_nil ?_
         refine aw_cond (lr _) (fun c9 => ?_) (fun c9 => ?_)
         ·
          have c9' := c9
          try simp only [qq] at c9'
          refine aw_seq (aw_region ?_)
          refine sq_ev rfl (ev_call en21 (lr _) (known_pure) trivial) ?_
          refine asr (lr _) rfl ?_
          refine sq_nil (aw_ret ?_)
          exact retQ_pure (v := .raw _) rfl rfl (lr _)
         ·
          have c9' := c9
          try simp only [qq] at c9'
          first | exact absurd c9 (by decide) | (exfalso; simp at c9; done) | (exfalso; simp at c9; omega)
      ·
       have g6' := g6
       try simp only [qq] at g6'
       first | exact absurd g6 (by decide) | (exfalso; simp at g6; done) | (exfalso; simp at g6; omega)

set_option maxHeartbeats 4000000 in
set_option maxRecDepth 10000 in
/-- kelir/kelirlaw03.NightEnds -/
theorem law5_yes (p : Pl) (k : Nat) (hs : p.scenes.length ≤ 12) (hk : PlOK p = true) (hk3 : k < 3) (E : List (Int × Int)) (L H : Int) (hE : E.length = 3) (hEk : E[k] = (L, H)) (h31 : APure Tryz.prog 31 [plan p] (.tup [spans E, I 0])) (h38 : APure Tryz.prog 38 [plan p] (.tup [B true, B true])) (hb1 : wl p k ≤ L) (hb2 : L ≤ H) (hb3 : H ≤ wh p k) (hb0 : 0 ≤ wl p k ∧ wh p k ≤ 10000) (hA : APure Tryz.prog 38 [plan (narP p k L L)] (.tup [B true, B true])) (hB : APure Tryz.prog 38 [plan (narP p k H H)] (.tup [B true, B true])) (hC : wl p k < L → APure Tryz.prog 38 [plan (narP p k (wl p k) (L - 1))] (.tup [B false, B true])) (hD : H < wh p k → APure Tryz.prog 38 [plan (narP p k (H + 1) (wh p k))] (.tup [B false, B true])) : APure Tryz.prog 5 [plan p, I k] (B true) := by
 refine apure_of (rs := [.tmp 4]) Tryz.func5 rfl rfl (Nat.le_of_ble_eq_true rfl) (by simp [AV.pureL, AV.pureB, AV.pureE, pureE_map]) (rfl) fun e0 he0 => ?_
 refine aw_seq (aw_region ?_)
 refine sq_box rfl (lr _) rfl ?_
 refine asr (lr _) rfl ?_
 refine sq_nil (aw_seq (aw_seq (aw_region ?_)))
 refine sq_ev rfl (ev_load_agg (lr _) rfl ty27 rfl) ?_
 refine sq_ev rfl (ev_call en20 (lr _) (short_yes hs) ⟨lr _, trivial⟩) ?_
 refine sq_ev rfl (ev_not (lr _)) ?_
 refine mvr (lr _) rfl ?_
 refine sq_split 23 (lr _) (fun g1 => ?_) (fun g1 => ?_)
 ·
  have g1' := g1
  try simp only [qq] at g1'
  first | exact absurd g1 (by decide) | (exfalso; simp at g1; done) | (exfalso; simp at g1; omega)
 ·
  have g1' := g1
  try simp only [qq] at g1'
  refine sq_yes rfl rfl (less_b g1) rfl (ev_load_agg (lr _) rfl ty27 rfl) ?_
  refine sq_yes rfl rfl (less_b g1) rfl (ev_call en24 (lr _) (plan_yes hs hk) ⟨lr _, trivial⟩) ?_
  refine sq_yes rfl rfl (less_b g1) rfl (ev_not (lr _)) ?_
  refine sq_ev rfl (ev_pickF (v := .raw _) (less_b g1) (lr _)) ?_
  refine mvr (lr _) rfl ?_
  refine sq_split 28 (lr _) (fun g2 => ?_) (fun g2 => ?_)
  ·
   have g2' := g2
   try simp only [qq] at g2'
   first | exact absurd g2 (by decide) | (exfalso; simp at g2; done) | (exfalso; simp at g2; omega)
  ·
   have g2' := g2
   try simp only [qq] at g2'
   refine sq_yes rfl rfl (less_b g2) rfl (ev_mv (v := .raw _) (lr _)) ?_
   refine sq_yes rfl rfl (less_b g2) rfl (ev_lss (lr _) (lr _)) ?_
   refine sq_ev rfl (ev_pickF (v := .raw _) (less_b g2) (lr _)) ?_
   refine mvr (lr _) rfl ?_
   refine sq_split 32 (lr _) (fun g3 => ?_) (fun g3 => ?_)
   ·
    have g3' := g3
    try simp only [qq] at g3'
    first | exact absurd g3 (by decide) | (exfalso; simp at g3; done) | (exfalso; simp at g3; omega)
   ·
    have g3' := g3
    try simp only [qq] at g3'
    refine sq_yes rfl rfl (less_b g3) rfl (ev_mv (v := .raw _) (lr _)) ?_
    refine sq_yes rfl rfl (less_b g3) rfl (ev_gtr (lr _) (lr _)) ?_
    refine sq_ev rfl (ev_pickF (v := .raw _) (less_b g3) (lr _)) ?_
    refine sq_nil ?_
    refine aw_cond (lr _) (fun c4 => ?_) (fun c4 => ?_)
    ·
     have c4' := c4
     try simp only [qq] at c4'
     first | exact absurd c4 (by decide) | (exfalso; simp at c4; done) | (exfalso; simp at c4; omega)
    ·
     have c4' := c4
     try simp only [qq] at c4'
     refine aw_skip (aw_seq (aw_region ?_))
     refine sq_ev rfl (ev_load_agg (lr _) rfl ty27 rfl) ?_
     refine sq_ev rfl (ev_call en31 (lr _) (h31) ⟨lr _, trivial⟩) ?_
     refine sq_ev rfl (ev_mv (v := .tup _) (lr _)) ?_
     refine sq_ev rfl (ev_extract (lr _) rfl) ?_
     refine sq_ev rfl (ev_extract (lr _) rfl) ?_
     refine sq_ev rfl (ev_as (v := .sl _ _) (lr _)) ?_
     refine asr (lr _) rfl ?_
     refine sq_nil (aw_seq (aw_region ?_))
     refine sq_ev rfl (ev_load_agg (lr _) rfl ty27 rfl) ?_
     refine sq_ev rfl (ev_call en38 (lr _) (h38) ⟨lr _, trivial⟩) ?_
     refine sq_ev rfl (ev_mv (v := .tup _) (lr _)) ?_
     refine sq_ev rfl (ev_extract (lr _) rfl) ?_
     refine sq_ev rfl (ev_extract (lr _) rfl) ?_
     refine asr (lr _) rfl ?_
     refine asr (lr _) rfl ?_
     refine sq_nil (aw_seq (aw_seq (aw_region ?_)))
     refine mvr (lr _) rfl ?_
     refine sq_ev rfl (ev_not (lr _)) ?_
     refine mvr (lr _) rfl ?_
     refine sq_split 49 (lr _) (fun g5 => ?_) (fun g5 => ?_)
     ·
      have g5' := g5
      try simp only [qq] at g5'
      first | exact absurd g5 (by decide) | (exfalso; simp at g5; done) | (exfalso; simp at g5; omega)
     ·
      have g5' := g5
      try simp only [qq] at g5'
      refine sq_yes rfl rfl (less_b g5) rfl (ev_mv (v := .raw _) (lr _)) ?_
      refine sq_yes rfl rfl (less_b g5) rfl (ev_neq (lr _) (lr _)) ?_
      refine sq_yes rfl rfl (less_b g5) rfl (ev_mv (v := .raw _) (lr _)) ?_
      refine sq_split 52 (lr _) (fun g6 => ?_) (fun g6 => ?_)
      ·
       have g6' := g6
       try simp only [qq] at g6'
       first | exact absurd g6 (by decide) | (exfalso; simp at g6; done) | (exfalso; simp at g6; omega)
      ·
       have g6' := g6
       try simp only [qq] at g6'
       refine sq_no rfl rfl (less_b g6) rfl rfl ?_
       refine sq_no rfl rfl (less_b g6) rfl rfl ?_
       refine sq_yes rfl rfl (less_b g5) rfl (ev_pickF (v := .raw _) (less_b g6) (lr _)) ?_
       refine sq_ev rfl (ev_pickF (v := .raw _) (less_b g5) (lr _)) ?_
       refine mvr (lr _) rfl ?_
       refine sq_yes rfl rfl (lr _) rfl (ev_mv (v := .raw _) (lr _)) ?_
       refine sq_yes rfl rfl (lr _) rfl (ev_mv (v := .raw _) (lr _)) ?_
       refine sq_yes rfl rfl (lr _) rfl (ev_eql (lr _) (lr _)) ?_
       refine sq_yes rfl rfl (lr _) rfl (ev_neqB un4 (lr _) (lr _)) ?_
       refine sq_ev rfl (ev_pickF (v := .raw _) (lr _) (lr _)) ?_
       refine sq_nil ?_
       refine aw_cond (lr _) (fun c7 => ?_) (fun c7 => ?_)
       ·
        have c7' := c7
        try simp only [qq] at c7'
        first | exact absurd c7 (by decide) | (exfalso; simp at c7; done) | (exfalso; simp at c7; omega)
       ·
        have c7' := c7
        try simp only [qq] at c7'
        refine aw_skip (aw_seq (aw_seq (aw_region ?_)))
        refine mvr (lr _) rfl ?_
        refine sq_ev rfl (ev_not (lr _)) ?_
        refine sq_nil ?_
        refine aw_cond (lr _) (fun c8 => ?_) (fun c8 => ?_)
        ·
         have c8' := c8
         try simp only [qq] at c8'
         first | exact absurd c8 (by decide) | (exfalso; simp at c8; done) | (exfalso; simp at c8; omega)
        ·
         have c8' := c8
         try simp only [qq] at c8'
         refine aw_skip (aw_seq (aw_region ?_))
         refine sq_ev rfl (ev_load_agg (lr _) rfl ty27 rfl) ?_
         refine mvr (lr _) rfl ?_
         refine sq_ev rfl (ev_call en39 (lr _) (rwindow_pure p k hk3) ⟨lr _, lr _, trivial⟩) ?_
         refine sq_alloc rfl z23 ?_
         refine sq_store rfl (lr _) (lr _) rfl rfl ty23 rfl rfl ?_
         refine sq_nil (aw_seq (aw_seq ?_))
         refine aw_draw 36 mo (by kernel_rfl) ?_
         refine dr_ev rfl (ev_mv (v := .sl _ _) (lr _)) ?_
         refine dr_ev rfl (ev_len_map sl43 (lr _)) ?_
         refine dr_ev rfl (ev_neq (lr _) (lr _)) ?_
         refine dr_ev rfl (ev_mv (v := .raw _) (lr _)) ?_
         refine dr_split 72 (lr _) (fun g9 => ?_) (fun g9 => ?_)
         ·
          have g9' := g9
          try simp only [qq] at g9'
          first | exact absurd g9 (by decide) | (exfalso; simp at g9; done) | (exfalso; simp at g9; omega)
         ·
          have g9' := g9
          try simp only [qq] at g9'
          refine dr_yes rfl rfl (less_b g9) rfl (ev_mv (v := .sl _ _) (lr _)) ?_
          refine dr_yes rfl rfl (less_b g9) rfl (ev_mv (v := .raw _) (lr _)) ?_
          refine dr_yes rfl rfl (less_b g9) rfl (ev_less (ev_index_map sl43 (lr _) (lr _) rfl (by omega)) (Less.eq (b := .iptr [I L, I H]) (by rw [hEk]))) ?_
          refine dr_yes rfl rfl (less_b g9) rfl (ev_fieldAddr_i fo23_0 (lr _)) ?_
          refine dr_yes rfl rfl (less_b g9) rfl (ev_load_i (lr _) ty3 rfl) ?_
          refine dr_yes rfl rfl (less_b g9) rfl (ev_fieldAddr fo23_0 (lr _)) ?_
          refine dr_yes rfl rfl (less_b g9) rfl (ev_load (lr _) rfl ty3 rfl) ?_
          refine dr_yes rfl rfl (less_b g9) rfl (ev_lss (lr _) (lr _)) ?_
          refine dr_ev rfl (ev_pickF (v := .raw _) (less_b g9) (lr _)) ?_
          refine dr_ev rfl (ev_mv (v := .raw _) (lr _)) ?_
          refine dr_split 82 (lr _) (fun g10 => ?_) (fun g10 => ?_)
          ·
           have g10' := g10
           try simp only [qq] at g10'
           first | exact absurd g10 (by decide) | (exfalso; simp at g10; done) | (exfalso; simp at g10; omega)
          ·
           have g10' := g10
           try simp only [qq] at g10'
           refine dr_yes rfl rfl (less_b g10) rfl (ev_mv (v := .sl _ _) (lr _)) ?_
           refine dr_yes rfl rfl (less_b g10) rfl (ev_mv (v := .raw _) (lr _)) ?_
           refine dr_yes rfl rfl (less_b g10) rfl (ev_less (ev_index_map sl43 (lr _) (lr _) rfl (by omega)) (Less.eq (b := .iptr [I L, I H]) (by rw [hEk]))) ?_
           refine dr_yes rfl rfl (less_b g10) rfl (ev_fieldAddr_i fo23_1 (lr _)) ?_
           refine dr_yes rfl rfl (less_b g10) rfl (ev_load_i (lr _) ty3 rfl) ?_
           refine dr_yes rfl rfl (less_b g10) rfl (ev_fieldAddr fo23_1 (lr _)) ?_
           refine dr_yes rfl rfl (less_b g10) rfl (ev_load (lr _) rfl ty3 rfl) ?_
           refine dr_yes rfl rfl (less_b g10) rfl (ev_gtr (lr _) (lr _)) ?_
           refine dr_ev rfl (ev_pickF (v := .raw _) (less_b g10) (lr _)) ?_
           refine dr_ev rfl (ev_mv (v := .raw _) (lr _)) ?_
           refine dr_split 92 (lr _) (fun g11 => ?_) (fun g11 => ?_)
           ·
            have g11' := g11
            try simp only [qq] at g11'
            first | exact absurd g11 (by decide) | (exfalso; simp at g11; done) | (exfalso; simp at g11; omega)
           ·
            have g11' := g11
            try simp only [qq] at g11'
            refine dr_yes rfl rfl (less_b g11) rfl (ev_mv (v := .sl _ _) (lr _)) ?_
            refine dr_yes rfl rfl (less_b g11) rfl (ev_mv (v := .raw _) (lr _)) ?_
            refine dr_yes rfl rfl (less_b g11) rfl (ev_less (ev_index_map sl43 (lr _) (lr _) rfl (by omega)) (Less.eq (b := .iptr [I L, I H]) (by rw [hEk]))) ?_
            refine dr_yes rfl rfl (less_b g11) rfl (ev_fieldAddr_i fo23_0 (lr _)) ?_
            refine dr_yes rfl rfl (less_b g11) rfl (ev_load_i (lr _) ty3 rfl) ?_
            refine dr_yes rfl rfl (less_b g11) rfl (ev_mv (v := .sl _ _) (lr _)) ?_
            refine dr_yes rfl rfl (less_b g11) rfl (ev_mv (v := .raw _) (lr _)) ?_
            refine dr_yes rfl rfl (less_b g11) rfl (ev_less (ev_index_map sl43 (lr _) (lr _) rfl (by omega)) (Less.eq (b := .iptr [I L, I H]) (by rw [hEk]))) ?_
            refine dr_yes rfl rfl (less_b g11) rfl (ev_fieldAddr_i fo23_1 (lr _)) ?_
            refine dr_yes rfl rfl (less_b g11) rfl (ev_load_i (lr _) ty3 rfl) ?_
            refine dr_yes rfl rfl (less_b g11) rfl (ev_gtr (lr _) (lr _)) ?_
            refine dr_ev rfl (ev_pickF (v := .raw _) (less_b g11) (lr _)) ?_
            refine dr_end (sq_nil ?_)
            refine aw_cond (lr _) (fun c12 => ?_) (fun c12 => ?_)
            ·
             have c12' := c12
             try simp only [qq] at c12'
             first | exact absurd c12 (by decide) | (exfalso; simp at c12; done) | (exfalso; simp at c12; omega)
            ·
             have c12' := c12
             try simp only [qq] at c12'
             refine aw_skip (aw_seq ?_)
             refine aw_draw 12 mo (by kernel_rfl) ?_
             refine dr_ev rfl (ev_mv (v := .sl _ _) (lr _)) ?_
             refine dr_ev rfl (ev_mv (v := .raw _) (lr _)) ?_
             refine dr_ev rfl (ev_less (ev_index_map sl43 (lr _) (lr _) rfl (by omega)) (Less.eq (b := .iptr [I L, I H]) (by rw [hEk]))) ?_
             refine dr_ev rfl (ev_fieldAddr_i fo23_0 (lr _)) ?_
             refine dr_ev rfl (ev_load_i (lr _) ty3 rfl) ?_
             refine dr_ev rfl (ev_mv (v := .sl _ _) (lr _)) ?_
             refine dr_ev rfl (ev_mv (v := .raw _) (lr _)) ?_
             refine dr_ev rfl (ev_less (ev_index_map sl43 (lr _) (lr _) rfl (by omega)) (Less.eq (b := .iptr [I L, I H]) (by rw [hEk]))) ?_
             refine dr_ev rfl (ev_fieldAddr_i fo23_1 (lr _)) ?_
             refine dr_ev rfl (ev_load_i (lr _) ty3 rfl) ?_
             refine dr_ev rfl (ev_as (v := .raw _) (lr _)) ?_
             refine dr_ev rfl (ev_as (v := .raw _) (lr _)) ?_
             refine dr_end (sq_nil (aw_seq ?_))
             refine aw_draw 12 mo (by kernel_rfl) ?_
             refine dr_ev rfl (ev_load_agg (lr _) rfl ty27 rfl) ?_
             refine dr_ev rfl (ev_mv (v := .raw _) (lr _)) ?_
             refine dr_ev rfl (ev_mv (v := .raw _) (lr _)) ?_
             refine dr_ev rfl (ev_mv (v := .raw _) (lr _)) ?_
             refine dr_ev rfl (ev_call en41 (lr _) (rspan_pure _ _) ⟨lr _, lr _, trivial⟩) ?_
             refine dr_ev rfl (ev_call en40 (lr _) (rnar_pure p k hk3 _ _) ⟨lr _, lr _, lr _, trivial⟩) ?_
             refine dr_ev rfl (ev_call en38 (lr _) (hA) ⟨lr _, trivial⟩) ?_
             refine dr_ev rfl (ev_mv (v := .tup _) (lr _)) ?_
             refine dr_ev rfl (ev_extract (lr _) rfl) ?_
             refine dr_ev rfl (ev_extract (lr _) rfl) ?_
             refine dr_ev rfl (ev_as (v := .raw _) (lr _)) ?_
             refine dr_ev rfl (ev_as (v := .raw _) (lr _)) ?_
             refine dr_end (sq_nil (aw_seq ?_))
             refine aw_draw 12 mo (by kernel_rfl) ?_
             refine dr_ev rfl (ev_load_agg (lr _) rfl ty27 rfl) ?_
             refine dr_ev rfl (ev_mv (v := .raw _) (lr _)) ?_
             refine dr_ev rfl (ev_mv (v := .raw _) (lr _)) ?_
             refine dr_ev rfl (ev_mv (v := .raw _) (lr _)) ?_
             refine dr_ev rfl (ev_call en41 (lr _) (rspan_pure _ _) ⟨lr _, lr _, trivial⟩) ?_
             refine dr_ev rfl (ev_call en40 (lr _) (rnar_pure p k hk3 _ _) ⟨lr _, lr _, lr _, trivial⟩) ?_
             refine dr_ev rfl (ev_call en38 (lr _) (hB) ⟨lr _, trivial⟩) ?_
             refine dr_ev rfl (ev_mv (v := .tup _) (lr _)) ?_
             refine dr_ev rfl (ev_extract (lr _) rfl) ?_
             refine dr_ev rfl (ev_extract (lr _) rfl) ?_
             refine dr_ev rfl (ev_as (v := .raw _) (lr _)) ?_
             refine dr_ev rfl (ev_as (v := .raw _) (lr _)) ?_
             refine dr_end (sq_nil (aw_seq (aw_seq (aw_region ?_))))
             refine mvr (lr _) rfl ?_
             refine sq_ev rfl (ev_not (lr _)) ?_
             refine mvr (lr _) rfl ?_
             refine sq_split 137 (lr _) (fun g13 => ?_) (fun g13 => ?_)
             ·
              have g13' := g13
              try simp only [qq] at g13'
              first | exact absurd g13 (by decide) | (exfalso; simp at g13; done) | (exfalso; simp at g13; omega)
             ·
              have g13' := g13
              try simp only [qq] at g13'
              refine sq_yes rfl rfl (less_b g13) rfl (ev_mv (v := .raw _) (lr _)) ?_
              refine sq_yes rfl rfl (less_b g13) rfl (ev_not (lr _)) ?_
              refine sq_ev rfl (ev_pickF (v := .raw _) (less_b g13) (lr _)) ?_
              refine mvr (lr _) rfl ?_
              refine sq_split 141 (lr _) (fun g14 => ?_) (fun g14 => ?_)
              ·
               have g14' := g14
               try simp only [qq] at g14'
               first | exact absurd g14 (by decide) | (exfalso; simp at g14; done) | (exfalso; simp at g14; omega)
              ·
               have g14' := g14
               try simp only [qq] at g14'
               refine sq_yes rfl rfl (less_b g14) rfl (ev_mv (v := .raw _) (lr _)) ?_
               refine sq_yes rfl rfl (less_b g14) rfl (ev_not (lr _)) ?_
               refine sq_ev rfl (ev_pickF (v := .raw _) (less_b g14) (lr _)) ?_
               refine mvr (lr _) rfl ?_
               refine sq_split 145 (lr _) (fun g15 => ?_) (fun g15 => ?_)
               ·
                have g15' := g15
                try simp only [qq] at g15'
                first | exact absurd g15 (by decide) | (exfalso; simp at g15; done) | (exfalso; simp at g15; omega)
               ·
                have g15' := g15
                try simp only [qq] at g15'
                refine sq_yes rfl rfl (less_b g15) rfl (ev_mv (v := .raw _) (lr _)) ?_
                refine sq_yes rfl rfl (less_b g15) rfl (ev_not (lr _)) ?_
                refine sq_ev rfl (ev_pickF (v := .raw _) (less_b g15) (lr _)) ?_
                refine sq_nil ?_
                refine aw_cond (lr _) (fun c16 => ?_) (fun c16 => ?_)
                ·
                 have c16' := c16
                 try simp only [qq] at c16'
                 first | exact absurd c16 (by decide) | (exfalso; simp at c16; done) | (exfalso; simp at c16; omega)
                ·
                 have c16' := c16
                 try simp only [qq] at c16'
                 refine aw_skip (aw_seq (aw_seq (aw_region ?_)))
                 refine mvr (lr _) rfl ?_
                 refine sq_ev rfl (ev_fieldAddr fo23_0 (lr _)) ?_
                 refine sq_ev rfl (ev_load (lr _) rfl ty3 rfl) ?_
                 refine sq_ev rfl (ev_gtr (lr _) (lr _)) ?_
                 refine sq_nil ?_
                 refine aw_cond (lr _) (fun c17 => ?_) (fun c17 => ?_)
                 ·
                  have c17' := c17
                  try simp only [qq] at c17'
                  refine aw_seq ?_
                  refine aw_draw 14 mo (by kernel_rfl) ?_
                  refine dr_ev rfl (ev_load_agg (lr _) rfl ty27 rfl) ?_
                  refine dr_ev rfl (ev_mv (v := .raw _) (lr _)) ?_
                  refine dr_ev rfl (ev_fieldAddr fo23_0 (lr _)) ?_
                  refine dr_ev rfl (ev_load (lr _) rfl ty3 rfl) ?_
                  refine dr_ev rfl (ev_mv (v := .raw _) (lr _)) ?_
                  refine dr_ev rfl (ev_sub (lr _) (lr _) (wr (by omega) (by omega))) ?_
                  refine dr_ev rfl (ev_call en41 (lr _) (rspan_pure _ _) ⟨lr _, lr _, trivial⟩) ?_
                  refine dr_ev rfl (ev_call en40 (lr _) (rnar_pure p k hk3 _ _) ⟨lr _, lr _, lr _, trivial⟩) ?_
                  refine dr_ev rfl (ev_call en38 (lr _) ((hC (by omega))) ⟨lr _, trivial⟩) ?_
                  refine dr_ev rfl (ev_mv (v := .tup _) (lr _)) ?_
                  refine dr_ev rfl (ev_extract (lr _) rfl) ?_
                  refine dr_ev rfl (ev_extract (lr _) rfl) ?_
                  refine dr_ev rfl (ev_as (v := .raw _) (lr _)) ?_
                  refine dr_ev rfl (ev_as (v := .raw _) (lr _)) ?_
                  refine dr_end (sq_nil (aw_seq (aw_region ?_)))
                  refine mvr (lr _) rfl ?_
                  refine sq_ev rfl (ev_not (lr _)) ?_
                  refine mvr (lr _) rfl ?_
                  refine sq_split 167 (lr _) (fun g18 => ?_) (fun g18 => ?_)
                  ·
                   have g18' := g18
                   try simp only [qq] at g18'
                   first | exact absurd g18 (by decide) | (exfalso; simp at g18; done) | (exfalso; simp at g18; omega)
                  ·
                   have g18' := g18
                   try simp only [qq] at g18'
                   refine sq_yes rfl rfl (less_b g18) rfl (ev_mv (v := .raw _) (lr _)) ?_
                   refine sq_ev rfl (ev_pickF (v := .raw _) (less_b g18) (lr _)) ?_
                   refine sq_nil ?_
                   refine aw_cond (lr _) (fun c19 => ?_) (fun c19 => ?_)
                   ·
                    have c19' := c19
                    try simp only [qq] at c19'
                    first | exact absurd c19 (by decide) | (exfalso; simp at c19; done) | (exfalso; simp at c19; omega)
                   ·
                    have c19' := c19
                    try simp only [qq] at c19'
                    refine aw_skip (aw_seq (aw_seq (aw_region ?_)))
                    refine mvr (lr _) rfl ?_
                    refine sq_ev rfl (ev_fieldAddr fo23_1 (lr _)) ?_
                    refine sq_ev rfl (ev_load (lr _) rfl ty3 rfl) ?_
                    refine sq_ev rfl (ev_lss (lr _) (lr _)) ?_
                    refine sq_nil ?_
                    refine aw_cond (lr _) (fun c20 => ?_) (fun c20 => ?_)
                    ·
                     have c20' := c20
                     try simp only [qq] at c20'
                     refine aw_seq ?_
                     refine aw_draw 14 mo (by kernel_rfl) ?_
                     refine dr_ev rfl (ev_load_agg (lr _) rfl ty27 rfl) ?_
                     refine dr_ev rfl (ev_mv (v := .raw _) (lr _)) ?_
                     refine dr_ev rfl (ev_mv (v := .raw _) (lr _)) ?_
                     refine dr_ev rfl (ev_add (lr _) (lr _) (wr (by omega) (by omega))) ?_
                     refine dr_ev rfl (ev_fieldAddr fo23_1 (lr _)) ?_
                     refine dr_ev rfl (ev_load (lr _) rfl ty3 rfl) ?_
                     refine dr_ev rfl (ev_call en41 (lr _) (rspan_pure _ _) ⟨lr _, lr _, trivial⟩) ?_
                     refine dr_ev rfl (ev_call en40 (lr _) (rnar_pure p k hk3 _ _) ⟨lr _, lr _, lr _, trivial⟩) ?_
                     refine dr_ev rfl (ev_call en38 (lr _) ((hD (by omega))) ⟨lr _, trivial⟩) ?_
                     refine dr_ev rfl (ev_mv (v := .tup _) (lr _)) ?_
                     refine dr_ev rfl (ev_extract (lr _) rfl) ?_
                     refine dr_ev rfl (ev_extract (lr _) rfl) ?_
                     refine dr_ev rfl (ev_as (v := .raw _) (lr _)) ?_
                     refine dr_ev rfl (ev_as (v := .raw _) (lr _)) ?_
                     refine dr_end (sq_nil (aw_seq (aw_region ?_)))
                     refine mvr (lr _) rfl ?_
                     refine sq_ev rfl (ev_not (lr _)) ?_
                     refine mvr (lr _) rfl ?_
                     refine sq_split 188 (lr _) (fun g21 => ?_) (fun g21 => ?_)
                     ·
                      have g21' := g21
                      try simp only [qq] at g21'
                      first | exact absurd g21 (by decide) | (exfalso; simp at g21; done) | (exfalso; simp at g21; omega)
                     ·
                      have g21' := g21
                      try simp only [qq] at g21'
                      refine sq_yes rfl rfl (less_b g21) rfl (ev_mv (v := .raw _) (lr _)) ?_
                      refine sq_ev rfl (ev_pickF (v := .raw _) (less_b g21) (lr _)) ?_
                      refine sq_nil ?_
                      refine aw_cond (lr _) (fun c22 => ?_) (fun c22 => ?_)
                      ·
                       have c22' := c22
                       try simp only [qq] at c22'
                       first | exact absurd c22 (by decide) | (exfalso; simp at c22; done) | (exfalso; simp at c22; omega)
                      ·
                       have c22' := c22
                       try simp only [qq] at c22'
                       refine aw_skip (aw_seq (aw_region ?_))
                       refine sq_ev rfl (ev_call en21 (lr _) (known_pure) trivial) ?_
                       refine asr (lr _) rfl ?_
                       refine sq_nil (aw_ret ?_)
                       exact retQ_pure (v := .raw _) rfl rfl (lr _)
                    ·
                     have c20' := c20
                     try simp only [qq] at c20'
                     refine aw_skip (aw_seq (aw_region ?_))
                     refine sq_ev rfl (ev_call en21 (lr _) (known_pure) trivial) ?_
                     refine asr (lr _) rfl ?_
                     refine sq_nil (aw_ret ?_)
                     exact retQ_pure (v := .raw _) rfl rfl (lr _)
                 ·
                  have c17' := c17
                  try simp only [qq] at c17'
                  refine aw_skip (aw_seq (aw_seq (aw_region ?_)))
                  refine mvr (lr _) rfl ?_
                  refine sq_ev rfl (ev_fieldAddr fo23_1 (lr _)) ?_
                  refine sq_ev rfl (ev_load (lr _) rfl ty3 rfl) ?_
                  refine sq_ev rfl (ev_lss (lr _) (lr _)) ?_
                  refine sq_nil ?_
                  refine aw_cond (lr _) (fun c23 => ?_) (fun c23 => ?_)
                  ·
                   have c23' := c23
                   try simp only [qq] at c23'
                   refine aw_seq ?_
                   refine aw_draw 14 mo (by kernel_rfl) ?_
                   refine dr_ev rfl (ev_load_agg (lr _) rfl ty27 rfl) ?_
                   refine dr_ev rfl (ev_mv (v := .raw _) (lr _)) ?_
                   refine dr_ev rfl (ev_mv (v := .raw _) (lr _)) ?_
                   refine dr_ev rfl (ev_add (lr _) (lr _) (wr (by omega) (by omega))) ?_
                   refine dr_ev rfl (ev_fieldAddr fo23_1 (lr _)) ?_
                   refine dr_ev rfl (ev_load (lr _) rfl ty3 rfl) ?_
                   refine dr_ev rfl (ev_call en41 (lr _) (rspan_pure _ _) ⟨lr _, lr _, trivial⟩) ?_
                   refine dr_ev rfl (ev_call en40 (lr _) (rnar_pure p k hk3 _ _) ⟨lr _, lr _, lr _, trivial⟩) ?_
                   refine dr_ev rfl (ev_call en38 (lr _) ((hD (by omega))) ⟨lr _, trivial⟩) ?_
                   refine dr_ev rfl (ev_mv (v := .tup _) (lr _)) ?_
                   refine dr_ev rfl (ev_extract (lr _) rfl) ?_
                   refine dr_ev rfl (ev_extract (lr _) rfl) ?_
                   refine dr_ev rfl (ev_as (v := .raw _) (lr _)) ?_
                   refine dr_ev rfl (ev_as (v := .raw _) (lr _)) ?_
                   refine dr_end (sq_nil (aw_seq (aw_region ?_)))
                   refine mvr (lr _) rfl ?_
                   refine sq_ev rfl (ev_not (lr _)) ?_
                   refine mvr (lr _) rfl ?_
                   refine sq_split 188 (lr _) (fun g24 => ?_) (fun g24 => ?_)
                   ·
                    have g24' := g24
                    try simp only [qq] at g24'
                    first | exact absurd g24 (by decide) | (exfalso; simp at g24; done) | (exfalso; simp at g24; omega)
                   ·
                    have g24' := g24
                    try simp only [qq] at g24'
                    refine sq_yes rfl rfl (less_b g24) rfl (ev_mv (v := .raw _) (lr _)) ?_
                    refine sq_ev rfl (ev_pickF (v := .raw _) (less_b g24) (lr _)) ?_
                    refine sq_nil ?_
                    refine aw_cond (lr _) (fun c25 => ?_) (fun c25 => ?_)
                    ·
                     have c25' := c25
                     try simp only [qq] at c25'
                     first | exact absurd c25 (by decide) | (exfalso; simp at c25; done) | (exfalso; simp at c25; omega)
                    ·
                     have c25' := c25
                     try simp only [qq] at c25'
                     refine aw_skip (aw_seq (aw_region ?_))
                     refine sq_ev rfl (ev_call en21 (lr _) (known_pure) trivial) ?_
                     refine asr (lr _) rfl ?_
                     refine sq_nil (aw_ret ?_)
                     exact retQ_pure (v := .raw _) rfl rfl (lr _)
                  ·
                   have c23' := c23
                   try simp only [qq] at c23'
                   refine aw_skip (aw_seq (aw_region ?_))
                   refine sq_ev rfl (ev_call en21 (lr _) (known_pure) trivial) ?_
                   refine asr (lr _) rfl ?_
                   refine sq_nil (aw_ret ?_)
                   exact retQ_pure (v := .raw _) rfl rfl (lr _)

/-- **NightEnds returns true.** -/
theorem law5 (p : Pl) (n : Int) (_ : -9223372036854775808 ≤ n) (_ : n ≤ 9223372036854775807) : APure Tryz.prog 5 [plan p, I n] (B true) := by
  by_cases hs : p.scenes.length ≤ 12
  · cases hk : PlOK p with
    | false => exact law5_bad p n hs hk
    | true =>
      by_cases h0 : n < 0
      · exact law5_neg p n hs hk h0
      · by_cases h2 : 2 < n
        · exact law5_big p n hs hk h0 h2
        · obtain ⟨k, rfl⟩ : ∃ m : Nat, n = (m : Int) := ⟨n.toNat, by omega⟩
          have hk3 : k < 3 := by omega
          obtain ⟨gp, wp⟩ := gp_of_ok hk
          by_cases hc : (choicesC p).length = 0
          · have h31 := en_err hs (p := p) (by unfold askV; rw [if_pos ⟨hk, rfl⟩, if_neg (by omega)]; decide)
            have e7 : askV p true = 7 := by unfold askV; rw [if_pos ⟨hk, rfl⟩, if_neg (by omega)]
            rw [e7] at h31
            exact law5_nil p k hs hk hk3 h31 (poss_val hs hk (by simp [hc]))
          · obtain ⟨⟨l, hl, h, f, e⟩, ⟨m, hm, g, f', e'⟩⟩ := en_att gp wp hc hk3
            have w1 := win_in f hk3; have w2 := win_in f' hk3
            have i1 := end_in gp wp hl f hk3; have i2 := end_in gp wp hm f' hk3
            have wb := win_bd gp k
            refine law5_yes p k hs hk hk3 (endsT p 3) (endT p k (choicesC p).length).1 (endT p k (choicesC p).length).2 (endsT_len p 3) (by simp [endsT]) (en_ok hs hk hc) (poss_val hs hk (decide_eq_true (by omega))) (by omega) (by omega) (by omega) ⟨wb.1.1, wb.2.2⟩ (nar_yes hs hk hk3 ((choices_iff gp wp).1 hl).1 f e) (nar_yes hs hk hk3 ((choices_iff gp wp).1 hm).1 f' e') (fun hlt => nar_no hs hk hk3 (Int.le_refl _) (by omega) (by omega) fun l' hl' h' f'' hx => ?_) (fun hlt => nar_no hs hk hk3 (by omega) (by omega) (Int.le_refl _) fun l' hl' h' f'' hx => ?_)
            · have := end_in gp wp hl' f'' hk3; omega
            · have := end_in gp wp hl' f'' hk3; omega
  · exact law5_long p n hs

end Go.Proofs.YtjghdbdiejaacaaGreatDoor
