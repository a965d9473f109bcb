/-
  A part of the proof: conditions: none beyond each theorem's own.
-/
import Derived.Test.YtjghdbdiejaacaaGreatDoorLogicC
import Derived.Test.YtjghdbdiejaacaaGreatDoorSpecA
import Derived.KernelRfl
import Derived.Lib.LaidTab
import Derived.Lib.ItoaNum
import Derived.Test.YtjghdbdiejaacaaGreatDoorProg
import Derived.Test.YtjghdbdiejaacaaGreatDoorWalkF
import Derived.Test.YtjghdbdiejaacaaGreatDoorWalkG
import Derived.ChangeKeysEq
import Derived.Test.YtjghdbdiejaacaaGreatDoorLogicA
import Derived.Test.YtjghdbdiejaacaaGreatDoorLogicB
import Derived.Test.YtjghdbdiejaacaaGreatDoorLogicD
import Derived.Test.YtjghdbdiejaacaaGreatDoorShelf
import Derived.Test.YtjghdbdiejaacaaGreatDoorWalkA
import Derived.Test.YtjghdbdiejaacaaGreatDoorWalkB
import Derived.Test.YtjghdbdiejaacaaGreatDoorWalkC
import Derived.Test.YtjghdbdiejaacaaGreatDoorWalkD
import Derived.Test.YtjghdbdiejaacaaGreatDoorWalkE
import Derived.Test.YtjghdbdiejaacaaGreatDoorRow
set_option linter.all false
namespace Go.Proofs.YtjghdbdiejaacaaGreatDoor
open Go Go.Ab Ni
theorem en89 : Ent Tryz.prog 89 := Ent.of Tryz.func89 (by kernel_rfl) rfl
theorem en90 : Ent Tryz.prog 90 := Ent.of Tryz.func90 (by kernel_rfl) rfl
theorem en91 : Ent Tryz.prog 91 := Ent.of Tryz.func91 (by kernel_rfl) rfl
set_option maxHeartbeats 400000 in
/-- kelir/kelirref03.in -/
theorem in_pure (n lo hi : Int) : APure Tryz.prog 89 [I n, I lo, I hi] (B (inn n lo hi)) := by
 refine apure_of (rs := [.tmp 6]) Tryz.func89 rfl rfl (Nat.le_of_ble_eq_true rfl) (by simp [AV.pureL, AV.pureB, AV.pureE, pureE_map]) (rfl) fun e0 he0 => ?_
 refine aw_seq (aw_region ?_)
 refine asr (lr _) rfl ?_
 refine sq_nil (aw_seq (aw_region ?_))
 refine mvr (lr _) rfl ?_
 refine mvr (lr _) rfl ?_
 refine sq_ev rfl (ev_geq (lr _) (lr _)) ?_
 refine mvr (lr _) rfl ?_
 refine sq_split 10 (lr _) (fun g1 => ?_) (fun g1 => ?_)
 ·
  have g1' := g1
  try simp only [qq] at g1'
  refine sq_yes rfl rfl (less_b g1) rfl (ev_mv (v := .raw _) (lr _)) ?_
  refine sq_yes rfl rfl (less_b g1) rfl (ev_mv (v := .raw _) (lr _)) ?_
  refine sq_yes rfl rfl (less_b g1) rfl (ev_leq (lr _) (lr _)) ?_
  refine sq_ev rfl (ev_pickT (v := .raw _) (less_b g1) (lr _)) ?_
  refine asr (lr _) rfl ?_
  refine sq_nil (aw_ret ?_)
  exact retQ_pure (v := .raw _) rfl rfl (Less.eq (by simp [inn, *]))
 ·
  have g1' := g1
  try simp only [qq] at g1'
  refine sq_no rfl rfl (less_b g1) rfl rfl ?_
  refine sq_no rfl rfl (less_b g1) rfl rfl ?_
  refine sq_no rfl rfl (less_b g1) rfl rfl ?_
  refine sq_ev rfl (ev_pickF (v := .raw _) (less_b g1) (lr _)) ?_
  refine asr (lr _) rfl ?_
  refine sq_nil (aw_ret ?_)
  exact retQ_pure (v := .raw _) rfl rfl (Less.eq (by simp [inn, *]))

set_option maxHeartbeats 400000 in
/-- kelir/kelirref03.window -/
theorem window_pure (lo hi : Int) : APure Tryz.prog 90 [.agg [I lo, I hi]] (B (wnd lo hi)) := by
 refine apure_of (rs := [.tmp 2]) Tryz.func90 rfl rfl (Nat.le_of_ble_eq_true rfl) (by simp [AV.pureL, AV.pureB, AV.pureE, pureE_map]) (rfl) fun e0 he0 => ?_
 refine aw_seq (aw_region ?_)
 refine sq_box rfl (lr _) rfl ?_
 refine asr (lr _) rfl ?_
 refine sq_nil (aw_seq (aw_region ?_))
 refine sq_ev rfl (ev_fieldAddr fo23_0 (lr _)) ?_
 refine sq_ev rfl (ev_load (lr _) rfl ty3 rfl) ?_
 refine sq_ev rfl (ev_call en89 (lr _) (in_pure _ _ _) ⟨lr _, lr _, lr _, trivial⟩) ?_
 refine mvr (lr _) rfl ?_
 refine sq_split 6 (lr _) (fun g1 => ?_) (fun g1 => ?_)
 ·
  have g1' := g1
  try simp only [qq] at g1'
  refine sq_yes rfl rfl (less_b g1) rfl (ev_fieldAddr fo23_1 (lr _)) ?_
  refine sq_yes rfl rfl (less_b g1) rfl (ev_load (lr _) rfl ty3 rfl) ?_
  refine sq_yes rfl rfl (less_b g1) rfl (ev_fieldAddr fo23_0 (lr _)) ?_
  refine sq_yes rfl rfl (less_b g1) rfl (ev_load (lr _) rfl ty3 rfl) ?_
  refine sq_yes rfl rfl (less_b g1) rfl (ev_call en89 (lr _) (in_pure _ _ _) ⟨lr _, lr _, lr _, trivial⟩) ?_
  refine sq_ev rfl (ev_pickT (v := .raw _) (less_b g1) (lr _)) ?_
  refine mvr (lr _) rfl ?_
  refine sq_split 13 (lr _) (fun g2 => ?_) (fun g2 => ?_)
  ·
   have g2' := g2
   try simp only [qq] at g2'
   simp only [inn, Bool.and_eq_true, decide_eq_true_eq] at g1' g2'
   refine sq_yes rfl rfl (less_b g2) rfl (ev_fieldAddr fo23_1 (lr _)) ?_
   refine sq_yes rfl rfl (less_b g2) rfl (ev_load (lr _) rfl ty3 rfl) ?_
   refine sq_yes rfl rfl (less_b g2) rfl (ev_fieldAddr fo23_0 (lr _)) ?_
   refine sq_yes rfl rfl (less_b g2) rfl (ev_load (lr _) rfl ty3 rfl) ?_
   refine sq_yes rfl rfl (less_b g2) rfl (ev_sub (lr _) (lr _) (wr (by omega) (by omega))) ?_
   refine sq_yes rfl rfl (less_b g2) rfl (ev_leq (lr _) (lr _)) ?_
   refine sq_ev rfl (ev_pickT (v := .raw _) (less_b g2) (lr _)) ?_
   refine asr (lr _) rfl ?_
   refine sq_nil (aw_ret ?_)
   exact retQ_pure (v := .raw _) rfl rfl (Less.eq (by simp [wnd, *]))
  ·
   have g2' := g2
   try simp only [qq] at g2'
   refine sq_no rfl rfl (less_b g2) rfl rfl ?_
   refine sq_no rfl rfl (less_b g2) rfl rfl ?_
   refine sq_no rfl rfl (less_b g2) rfl rfl ?_
   refine sq_no rfl rfl (less_b g2) rfl rfl ?_
   refine sq_no rfl rfl (less_b g2) rfl rfl ?_
   refine sq_no rfl rfl (less_b g2) rfl rfl ?_
   refine sq_ev rfl (ev_pickF (v := .raw _) (less_b g2) (lr _)) ?_
   refine asr (lr _) rfl ?_
   refine sq_nil (aw_ret ?_)
   exact retQ_pure (v := .raw _) rfl rfl (Less.eq (by simp [wnd, *]))
 ·
  have g1' := g1
  try simp only [qq] at g1'
  refine sq_no rfl rfl (less_b g1) rfl rfl ?_
  refine sq_no rfl rfl (less_b g1) rfl rfl ?_
  refine sq_no rfl rfl (less_b g1) rfl rfl ?_
  refine sq_no rfl rfl (less_b g1) rfl rfl ?_
  refine sq_no rfl rfl (less_b g1) rfl rfl ?_
  refine sq_ev rfl (ev_pickF (v := .raw _) (less_b g1) (lr _)) ?_
  refine mvr (lr _) rfl ?_
  refine sq_no rfl rfl (lr _) rfl rfl ?_
  refine sq_no rfl rfl (lr _) rfl rfl ?_
  refine sq_no rfl rfl (lr _) rfl rfl ?_
  refine sq_no rfl rfl (lr _) rfl rfl ?_
  refine sq_no rfl rfl (lr _) rfl rfl ?_
  refine sq_no rfl rfl (lr _) rfl rfl ?_
  refine sq_ev rfl (ev_pickF (v := .raw _) (lr _) (lr _)) ?_
  refine asr (lr _) rfl ?_
  refine sq_nil (aw_ret ?_)
  exact retQ_pure (v := .raw _) rfl rfl (Less.eq (by simp [wnd, *]))

set_option maxHeartbeats 2000000 in
/-- kelir/kelirref03.scenes -/
theorem scenes_pure (p : Pl) (hl : p.scenes.length ≤ 1000000) : APure Tryz.prog 91 [plan p] (B (decide (ScOK p.scenes))) := by
 refine apure_of (rs := [.tmp 2]) Tryz.func91 rfl rfl (Nat.le_of_ble_eq_true rfl) (by simp [AV.pureL, AV.pureB, AV.pureE, pureE_map]) (rfl) fun e0 he0 => ?_
 refine aw_seq (aw_region ?_)
 refine sq_box rfl (lr _) rfl ?_
 refine asr (lr _) rfl ?_
 refine sq_nil (aw_seq (aw_region ?_))
 refine asr (lr _) rfl ?_
 refine sq_nil (aw_seq (aw_seq (aw_region ?_)))
 refine asr (lr _) rfl ?_
 refine sq_nil (aw_block ?_)
 refine aw_loopk (ι := { k : Nat // k ≤ p.scenes.length ∧ ∀ i, (h : i < p.scenes.length) → i < k → scBad p.scenes i h = false }) [1] (fun i => [(3, I (loosies (p.scenes.take i.1))), (4, I i.1)]) (fun H i => H) (fun i => p.scenes.length - i.1) (⟨0, Nat.zero_le _, by omega⟩) ⟨lr _, lr _, lr _, trivial⟩ rfl ?_
 rintro ⟨k, hk, hok⟩
 dsimp only [keepS, St.put, sget, slotsOf, List.map_cons, List.map_nil, List.cons_append, List.nil_append, List.length_cons, List.length_nil, Nat.reduceBEq, Nat.reduceAdd, cond_true, cond_false]
 have hlo := loosies_le (p.scenes.take k)
 have hlt := List.length_take_le k p.scenes
 refine aw_seq (aw_seq (aw_region ?_))
 refine mvr (lr _) rfl ?_
 refine sq_ev rfl (ev_fieldAddr fo27_3 (lr _)) ?_
 refine sq_ev rfl (ev_load (lr _) rfl ty25 rfl) ?_
 refine sq_ev rfl (ev_len_map sl25 (lr _)) ?_
 refine sq_ev rfl (ev_lss (lr _) (lr _)) ?_
 refine sq_nil ?_
 refine aw_cond (lr _) (fun c1 => ?_) (fun c1 => ?_)
 ·
  have c1' := c1
  try simp only [qq] at c1'
  refine aw_skip (aw_seq (aw_block (aw_seq (aw_region ?_))))
  refine sq_ev rfl (ev_fieldAddr fo27_3 (lr _)) ?_
  refine sq_ev rfl (ev_load (lr _) rfl ty25 rfl) ?_
  refine mvr (lr _) rfl ?_
  refine sq_ev rfl (ev_index_map sl25 (lr _) (lr _) rfl (by omega)) ?_
  refine sq_ev rfl (ev_load_agg_i (lr _) ty84 (Nat.le_of_ble_eq_true rfl)) ?_
  refine sq_alloc rfl z84 ?_
  refine sq_store rfl (lr _) (lr _) rfl rfl ty84 rfl rfl ?_
  refine sq_nil (aw_seq (aw_seq ?_))
  refine aw_draw 50 mo (by kernel_rfl) ?_
  refine dr_ev rfl (ev_fieldAddr fo84_0 (lr _)) ?_
  refine dr_ev rfl (ev_load (lr _) rfl ty3 rfl) ?_
  refine dr_ev rfl (ev_call en89 (lr _) (in_pure _ _ _) ⟨lr _, lr _, lr _, trivial⟩) ?_
  refine dr_ev rfl (ev_not (lr _)) ?_
  refine dr_ev rfl (ev_mv (v := .raw _) (lr _)) ?_
  refine dr_split 22 (lr _) (fun g2 => ?_) (fun g2 => ?_)
  ·
   have g2' := g2
   try simp only [qq] at g2'
   refine dr_no rfl rfl (less_b g2) rfl rfl ?_
   refine dr_no rfl rfl (less_b g2) rfl rfl ?_
   refine dr_no rfl rfl (less_b g2) rfl rfl ?_
   refine dr_no rfl rfl (lr _) rfl rfl ?_
   refine dr_no rfl rfl (lr _) rfl rfl ?_
   refine dr_no rfl rfl (lr _) rfl rfl ?_
   refine dr_no rfl rfl (lr _) rfl rfl ?_
   refine dr_no rfl rfl (lr _) rfl rfl ?_
   refine dr_no rfl rfl (lr _) rfl rfl ?_
   refine dr_no rfl rfl (lr _) rfl rfl ?_
   refine dr_no rfl rfl (lr _) rfl rfl ?_
   refine dr_no rfl rfl (lr _) rfl rfl ?_
   refine dr_no rfl rfl (lr _) rfl rfl ?_
   refine dr_no rfl rfl (less_b g2) rfl rfl ?_
   refine dr_ev rfl (ev_pickT (v := .raw _) (less_b g2) (lr _)) ?_
   refine dr_ev rfl (ev_mv (v := .raw _) (lr _)) ?_
   refine dr_no rfl rfl (lr _) rfl rfl ?_
   refine dr_no rfl rfl (lr _) rfl rfl ?_
   refine dr_no rfl rfl (lr _) rfl rfl ?_
   refine dr_no rfl rfl (lr _) rfl rfl ?_
   refine dr_ev rfl (ev_pickT (v := .raw _) (lr _) (lr _)) ?_
   refine dr_ev rfl (ev_mv (v := .raw _) (lr _)) ?_
   refine dr_no rfl rfl (lr _) rfl rfl ?_
   refine dr_no rfl rfl (lr _) rfl rfl ?_
   refine dr_no rfl rfl (lr _) rfl rfl ?_
   refine dr_no rfl rfl (lr _) rfl rfl ?_
   refine dr_no rfl rfl (lr _) rfl rfl ?_
   refine dr_no rfl rfl (lr _) rfl rfl ?_
   refine dr_ev rfl (ev_pickT (v := .raw _) (lr _) (lr _)) ?_
   refine dr_ev rfl (ev_mv (v := .raw _) (lr _)) ?_
   refine dr_no rfl rfl (lr _) rfl rfl ?_
   refine dr_no rfl rfl (lr _) rfl rfl ?_
   refine dr_no rfl rfl (lr _) rfl rfl ?_
   refine dr_no rfl rfl (lr _) rfl rfl ?_
   refine dr_no rfl rfl (lr _) rfl rfl ?_
   refine dr_no rfl rfl (lr _) rfl rfl ?_
   refine dr_no rfl rfl (lr _) rfl rfl ?_
   refine dr_no rfl rfl (lr _) rfl rfl ?_
   refine dr_ev rfl (ev_pickT (v := .raw _) (lr _) (lr _)) ?_
   refine dr_ev rfl (ev_mv (v := .raw _) (lr _)) ?_
   refine dr_no rfl rfl (lr _) rfl rfl ?_
   refine dr_no rfl rfl (lr _) rfl rfl ?_
   refine dr_no rfl rfl (lr _) rfl rfl ?_
   refine dr_no rfl rfl (lr _) rfl rfl ?_
   refine dr_ev rfl (ev_pickT (v := .raw _) (lr _) (lr _)) ?_
   refine dr_end (sq_nil ?_)
   refine aw_true (lr _) ?_
   refine aw_seq (aw_region ?_)
   refine asr (lr _) rfl ?_
   refine sq_nil (aw_ret ?_)
   exact retQ_pure (v := .raw _) rfl rfl (Less.eq (by rw [scOK_bad (i := k) (by omega) (by simp [scBad, *])]))
  ·
   have g2' := g2
   try simp only [qq] at g2'
   refine dr_yes rfl rfl (less_b g2) rfl (ev_mv (v := .raw _) (lr _)) ?_
   refine dr_yes rfl rfl (less_b g2) rfl (ev_gtr (lr _) (lr _)) ?_
   refine dr_yes rfl rfl (less_b g2) rfl (ev_mv (v := .raw _) (lr _)) ?_
   refine dr_split 25 (lr _) (fun g3 => ?_) (fun g3 => ?_)
   ·
    have g3' := g3
    try simp only [qq] at g3'
    have g3n : 0 < k := by omega
    refine dr_yes rfl rfl (less_b g3) rfl (ev_fieldAddr fo84_0 (lr _)) ?_
    refine dr_yes rfl rfl (less_b g3) rfl (ev_load (lr _) rfl ty3 rfl) ?_
    refine dr_yes rfl rfl (less_b g3) rfl (ev_fieldAddr fo27_3 (lr _)) ?_
    refine dr_yes rfl rfl (less_b g3) rfl (ev_load (lr _) rfl ty25 rfl) ?_
    refine dr_yes rfl rfl (less_b g3) rfl (ev_mv (v := .raw _) (lr _)) ?_
    refine dr_yes rfl rfl (less_b g3) rfl (ev_sub (lr _) (lr _) (wr (by omega) (by omega))) ?_
    refine dr_yes rfl rfl (less_b g3) rfl (ev_index_map sl25 (lr _) (lr _) (show ((k : Int) - 1) = ((k - 1 : Nat) : Int) by omega) (by omega)) ?_
    refine dr_yes rfl rfl (less_b g3) rfl (ev_fieldAddr_i fo84_0 (lr _)) ?_
    refine dr_yes rfl rfl (less_b g3) rfl (ev_load_i (lr _) ty3 rfl) ?_
    refine dr_yes rfl rfl (less_b g3) rfl (ev_lss (lr _) (lr _)) ?_
    refine dr_yes rfl rfl (less_b g2) rfl (ev_pickT (v := .raw _) (less_b g3) (lr _)) ?_
    refine dr_ev rfl (ev_pickF (v := .raw _) (less_b g2) (lr _)) ?_
    refine dr_ev rfl (ev_mv (v := .raw _) (lr _)) ?_
    refine dr_split 38 (lr _) (fun g4 => ?_) (fun g4 => ?_)
    ·
     have g4' := g4
     try simp only [qq] at g4'
     refine dr_no rfl rfl (less_b g4) rfl rfl ?_
     refine dr_no rfl rfl (less_b g4) rfl rfl ?_
     refine dr_no rfl rfl (less_b g4) rfl rfl ?_
     refine dr_no rfl rfl (less_b g4) rfl rfl ?_
     refine dr_ev rfl (ev_pickT (v := .raw _) (less_b g4) (lr _)) ?_
     refine dr_ev rfl (ev_mv (v := .raw _) (lr _)) ?_
     refine dr_no rfl rfl (lr _) rfl rfl ?_
     refine dr_no rfl rfl (lr _) rfl rfl ?_
     refine dr_no rfl rfl (lr _) rfl rfl ?_
     refine dr_no rfl rfl (lr _) rfl rfl ?_
     refine dr_no rfl rfl (lr _) rfl rfl ?_
     refine dr_no rfl rfl (lr _) rfl rfl ?_
     refine dr_ev rfl (ev_pickT (v := .raw _) (lr _) (lr _)) ?_
     refine dr_ev rfl (ev_mv (v := .raw _) (lr _)) ?_
     refine dr_no rfl rfl (lr _) rfl rfl ?_
     refine dr_no rfl rfl (lr _) rfl rfl ?_
     refine dr_no rfl rfl (lr _) rfl rfl ?_
     refine dr_no rfl rfl (lr _) rfl rfl ?_
     refine dr_no rfl rfl (lr _) rfl rfl ?_
     refine dr_no rfl rfl (lr _) rfl rfl ?_
     refine dr_no rfl rfl (lr _) rfl rfl ?_
     refine dr_no rfl rfl (lr _) rfl rfl ?_
     refine dr_ev rfl (ev_pickT (v := .raw _) (lr _) (lr _)) ?_
     refine dr_ev rfl (ev_mv (v := .raw _) (lr _)) ?_
     refine dr_no rfl rfl (lr _) rfl rfl ?_
     refine dr_no rfl rfl (lr _) rfl rfl ?_
     refine dr_no rfl rfl (lr _) rfl rfl ?_
     refine dr_no rfl rfl (lr _) rfl rfl ?_
     refine dr_ev rfl (ev_pickT (v := .raw _) (lr _) (lr _)) ?_
     refine dr_end (sq_nil ?_)
     refine aw_true (lr _) ?_
     refine aw_seq (aw_region ?_)
     refine asr (lr _) rfl ?_
     refine sq_nil (aw_ret ?_)
     exact retQ_pure (v := .raw _) rfl rfl (Less.eq (by rw [scOK_bad (i := k) (by omega) (by simp [scBad, *])]))
    ·
     have g4' := g4
     try simp only [qq] at g4'
     refine dr_yes rfl rfl (less_b g4) rfl (ev_fieldAddr fo84_1 (lr _)) ?_
     refine dr_yes rfl rfl (less_b g4) rfl (ev_load (lr _) rfl ty3 rfl) ?_
     refine dr_yes rfl rfl (less_b g4) rfl (ev_call en89 (lr _) (in_pure _ _ _) ⟨lr _, lr _, lr _, trivial⟩) ?_
     refine dr_yes rfl rfl (less_b g4) rfl (ev_not (lr _)) ?_
     refine dr_ev rfl (ev_pickF (v := .raw _) (less_b g4) (lr _)) ?_
     refine dr_ev rfl (ev_mv (v := .raw _) (lr _)) ?_
     refine dr_split 44 (lr _) (fun g5 => ?_) (fun g5 => ?_)
     ·
      have g5' := g5
      try simp only [qq] at g5'
      refine dr_no rfl rfl (less_b g5) rfl rfl ?_
      refine dr_no rfl rfl (less_b g5) rfl rfl ?_
      refine dr_no rfl rfl (less_b g5) rfl rfl ?_
      refine dr_no rfl rfl (less_b g5) rfl rfl ?_
      refine dr_no rfl rfl (less_b g5) rfl rfl ?_
      refine dr_no rfl rfl (less_b g5) rfl rfl ?_
      refine dr_ev rfl (ev_pickT (v := .raw _) (less_b g5) (lr _)) ?_
      refine dr_ev rfl (ev_mv (v := .raw _) (lr _)) ?_
      refine dr_no rfl rfl (lr _) rfl rfl ?_
      refine dr_no rfl rfl (lr _) rfl rfl ?_
      refine dr_no rfl rfl (lr _) rfl rfl ?_
      refine dr_no rfl rfl (lr _) rfl rfl ?_
      refine dr_no rfl rfl (lr _) rfl rfl ?_
      refine dr_no rfl rfl (lr _) rfl rfl ?_
      refine dr_no rfl rfl (lr _) rfl rfl ?_
      refine dr_no rfl rfl (lr _) rfl rfl ?_
      refine dr_ev rfl (ev_pickT (v := .raw _) (lr _) (lr _)) ?_
      refine dr_ev rfl (ev_mv (v := .raw _) (lr _)) ?_
      refine dr_no rfl rfl (lr _) rfl rfl ?_
      refine dr_no rfl rfl (lr _) rfl rfl ?_
      refine dr_no rfl rfl (lr _) rfl rfl ?_
      refine dr_no rfl rfl (lr _) rfl rfl ?_
      refine dr_ev rfl (ev_pickT (v := .raw _) (lr _) (lr _)) ?_
      refine dr_end (sq_nil ?_)
      refine aw_true (lr _) ?_
      refine aw_seq (aw_region ?_)
      refine asr (lr _) rfl ?_
      refine sq_nil (aw_ret ?_)
      exact retQ_pure (v := .raw _) rfl rfl (Less.eq (by rw [scOK_bad (i := k) (by omega) (by simp [scBad, *])]))
     ·
      have g5' := g5
      try simp only [qq] at g5'
      refine dr_yes rfl rfl (less_b g5) rfl (ev_fieldAddr fo84_2 (lr _)) ?_
      refine dr_yes rfl rfl (less_b g5) rfl (ev_load (lr _) rfl ty3 rfl) ?_
      refine dr_yes rfl rfl (less_b g5) rfl (ev_fieldAddr fo84_1 (lr _)) ?_
      refine dr_yes rfl rfl (less_b g5) rfl (ev_load (lr _) rfl ty3 rfl) ?_
      refine dr_yes rfl rfl (less_b g5) rfl (ev_call en89 (lr _) (in_pure _ _ _) ⟨lr _, lr _, lr _, trivial⟩) ?_
      refine dr_yes rfl rfl (less_b g5) rfl (ev_not (lr _)) ?_
      refine dr_ev rfl (ev_pickF (v := .raw _) (less_b g5) (lr _)) ?_
      refine dr_ev rfl (ev_mv (v := .raw _) (lr _)) ?_
      refine dr_split 52 (lr _) (fun g6 => ?_) (fun g6 => ?_)
      ·
       have g6' := g6
       try simp only [qq] at g6'
       refine dr_no rfl rfl (less_b g6) rfl rfl ?_
       refine dr_no rfl rfl (less_b g6) rfl rfl ?_
       refine dr_no rfl rfl (less_b g6) rfl rfl ?_
       refine dr_no rfl rfl (less_b g6) rfl rfl ?_
       refine dr_no rfl rfl (less_b g6) rfl rfl ?_
       refine dr_no rfl rfl (less_b g6) rfl rfl ?_
       refine dr_no rfl rfl (less_b g6) rfl rfl ?_
       refine dr_no rfl rfl (less_b g6) rfl rfl ?_
       refine dr_ev rfl (ev_pickT (v := .raw _) (less_b g6) (lr _)) ?_
       refine dr_ev rfl (ev_mv (v := .raw _) (lr _)) ?_
       refine dr_no rfl rfl (lr _) rfl rfl ?_
       refine dr_no rfl rfl (lr _) rfl rfl ?_
       refine dr_no rfl rfl (lr _) rfl rfl ?_
       refine dr_no rfl rfl (lr _) rfl rfl ?_
       refine dr_ev rfl (ev_pickT (v := .raw _) (lr _) (lr _)) ?_
       refine dr_end (sq_nil ?_)
       refine aw_true (lr _) ?_
       refine aw_seq (aw_region ?_)
       refine asr (lr _) rfl ?_
       refine sq_nil (aw_ret ?_)
       exact retQ_pure (v := .raw _) rfl rfl (Less.eq (by rw [scOK_bad (i := k) (by omega) (by simp [scBad, *])]))
      ·
       have g6' := g6
       try simp only [qq] at g6'
       refine dr_yes rfl rfl (less_b g6) rfl (ev_fieldAddr fo84_4 (lr _)) ?_
       refine dr_yes rfl rfl (less_b g6) rfl (ev_load (lr _) rfl ty3 rfl) ?_
       refine dr_yes rfl rfl (less_b g6) rfl (ev_fieldAddr fo27_3 (lr _)) ?_
       refine dr_yes rfl rfl (less_b g6) rfl (ev_load (lr _) rfl ty25 rfl) ?_
       refine dr_yes rfl rfl (less_b g6) rfl (ev_len_map sl25 (lr _)) ?_
       refine dr_yes rfl rfl (less_b g6) rfl (ev_sub (lr _) (lr _) (wr (by omega) (by omega))) ?_
       refine dr_yes rfl rfl (less_b g6) rfl (ev_call en89 (lr _) (in_pure _ _ _) ⟨lr _, lr _, lr _, trivial⟩) ?_
       refine dr_yes rfl rfl (less_b g6) rfl (ev_not (lr _)) ?_
       refine dr_ev rfl (ev_pickF (v := .raw _) (less_b g6) (lr _)) ?_
       refine dr_ev rfl (ev_mv (v := .raw _) (lr _)) ?_
       refine dr_split 62 (lr _) (fun g7 => ?_) (fun g7 => ?_)
       ·
        have g7' := g7
        try simp only [qq] at g7'
        refine dr_no rfl rfl (less_b g7) rfl rfl ?_
        refine dr_no rfl rfl (less_b g7) rfl rfl ?_
        refine dr_no rfl rfl (less_b g7) rfl rfl ?_
        refine dr_no rfl rfl (less_b g7) rfl rfl ?_
        refine dr_ev rfl (ev_pickT (v := .raw _) (less_b g7) (lr _)) ?_
        refine dr_end (sq_nil ?_)
        refine aw_true (lr _) ?_
        refine aw_seq (aw_region ?_)
        refine asr (lr _) rfl ?_
        refine sq_nil (aw_ret ?_)
        exact retQ_pure (v := .raw _) rfl rfl (Less.eq (by rw [scOK_bad (i := k) (by omega) (by simp [scBad, *])]))
       ·
        have g7' := g7
        try simp only [qq] at g7'
        refine dr_yes rfl rfl (less_b g7) rfl (ev_fieldAddr fo84_4 (lr _)) ?_
        refine dr_yes rfl rfl (less_b g7) rfl (ev_load (lr _) rfl ty3 rfl) ?_
        refine dr_yes rfl rfl (less_b g7) rfl (ev_mv (v := .raw _) (lr _)) ?_
        refine dr_yes rfl rfl (less_b g7) rfl (ev_eql (lr _) (lr _)) ?_
        refine dr_ev rfl (ev_pickF (v := .raw _) (less_b g7) (lr _)) ?_
        refine dr_end (sq_nil ?_)
        refine aw_cond (lr _) (fun c8 => ?_) (fun c8 => ?_)
        ·
         have c8' := c8
         try simp only [qq] at c8'
         refine aw_seq (aw_region ?_)
         refine asr (lr _) rfl ?_
         refine sq_nil (aw_ret ?_)
         exact retQ_pure (v := .raw _) rfl rfl (Less.eq (by rw [scOK_bad (i := k) (by omega) (by simp [scBad, *])]))
        ·
         have c8' := c8
         try simp only [qq] at c8'
         refine aw_skip (aw_seq (aw_region ?_))
         refine sq_ev rfl (ev_fieldAddr fo84_3 (lr _)) ?_
         refine sq_ev rfl (ev_load (lr _) rfl ty4 rfl) ?_
         refine sq_nil ?_
         refine aw_cond (lr _) (fun c9 => ?_) (fun c9 => ?_)
         ·
          have c9' := c9
          try simp only [qq] at c9'
          refine aw_region ?_
          refine mvr (lr _) rfl ?_
          refine sq_ev rfl (ev_add (lr _) (lr _) (wr (by omega) (by omega))) ?_
          refine asr (lr _) rfl ?_
          refine sq_nil (aw_region ?_)
          refine mvr (lr _) rfl ?_
          refine sq_ev rfl (ev_add (lr _) (lr _) (wr (by omega) (by omega))) ?_
          refine asr (lr _) rfl ?_
          refine sq_nil ?_
          have hstep := loosies_take (l := p.scenes) (k := k) (by omega)
          have hgood : scBad p.scenes k (by omega) = false := by simp [scBad, *]
          exact ⟨⟨k + 1, by omega, fun i h hi => (by by_cases e : i = k; (subst e; exact hgood); exact hok i h (by omega))⟩, by simp only; omega, Sub.fin 1 ⟨less_int (by rw [hstep]; simp [*]), lr _, lr _, trivial⟩ rfl (by simp [slotsIn, objsIn, sget, keepS, AObj.inB, AV.inB, AV.inL, AV.inE, inE_map]) (by simp [slotsIn, objsIn, sget, keepS, AObj.inB, AV.inB, AV.inL, AV.inE, inE_map]) (by simp [he0])⟩
         ·
          have c9' := c9
          try simp only [qq] at c9'
          refine aw_skip (aw_region ?_)
          refine mvr (lr _) rfl ?_
          refine sq_ev rfl (ev_add (lr _) (lr _) (wr (by omega) (by omega))) ?_
          refine asr (lr _) rfl ?_
          refine sq_nil ?_
          have hstep := loosies_take (l := p.scenes) (k := k) (by omega)
          have hgood : scBad p.scenes k (by omega) = false := by simp [scBad, *]
          exact ⟨⟨k + 1, by omega, fun i h hi => (by by_cases e : i = k; (subst e; exact hgood); exact hok i h (by omega))⟩, by simp only; omega, Sub.fin 1 ⟨less_int (by rw [hstep]; simp [*]), lr _, lr _, trivial⟩ rfl (by simp [slotsIn, objsIn, sget, keepS, AObj.inB, AV.inB, AV.inL, AV.inE, inE_map]) (by simp [slotsIn, objsIn, sget, keepS, AObj.inB, AV.inB, AV.inL, AV.inE, inE_map]) (by simp [he0])⟩
   ·
    have g3' := g3
    try simp only [qq] at g3'
    have g3n : ¬ (0 < k) := by omega
    refine dr_no rfl rfl (less_b g3) rfl rfl ?_
    refine dr_no rfl rfl (less_b g3) rfl rfl ?_
    refine dr_no rfl rfl (less_b g3) rfl rfl ?_
    refine dr_no rfl rfl (less_b g3) rfl rfl ?_
    refine dr_no rfl rfl (less_b g3) rfl rfl ?_
    refine dr_no rfl rfl (less_b g3) rfl rfl ?_
    refine dr_no rfl rfl (less_b g3) rfl rfl ?_
    refine dr_no rfl rfl (less_b g3) rfl rfl ?_
    refine dr_no rfl rfl (less_b g3) rfl rfl ?_
    refine dr_no rfl rfl (less_b g3) rfl rfl ?_
    refine dr_yes rfl rfl (less_b g2) rfl (ev_pickF (v := .raw _) (less_b g3) (lr _)) ?_
    refine dr_ev rfl (ev_pickF (v := .raw _) (less_b g2) (lr _)) ?_
    refine dr_ev rfl (ev_mv (v := .raw _) (lr _)) ?_
    refine dr_yes rfl rfl (lr _) rfl (ev_fieldAddr fo84_1 (lr _)) ?_
    refine dr_yes rfl rfl (lr _) rfl (ev_load (lr _) rfl ty3 rfl) ?_
    refine dr_yes rfl rfl (lr _) rfl (ev_call en89 (lr _) (in_pure _ _ _) ⟨lr _, lr _, lr _, trivial⟩) ?_
    refine dr_yes rfl rfl (lr _) rfl (ev_not (lr _)) ?_
    refine dr_ev rfl (ev_pickF (v := .raw _) (lr _) (lr _)) ?_
    refine dr_ev rfl (ev_mv (v := .raw _) (lr _)) ?_
    refine dr_split 44 (lr _) (fun g10 => ?_) (fun g10 => ?_)
    ·
     have g10' := g10
     try simp only [qq] at g10'
     refine dr_no rfl rfl (less_b g10) rfl rfl ?_
     refine dr_no rfl rfl (less_b g10) rfl rfl ?_
     refine dr_no rfl rfl (less_b g10) rfl rfl ?_
     refine dr_no rfl rfl (less_b g10) rfl rfl ?_
     refine dr_no rfl rfl (less_b g10) rfl rfl ?_
     refine dr_no rfl rfl (less_b g10) rfl rfl ?_
     refine dr_ev rfl (ev_pickT (v := .raw _) (less_b g10) (lr _)) ?_
     refine dr_ev rfl (ev_mv (v := .raw _) (lr _)) ?_
     refine dr_no rfl rfl (lr _) rfl rfl ?_
     refine dr_no rfl rfl (lr _) rfl rfl ?_
     refine dr_no rfl rfl (lr _) rfl rfl ?_
     refine dr_no rfl rfl (lr _) rfl rfl ?_
     refine dr_no rfl rfl (lr _) rfl rfl ?_
     refine dr_no rfl rfl (lr _) rfl rfl ?_
     refine dr_no rfl rfl (lr _) rfl rfl ?_
     refine dr_no rfl rfl (lr _) rfl rfl ?_
     refine dr_ev rfl (ev_pickT (v := .raw _) (lr _) (lr _)) ?_
     refine dr_ev rfl (ev_mv (v := .raw _) (lr _)) ?_
     refine dr_no rfl rfl (lr _) rfl rfl ?_
     refine dr_no rfl rfl (lr _) rfl rfl ?_
     refine dr_no rfl rfl (lr _) rfl rfl ?_
     refine dr_no rfl rfl (lr _) rfl rfl ?_
     refine dr_ev rfl (ev_pickT (v := .raw _) (lr _) (lr _)) ?_
     refine dr_end (sq_nil ?_)
     refine aw_true (lr _) ?_
     refine aw_seq (aw_region ?_)
     refine asr (lr _) rfl ?_
     refine sq_nil (aw_ret ?_)
     exact retQ_pure (v := .raw _) rfl rfl (Less.eq (by rw [scOK_bad (i := k) (by omega) (by simp [scBad, *])]))
    ·
     have g10' := g10
     try simp only [qq] at g10'
     refine dr_yes rfl rfl (less_b g10) rfl (ev_fieldAddr fo84_2 (lr _)) ?_
     refine dr_yes rfl rfl (less_b g10) rfl (ev_load (lr _) rfl ty3 rfl) ?_
     refine dr_yes rfl rfl (less_b g10) rfl (ev_fieldAddr fo84_1 (lr _)) ?_
     refine dr_yes rfl rfl (less_b g10) rfl (ev_load (lr _) rfl ty3 rfl) ?_
     refine dr_yes rfl rfl (less_b g10) rfl (ev_call en89 (lr _) (in_pure _ _ _) ⟨lr _, lr _, lr _, trivial⟩) ?_
     refine dr_yes rfl rfl (less_b g10) rfl (ev_not (lr _)) ?_
     refine dr_ev rfl (ev_pickF (v := .raw _) (less_b g10) (lr _)) ?_
     refine dr_ev rfl (ev_mv (v := .raw _) (lr _)) ?_
     refine dr_split 52 (lr _) (fun g11 => ?_) (fun g11 => ?_)
     ·
      have g11' := g11
      try simp only [qq] at g11'
      refine dr_no rfl rfl (less_b g11) rfl rfl ?_
      refine dr_no rfl rfl (less_b g11) rfl rfl ?_
      refine dr_no rfl rfl (less_b g11) rfl rfl ?_
      refine dr_no rfl rfl (less_b g11) rfl rfl ?_
      refine dr_no rfl rfl (less_b g11) rfl rfl ?_
      refine dr_no rfl rfl (less_b g11) rfl rfl ?_
      refine dr_no rfl rfl (less_b g11) rfl rfl ?_
      refine dr_no rfl rfl (less_b g11) rfl rfl ?_
      refine dr_ev rfl (ev_pickT (v := .raw _) (less_b g11) (lr _)) ?_
      refine dr_ev rfl (ev_mv (v := .raw _) (lr _)) ?_
      refine dr_no rfl rfl (lr _) rfl rfl ?_
      refine dr_no rfl rfl (lr _) rfl rfl ?_
      refine dr_no rfl rfl (lr _) rfl rfl ?_
      refine dr_no rfl rfl (lr _) rfl rfl ?_
      refine dr_ev rfl (ev_pickT (v := .raw _) (lr _) (lr _)) ?_
      refine dr_end (sq_nil ?_)
      refine aw_true (lr _) ?_
      refine aw_seq (aw_region ?_)
      refine asr (lr _) rfl ?_
      refine sq_nil (aw_ret ?_)
      exact retQ_pure (v := .raw _) rfl rfl (Less.eq (by rw [scOK_bad (i := k) (by omega) (by simp [scBad, *])]))
     ·
      have g11' := g11
      try simp only [qq] at g11'
      refine dr_yes rfl rfl (less_b g11) rfl (ev_fieldAddr fo84_4 (lr _)) ?_
      refine dr_yes rfl rfl (less_b g11) rfl (ev_load (lr _) rfl ty3 rfl) ?_
      refine dr_yes rfl rfl (less_b g11) rfl (ev_fieldAddr fo27_3 (lr _)) ?_
      refine dr_yes rfl rfl (less_b g11) rfl (ev_load (lr _) rfl ty25 rfl) ?_
      refine dr_yes rfl rfl (less_b g11) rfl (ev_len_map sl25 (lr _)) ?_
      refine dr_yes rfl rfl (less_b g11) rfl (ev_sub (lr _) (lr _) (wr (by omega) (by omega))) ?_
      refine dr_yes rfl rfl (less_b g11) rfl (ev_call en89 (lr _) (in_pure _ _ _) ⟨lr _, lr _, lr _, trivial⟩) ?_
      refine dr_yes rfl rfl (less_b g11) rfl (ev_not (lr _)) ?_
      refine dr_ev rfl (ev_pickF (v := .raw _) (less_b g11) (lr _)) ?_
      refine dr_ev rfl (ev_mv (v := .raw _) (lr _)) ?_
      refine dr_split 62 (lr _) (fun g12 => ?_) (fun g12 => ?_)
      ·
       have g12' := g12
       try simp only [qq] at g12'
       refine dr_no rfl rfl (less_b g12) rfl rfl ?_
       refine dr_no rfl rfl (less_b g12) rfl rfl ?_
       refine dr_no rfl rfl (less_b g12) rfl rfl ?_
       refine dr_no rfl rfl (less_b g12) rfl rfl ?_
       refine dr_ev rfl (ev_pickT (v := .raw _) (less_b g12) (lr _)) ?_
       refine dr_end (sq_nil ?_)
       refine aw_true (lr _) ?_
       refine aw_seq (aw_region ?_)
       refine asr (lr _) rfl ?_
       refine sq_nil (aw_ret ?_)
       exact retQ_pure (v := .raw _) rfl rfl (Less.eq (by rw [scOK_bad (i := k) (by omega) (by simp [scBad, *])]))
      ·
       have g12' := g12
       try simp only [qq] at g12'
       refine dr_yes rfl rfl (less_b g12) rfl (ev_fieldAddr fo84_4 (lr _)) ?_
       refine dr_yes rfl rfl (less_b g12) rfl (ev_load (lr _) rfl ty3 rfl) ?_
       refine dr_yes rfl rfl (less_b g12) rfl (ev_mv (v := .raw _) (lr _)) ?_
       refine dr_yes rfl rfl (less_b g12) rfl (ev_eql (lr _) (lr _)) ?_
       refine dr_ev rfl (ev_pickF (v := .raw _) (less_b g12) (lr _)) ?_
       refine dr_end (sq_nil ?_)
       refine aw_cond (lr _) (fun c13 => ?_) (fun c13 => ?_)
       ·
        have c13' := c13
        try simp only [qq] at c13'
        refine aw_seq (aw_region ?_)
        refine asr (lr _) rfl ?_
        refine sq_nil (aw_ret ?_)
        exact retQ_pure (v := .raw _) rfl rfl (Less.eq (by rw [scOK_bad (i := k) (by omega) (by simp [scBad, *])]))
       ·
        have c13' := c13
        try simp only [qq] at c13'
        refine aw_skip (aw_seq (aw_region ?_))
        refine sq_ev rfl (ev_fieldAddr fo84_3 (lr _)) ?_
        refine sq_ev rfl (ev_load (lr _) rfl ty4 rfl) ?_
        refine sq_nil ?_
        refine aw_cond (lr _) (fun c14 => ?_) (fun c14 => ?_)
        ·
         have c14' := c14
         try simp only [qq] at c14'
         refine aw_region ?_
         refine mvr (lr _) rfl ?_
         refine sq_ev rfl (ev_add (lr _) (lr _) (wr (by omega) (by omega))) ?_
         refine asr (lr _) rfl ?_
         refine sq_nil (aw_region ?_)
         refine mvr (lr _) rfl ?_
         refine sq_ev rfl (ev_add (lr _) (lr _) (wr (by omega) (by omega))) ?_
         refine asr (lr _) rfl ?_
         refine sq_nil ?_
         have hstep := loosies_take (l := p.scenes) (k := k) (by omega)
         have hgood : scBad p.scenes k (by omega) = false := by simp [scBad, *]
         exact ⟨⟨k + 1, by omega, fun i h hi => (by by_cases e : i = k; (subst e; exact hgood); exact hok i h (by omega))⟩, by simp only; omega, Sub.fin 1 ⟨less_int (by rw [hstep]; simp [*]), lr _, lr _, trivial⟩ rfl (by simp [slotsIn, objsIn, sget, keepS, AObj.inB, AV.inB, AV.inL, AV.inE, inE_map]) (by simp [slotsIn, objsIn, sget, keepS, AObj.inB, AV.inB, AV.inL, AV.inE, inE_map]) (by simp [he0])⟩
        ·
         have c14' := c14
         try simp only [qq] at c14'
         refine aw_skip (aw_region ?_)
         refine mvr (lr _) rfl ?_
         refine sq_ev rfl (ev_add (lr _) (lr _) (wr (by omega) (by omega))) ?_
         refine asr (lr _) rfl ?_
         refine sq_nil ?_
         have hstep := loosies_take (l := p.scenes) (k := k) (by omega)
         have hgood : scBad p.scenes k (by omega) = false := by simp [scBad, *]
         exact ⟨⟨k + 1, by omega, fun i h hi => (by by_cases e : i = k; (subst e; exact hgood); exact hok i h (by omega))⟩, by simp only; omega, Sub.fin 1 ⟨less_int (by rw [hstep]; simp [*]), lr _, lr _, trivial⟩ rfl (by simp [slotsIn, objsIn, sget, keepS, AObj.inB, AV.inB, AV.inL, AV.inE, inE_map]) (by simp [slotsIn, objsIn, sget, keepS, AObj.inB, AV.inB, AV.inL, AV.inE, inE_map]) (by simp [he0])⟩
 ·
  have c1' := c1
  try simp only [qq] at c1'
  refine aw_exit (aw_seq (aw_region ?_))
  refine mvr (lr _) rfl ?_
  refine sq_ev rfl (ev_leq (lr _) (lr _)) ?_
  refine asr (lr _) rfl ?_
  refine sq_nil (aw_ret ?_)
  exact retQ_pure (v := .raw _) rfl rfl (Less.eq (by rw [scOK_end hk c1' hok]))

set_option maxHeartbeats 1000000 in
/-- kelir/kelirref03.Plan -/
theorem plan_pure (p : Pl) (hl : p.scenes.length ≤ 1000000) : APure Tryz.prog 24 [plan p] (B (PlOK p)) := by
 refine apure_of (rs := [.tmp 2]) Tryz.func24 rfl rfl (Nat.le_of_ble_eq_true rfl) (by simp [AV.pureL, AV.pureB, AV.pureE, pureE_map]) (rfl) fun e0 he0 => ?_
 refine aw_seq (aw_region ?_)
 refine sq_box rfl (lr _) rfl ?_
 refine asr (lr _) rfl ?_
 refine sq_nil (aw_seq (aw_region ?_))
 refine sq_ev rfl (ev_fieldAddr fo27_0 (lr _)) ?_
 refine sq_ev rfl (ev_load (lr _) rfl ty3 rfl) ?_
 refine sq_ev rfl (ev_call en89 (lr _) (in_pure _ _ _) ⟨lr _, lr _, lr _, trivial⟩) ?_
 refine mvr (lr _) rfl ?_
 refine sq_split 6 (lr _) (fun g1 => ?_) (fun g1 => ?_)
 ·
  have g1' := g1
  try simp only [qq] at g1'
  refine sq_yes rfl rfl (less_b g1) rfl (ev_fieldAddr fo27_1 (lr _)) ?_
  refine sq_yes rfl rfl (less_b g1) rfl (ev_index_box ar24 (lr _) (lr _) rfl (by decide)) ?_
  refine sq_yes rfl rfl (less_b g1) rfl (ev_load_agg (lr _) rfl ty23 rfl) ?_
  refine sq_yes rfl rfl (less_b g1) rfl (ev_call en90 (lr _) (window_pure _ _) ⟨lr _, trivial⟩) ?_
  refine sq_ev rfl (ev_pickT (v := .raw _) (less_b g1) (lr _)) ?_
  refine mvr (lr _) rfl ?_
  refine sq_split 12 (lr _) (fun g2 => ?_) (fun g2 => ?_)
  ·
   have g2' := g2
   try simp only [qq] at g2'
   refine sq_yes rfl rfl (less_b g2) rfl (ev_fieldAddr fo27_1 (lr _)) ?_
   refine sq_yes rfl rfl (less_b g2) rfl (ev_index_box ar24 (lr _) (lr _) rfl (by decide)) ?_
   refine sq_yes rfl rfl (less_b g2) rfl (ev_load_agg (lr _) rfl ty23 rfl) ?_
   refine sq_yes rfl rfl (less_b g2) rfl (ev_call en90 (lr _) (window_pure _ _) ⟨lr _, trivial⟩) ?_
   refine sq_ev rfl (ev_pickT (v := .raw _) (less_b g2) (lr _)) ?_
   refine mvr (lr _) rfl ?_
   refine sq_split 18 (lr _) (fun g3 => ?_) (fun g3 => ?_)
   ·
    have g3' := g3
    try simp only [qq] at g3'
    refine sq_yes rfl rfl (less_b g3) rfl (ev_fieldAddr fo27_2 (lr _)) ?_
    refine sq_yes rfl rfl (less_b g3) rfl (ev_load_agg (lr _) rfl ty23 rfl) ?_
    refine sq_yes rfl rfl (less_b g3) rfl (ev_call en90 (lr _) (window_pure _ _) ⟨lr _, trivial⟩) ?_
    refine sq_ev rfl (ev_pickT (v := .raw _) (less_b g3) (lr _)) ?_
    refine mvr (lr _) rfl ?_
    refine sq_split 23 (lr _) (fun g4 => ?_) (fun g4 => ?_)
    ·
     have g4' := g4
     try simp only [qq] at g4'
     refine sq_yes rfl rfl (less_b g4) rfl (ev_fieldAddr fo27_3 (lr _)) ?_
     refine sq_yes rfl rfl (less_b g4) rfl (ev_load (lr _) rfl ty25 rfl) ?_
     refine sq_yes rfl rfl (less_b g4) rfl (ev_len_map sl25 (lr _)) ?_
     refine sq_yes rfl rfl (less_b g4) rfl (ev_call en89 (lr _) (in_pure _ _ _) ⟨lr _, lr _, lr _, trivial⟩) ?_
     refine sq_ev rfl (ev_pickT (v := .raw _) (less_b g4) (lr _)) ?_
     refine mvr (lr _) rfl ?_
     refine sq_split 29 (lr _) (fun g5 => ?_) (fun g5 => ?_)
     ·
      have g5' := g5
      try simp only [qq] at g5'
      refine sq_yes rfl rfl (less_b g5) rfl (ev_load_agg (lr _) rfl ty27 rfl) ?_
      refine sq_yes rfl rfl (less_b g5) rfl (ev_call en91 (lr _) (scenes_pure _ hl) ⟨lr _, trivial⟩) ?_
      refine sq_ev rfl (ev_pickT (v := .raw _) (less_b g5) (lr _)) ?_
      refine asr (lr _) rfl ?_
      refine sq_nil (aw_ret ?_)
      exact retQ_pure (v := .raw _) rfl rfl (Less.eq (by simp [PlOK, *]))
     ·
      have g5' := g5
      try simp only [qq] at g5'
      refine sq_no rfl rfl (less_b g5) rfl rfl ?_
      refine sq_no rfl rfl (less_b g5) rfl rfl ?_
      refine sq_ev rfl (ev_pickF (v := .raw _) (less_b g5) (lr _)) ?_
      refine asr (lr _) rfl ?_
      refine sq_nil (aw_ret ?_)
      exact retQ_pure (v := .raw _) rfl rfl (Less.eq (by simp [PlOK, *]))
    ·
     have g4' := g4
     try simp only [qq] at g4'
     refine sq_no rfl rfl (less_b g4) rfl rfl ?_
     refine sq_no rfl rfl (less_b g4) rfl rfl ?_
     refine sq_no rfl rfl (less_b g4) rfl rfl ?_
     refine sq_no rfl rfl (less_b g4) rfl rfl ?_
     refine sq_ev rfl (ev_pickF (v := .raw _) (less_b g4) (lr _)) ?_
     refine mvr (lr _) rfl ?_
     refine sq_no rfl rfl (lr _) rfl rfl ?_
     refine sq_no rfl rfl (lr _) rfl rfl ?_
     refine sq_ev rfl (ev_pickF (v := .raw _) (lr _) (lr _)) ?_
     refine asr (lr _) rfl ?_
     refine sq_nil (aw_ret ?_)
     exact retQ_pure (v := .raw _) rfl rfl (Less.eq (by simp [PlOK, *]))
   ·
    have g3' := g3
    try simp only [qq] at g3'
    refine sq_no rfl rfl (less_b g3) rfl rfl ?_
    refine sq_no rfl rfl (less_b g3) rfl rfl ?_
    refine sq_no rfl rfl (less_b g3) rfl rfl ?_
    refine sq_ev rfl (ev_pickF (v := .raw _) (less_b g3) (lr _)) ?_
    refine mvr (lr _) rfl ?_
    refine sq_no rfl rfl (lr _) rfl rfl ?_
    refine sq_no rfl rfl (lr _) rfl rfl ?_
    refine sq_no rfl rfl (lr _) rfl rfl ?_
    refine sq_no rfl rfl (lr _) rfl rfl ?_
    refine sq_ev rfl (ev_pickF (v := .raw _) (lr _) (lr _)) ?_
    refine mvr (lr _) rfl ?_
    refine sq_no rfl rfl (lr _) rfl rfl ?_
    refine sq_no rfl rfl (lr _) rfl rfl ?_
    refine sq_ev rfl (ev_pickF (v := .raw _) (lr _) (lr _)) ?_
    refine asr (lr _) rfl ?_
    refine sq_nil (aw_ret ?_)
    exact retQ_pure (v := .raw _) rfl rfl (Less.eq (by simp [PlOK, *]))
  ·
   have g2' := g2
   try simp only [qq] at g2'
   refine sq_no rfl rfl (less_b g2) rfl rfl ?_
   refine sq_no rfl rfl (less_b g2) rfl rfl ?_
   refine sq_no rfl rfl (less_b g2) rfl rfl ?_
   refine sq_no rfl rfl (less_b g2) rfl rfl ?_
   refine sq_ev rfl (ev_pickF (v := .raw _) (less_b g2) (lr _)) ?_
   refine mvr (lr _) rfl ?_
   refine sq_no rfl rfl (lr _) rfl rfl ?_
   refine sq_no rfl rfl (lr _) rfl rfl ?_
   refine sq_no rfl rfl (lr _) rfl rfl ?_
   refine sq_ev rfl (ev_pickF (v := .raw _) (lr _) (lr _)) ?_
   refine mvr (lr _) rfl ?_
   refine sq_no rfl rfl (lr _) rfl rfl ?_
   refine sq_no rfl rfl (lr _) rfl rfl ?_
   refine sq_no rfl rfl (lr _) rfl rfl ?_
   refine sq_no rfl rfl (lr _) rfl rfl ?_
   refine sq_ev rfl (ev_pickF (v := .raw _) (lr _) (lr _)) ?_
   refine mvr (lr _) rfl ?_
   refine sq_no rfl rfl (lr _) rfl rfl ?_
   refine sq_no rfl rfl (lr _) rfl rfl ?_
   refine sq_ev rfl (ev_pickF (v := .raw _) (lr _) (lr _)) ?_
   refine asr (lr _) rfl ?_
   refine sq_nil (aw_ret ?_)
   exact retQ_pure (v := .raw _) rfl rfl (Less.eq (by simp [PlOK, *]))
 ·
  have g1' := g1
  try simp only [qq] at g1'
  refine sq_no rfl rfl (less_b g1) rfl rfl ?_
  refine sq_no rfl rfl (less_b g1) rfl rfl ?_
  refine sq_no rfl rfl (less_b g1) rfl rfl ?_
  refine sq_no rfl rfl (less_b g1) rfl rfl ?_
  refine sq_ev rfl (ev_pickF (v := .raw _) (less_b g1) (lr _)) ?_
  refine mvr (lr _) rfl ?_
  refine sq_no rfl rfl (lr _) rfl rfl ?_
  refine sq_no rfl rfl (lr _) rfl rfl ?_
  refine sq_no rfl rfl (lr _) rfl rfl ?_
  refine sq_no rfl rfl (lr _) rfl rfl ?_
  refine sq_ev rfl (ev_pickF (v := .raw _) (lr _) (lr _)) ?_
  refine mvr (lr _) rfl ?_
  refine sq_no rfl rfl (lr _) rfl rfl ?_
  refine sq_no rfl rfl (lr _) rfl rfl ?_
  refine sq_no rfl rfl (lr _) rfl rfl ?_
  refine sq_ev rfl (ev_pickF (v := .raw _) (lr _) (lr _)) ?_
  refine mvr (lr _) rfl ?_
  refine sq_no rfl rfl (lr _) rfl rfl ?_
  refine sq_no rfl rfl (lr _) rfl rfl ?_
  refine sq_no rfl rfl (lr _) rfl rfl ?_
  refine sq_no rfl rfl (lr _) rfl rfl ?_
  refine sq_ev rfl (ev_pickF (v := .raw _) (lr _) (lr _)) ?_
  refine mvr (lr _) rfl ?_
  refine sq_no rfl rfl (lr _) rfl rfl ?_
  refine sq_no rfl rfl (lr _) rfl rfl ?_
  refine sq_ev rfl (ev_pickF (v := .raw _) (lr _) (lr _)) ?_
  refine asr (lr _) rfl ?_
  refine sq_nil (aw_ret ?_)
  exact retQ_pure (v := .raw _) rfl rfl (Less.eq (by simp [PlOK, *]))

end Go.Proofs.YtjghdbdiejaacaaGreatDoor

namespace Go.Proofs.YtjghdbdiejaacaaGreatDoor
open Go Go.Ab Ni
theorem wordL_len (x : Sc) : (wordL x).length ≤ 6 := by unfold wordL; split <;> decide
end Go.Proofs.YtjghdbdiejaacaaGreatDoor

namespace Go.Proofs.YtjghdbdiejaacaaGreatDoor
open Go Go.Ab Ni
section
variable {r : Option Nat} {H : List AObj} {ρ : Operand → AV} {d : Option Tmp} {t : TypeId} {p : String} {af : Array Edge} {g : Option (Nat × Bool)} {x y : Operand} {yt : TypeId} {a b c e : Int}
theorem ev_span_eql (hx : Less (ρ x) (.agg [I a, I b])) (hy : Less (ρ y) (.agg [I c, I e])) : Ev Tryz.prog r ⟨d, .binOp .eql 23 x y yt, t, p, af, g⟩ H ρ (B (decide (a = c) && decide (b = e))) :=
  ev_eql_agg (by kernel_rfl) (spanEq a b c e) (Less.trans hx (less_agg_raw (vs := [.int .i64 a, .int .i64 b]) rfl)) (Less.trans hy (less_agg_raw (vs := [.int .i64 c, .int .i64 e]) rfl))
end
set_option maxHeartbeats 400000 in
/-- kelir/kelirlaw03.short -/
theorem rshort_pure (p : Pl) : APure Tryz.prog 20 [plan p] (B (decide (p.scenes.length ≤ 12))) := by
 refine apure_of (rs := [.tmp 2]) Tryz.func20 rfl rfl (Nat.le_of_ble_eq_true rfl) (by simp [AV.pureL, AV.pureB, AV.pureE, pureE_map]) (rfl) fun e0 he0 => ?_
 refine aw_seq (aw_region ?_)
 refine sq_box rfl (lr _) rfl ?_
 refine asr (lr _) rfl ?_
 refine sq_nil (aw_seq (aw_region ?_))
 refine sq_ev rfl (ev_fieldAddr fo27_3 (lr _)) ?_
 refine sq_ev rfl (ev_load (lr _) rfl ty25 rfl) ?_
 refine sq_ev rfl (ev_len_map sl25 (lr _)) ?_
 refine sq_ev rfl (ev_leq (lr _) (lr _)) ?_
 refine asr (lr _) rfl ?_
 refine sq_nil (aw_ret ?_)
 exact retQ_pure (v := .raw _) rfl rfl (Less.eq (by simp; omega))


end Go.Proofs.YtjghdbdiejaacaaGreatDoor

namespace Go.Proofs.YtjghdbdiejaacaaGreatDoor
open Go Go.Ab Ni
theorem en20 : Ent Tryz.prog 20 := Ent.of Tryz.func20 (by kernel_rfl) rfl
theorem en21 : Ent Tryz.prog 21 := Ent.of Tryz.func21 (by kernel_rfl) rfl
theorem en24 : Ent Tryz.prog 24 := Ent.of Tryz.func24 (by kernel_rfl) rfl
theorem short_no {p : Pl} (h : ¬ p.scenes.length ≤ 12) : APure Tryz.prog 20 [plan p] (B false) := by have := rshort_pure p; simpa [h] using this
theorem short_yes {p : Pl} (h : p.scenes.length ≤ 12) : APure Tryz.prog 20 [plan p] (B true) := by have := rshort_pure p; simpa [h] using this
theorem plan_no {p : Pl} (hs : p.scenes.length ≤ 12) (h : PlOK p = false) : APure Tryz.prog 24 [plan p] (B false) := by have := plan_pure p (by omega); rwa [h] at this
theorem plan_yes {p : Pl} (hs : p.scenes.length ≤ 12) (h : PlOK p = true) : APure Tryz.prog 24 [plan p] (B true) := by have := plan_pure p (by omega); rwa [h] at this
end Go.Proofs.YtjghdbdiejaacaaGreatDoor

namespace Go.Proofs.YtjghdbdiejaacaaGreatDoor
open Go Go.Ab Ni

theorem cut_no {c : UInt8} : ∀ {l : List UInt8}, c ∉ l → cut c l = [l]
  | [], _ => rfl
  | b :: l, h => by
    rw [cut, if_neg (fun e => h (by simp [e])), cut_no (fun k => h (List.mem_cons_of_mem _ k))]
theorem cut_app {c : UInt8} : ∀ {w r : List UInt8}, c ∉ w → cut c (w ++ c :: r) = w :: cut c r
  | [], r, _ => by simp [cut]
  | b :: w, r, h => by
    rw [List.cons_append, cut, if_neg (fun e => h (by simp [e])), cut_app (fun k => h (List.mem_cons_of_mem _ k))]
theorem cut_join {c : UInt8} : ∀ {ws : List (List UInt8)} {w : List UInt8}, c ∉ w → (∀ x ∈ ws, c ∉ x) → cut c (w ++ (ws.map fun x => c :: x).flatten) = w :: ws
  | [], w, h, _ => by simpa using cut_no h
  | x :: ws, w, h, k => by
    have e : w ++ ((x :: ws).map fun x => c :: x).flatten = w ++ c :: (x ++ (ws.map fun x => c :: x).flatten) := by simp
    rw [e, cut_app h, cut_join (k x (by simp)) (fun y hy => k y (List.mem_cons_of_mem _ hy))]
theorem cut_out {c : UInt8} : ∀ {ls : List (List UInt8)} {r : List UInt8}, (∀ l ∈ ls, c ∉ l) → cut c ((ls.map fun l => l ++ [c]).flatten ++ r) = ls ++ cut c r
  | [], r, _ => by simp
  | l :: ls, r, h => by
    have e : ((l :: ls).map fun l => l ++ [c]).flatten ++ r = l ++ c :: ((ls.map fun l => l ++ [c]).flatten ++ r) := by simp
    rw [e, cut_app (h l (by simp)), cut_out (fun y hy => h y (List.mem_cons_of_mem _ hy))]; rfl
theorem itoa_fin : ∀ n : Fin 1000, numOf (Lib.itoa (n.val : Int)) = some (n.val : Int) ∧ (Lib.itoa (n.val : Int)).all isD = true ∧ (Lib.itoa (n.val : Int)).length ≤ 3 := by decide +kernel
theorem itoa_three {n : Int} (h : 0 ≤ n ∧ n ≤ 999) : numOf (Lib.itoa n) = some n ∧ (Lib.itoa n).all isD = true ∧ (Lib.itoa n).length ≤ 3 := by
  have := itoa_fin ⟨n.toNat, by omega⟩
  rwa [show ((⟨n.toNat, by omega⟩ : Fin 1000).val : Int) = n from (by simp; omega)] at this
theorem itoa_not {n : Int} (h : 0 ≤ n ∧ n ≤ 999) {c : UInt8} (hc : isD c = false) : c ∉ Lib.itoa n := fun k => by
  have := List.all_eq_true.1 (itoa_three h).2.1 c k
  rw [hc] at this; cases this
theorem numsL_map (l : List Int) : numsL l = ((l.map Lib.itoa).map fun x => 32 :: x).flatten := by unfold numsL; rw [List.map_map]; rfl
theorem numsOf_itoa : ∀ {l : List Int}, (∀ n ∈ l, 0 ≤ n ∧ n ≤ 999) → numsOf (l.map Lib.itoa) = some l
  | [], _ => rfl
  | n :: l, h => by
    rw [List.map_cons, numsOf, (itoa_three (h n (by simp))).1, numsOf_itoa (fun m hm => h m (List.mem_cons_of_mem _ hm))]
/-- a plan whose numbers have three digits at the most -/
structure TdP (p : Pl) : Prop where
  head : ∀ n ∈ headL p, 0 ≤ n ∧ n ≤ 999
  sc : ∀ x ∈ p.scenes, (0 ≤ x.part ∧ x.part ≤ 999) ∧ (0 ≤ x.least ∧ x.least ≤ 999) ∧ (0 ≤ x.most ∧ x.most ≤ 999) ∧ -1 ≤ x.wants ∧ x.wants ≤ 999
  len : p.scenes.length ≤ 1000
theorem td_told {p : Pl} (td : TdP p) {x : Sc} (hx : x ∈ p.scenes) : ∀ n ∈ toldL x, 0 ≤ n ∧ n ≤ 999 := fun n hn => by
  obtain ⟨h1, h2, h3, h4⟩ := td.sc x hx
  unfold toldL at hn
  rcases List.mem_append.1 hn with hn | hn
  · simp only [List.mem_cons, List.not_mem_nil, or_false] at hn; rcases hn with rfl | rfl | rfl <;> assumption
  · split at hn
    · simp only [List.mem_cons, List.not_mem_nil, or_false] at hn; subst hn; omega
    · simp at hn
theorem td_sm {p : Pl} (td : TdP p) : SmP p := ⟨fun n h => by have := td.head n h; omega, fun x hx n hn => by have := td_told td hx n hn; omega, td.len⟩
theorem td_nn {p : Pl} (td : TdP p) : NnP p := ⟨fun n h => (td.head n h).1, fun x hx => by have := td.sc x hx; omega⟩
theorem ok_td {p : Pl} (h : PlOK p = true) : TdP p := by
  unfold PlOK at h
  simp only [Bool.and_eq_true, decide_eq_true_eq, wnd, inn] at h
  obtain ⟨⟨⟨⟨⟨h0, h1⟩, h2⟩, h3⟩, h4⟩, h5, _⟩ := h
  refine ⟨fun n hn => ?_, fun x hx => ?_, by omega⟩
  · rw [headL_eq] at hn
    simp only [List.mem_cons, List.not_mem_nil, or_false] at hn
    rcases hn with rfl | rfl | rfl | rfl | rfl | rfl | rfl <;> omega
  · obtain ⟨i, hi, rfl⟩ := List.getElem_of_mem hx
    have := h5 i hi
    simp only [scBad, inn, Bool.or_eq_false_iff, Bool.not_eq_false', Bool.and_eq_true, decide_eq_true_eq] at this
    omega
/-- the words of a scene's row -/
def wordsL (x : Sc) : List (List UInt8) := (toldL x).map Lib.itoa ++ (if 0 ≤ x.wants then [] else [[45]])
theorem line_join (p : Pl) (x : Sc) : lineL p (some x) = wordL x ++ ((wordsL x).map fun w => 32 :: w).flatten := by
  unfold lineL wordsL wordL
  simp only [numsL_map, List.map_append, List.flatten_append, List.append_assoc]
  congr 2
  split <;> rfl
theorem words_not {p : Pl} (td : TdP p) {x : Sc} (hx : x ∈ p.scenes) {c : UInt8} (hc : isD c = false) (h45 : c ≠ 45) : ∀ w ∈ wordsL x, c ∉ w := fun w hw => by
  unfold wordsL at hw
  rcases List.mem_append.1 hw with hw | hw
  · obtain ⟨n, hn, rfl⟩ := List.mem_map.1 hw
    exact itoa_not (td_told td hx n hn) hc
  · split at hw
    · cases hw
    · simp only [List.mem_cons, List.not_mem_nil, or_false] at hw; subst hw; simpa using h45
theorem word_not (x : Sc) {c : UInt8} (h1 : c ∉ wBattle) (h2 : c ∉ wScene) : c ∉ wordL x := by unfold wordL; split <;> assumption
theorem row_read {p : Pl} (td : TdP p) {x : Sc} (hx : x ∈ p.scenes) : rowSc (lineL p (some x)) = some x := by
  have hc : cut 32 (lineL p (some x)) = wordL x :: wordsL x := by
    rw [line_join]
    exact cut_join (word_not x (by decide) (by decide)) (words_not td hx (by decide) (by decide))
  obtain ⟨h1, h2, h3, h4⟩ := td.sc x hx
  have n1 := (itoa_three h1).1; have n2 := (itoa_three h2).1; have n3 := (itoa_three h3).1
  have hl : decide (wordL x = [98, 97, 116, 116, 108, 101]) = x.loose := by
    unfold wordL
    cases x.loose <;> decide
  unfold rowSc
  rw [hc]
  by_cases hw : 0 ≤ x.wants
  · have n4 := (itoa_three (n := x.wants) ⟨hw, h4.2⟩)
    have e : wordsL x = [Lib.itoa x.part, Lib.itoa x.least, Lib.itoa x.most, Lib.itoa x.wants] := by simp [wordsL, toldL, hw]
    rw [e]; simp only
    have hne : ¬ Lib.itoa x.wants = [45] := fun e => by have := n4.2.1; rw [e] at this; revert this; decide
    rw [n1, n2, n3, if_neg hne, n4.1, hl]
  · have e : wordsL x = [Lib.itoa x.part, Lib.itoa x.least, Lib.itoa x.most, [45]] := by simp [wordsL, toldL, hw]
    rw [e]; simp only
    rw [n1, n2, n3, if_pos trivial, hl, show (-1 : Int) = x.wants by omega]
theorem rows_read {p : Pl} (td : TdP p) : ∀ {l : List Sc}, (∀ x ∈ l, x ∈ p.scenes) → rowsSc (l.map fun x => lineL p (some x)) = some l
  | [], _ => rfl
  | x :: l, h => by
    rw [List.map_cons, rowsSc, row_read td (h x (by simp)), rows_read td (fun y hy => h y (List.mem_cons_of_mem _ hy))]
theorem linesL_eq (p : Pl) : linesL p = lineL p none :: p.scenes.map fun x => lineL p (some x) := by
  unfold linesL rowsL rowsT; rw [List.take_length, List.map_cons, List.map_map]; rfl
theorem head_join (p : Pl) : lineL p none = wNight ++ (((headL p).map Lib.itoa).map fun w => 32 :: w).flatten := by unfold lineL; rw [numsL_map]
theorem mem_join {c : UInt8} (hc : c ≠ 32) {ws : List (List UInt8)} {w : List UInt8} (h : c ∉ w) (k : ∀ x ∈ ws, c ∉ x) : c ∉ w ++ (ws.map fun x => 32 :: x).flatten := fun hm => by
  rcases List.mem_append.1 hm with hm | hm
  · exact h hm
  · obtain ⟨y, hy, hm⟩ := List.mem_flatten.1 hm
    obtain ⟨x, hx, rfl⟩ := List.mem_map.1 hy
    rcases List.mem_cons.1 hm with hm | hm
    · exact hc hm
    · exact k x hx hm
theorem head_not {p : Pl} (td : TdP p) {c : UInt8} (hc : isD c = false) : ∀ w ∈ (headL p).map Lib.itoa, c ∉ w := fun w hw => by
  obtain ⟨n, hn, rfl⟩ := List.mem_map.1 hw
  exact itoa_not (td.head n hn) hc
theorem lines_not {p : Pl} (td : TdP p) : ∀ l ∈ linesL p, (10 : UInt8) ∉ l := fun l hl => by
  rw [linesL_eq] at hl
  rcases List.mem_cons.1 hl with rfl | hl
  · rw [head_join]; exact mem_join (by decide) (by decide) (head_not td (by decide))
  · obtain ⟨x, hx, rfl⟩ := List.mem_map.1 hl
    rw [line_join]; exact mem_join (by decide) (word_not x (by decide) (by decide)) (words_not td hx (by decide) (by decide))
/-- the last row -/
def endL (c : Int) : List UInt8 := [101, 110, 100, 32] ++ digs3 c
theorem end_not {c : Int} (h : 0 ≤ c ∧ c ≤ 999) : (10 : UInt8) ∉ endL c := by
  have a1 := itoa_not (n := c / 100) (by omega) (c := 10) (by decide)
  have a2 := itoa_not (n := c / 10 % 10) (by omega) (c := 10) (by decide)
  have a3 := itoa_not (n := c % 10) (by omega) (c := 10) (by decide)
  unfold endL digs3
  simp [a1, a2, a3]
theorem seal_cut {ls : List (List UInt8)} (h : ∀ l ∈ ls, (10 : UInt8) ∉ l) : cut 10 (sealL ls) = ls ++ [endL (ctT ls ls.length % 181), []] := by
  have e : sealL ls = (ls.map fun l => l ++ [10]).flatten ++ (endL (ctT ls ls.length % 181) ++ 10 :: []) := by
    unfold sealL outT endL; rw [List.take_length]; simp
  rw [e, cut_out h, cut_app (end_not (by omega))]; rfl
/-- **A sheet is read as its plan.** -/
theorem parse_sheet {p : Pl} (td : TdP p) : parseL (sheetL p) = some p := by
  have hc : cut 10 (sheetL p) = lineL p none :: ((p.scenes.map fun x => lineL p (some x)) ++ [endL (ctT (linesL p) (linesL p).length % 181), []]) := by
    unfold sheetL; rw [seal_cut (lines_not td), linesL_eq]; rfl
  have hw : cut 32 (lineL p none) = wNight :: (headL p).map Lib.itoa := by
    rw [head_join]; exact cut_join (by decide) (head_not td (by decide))
  have hr : rowsSc ((((p.scenes.map fun x => lineL p (some x)) ++ [endL (ctT (linesL p) (linesL p).length % 181), []])).take ((((p.scenes.map fun x => lineL p (some x)) ++ [endL (ctT (linesL p) (linesL p).length % 181), []])).length - 2)) = some p.scenes := by
    rw [List.length_append, show ([endL (ctT (linesL p) (linesL p).length % 181), ([] : List UInt8)]).length = 2 from rfl, Nat.add_sub_cancel, List.take_left']
    · exact rows_read td (fun x h => h)
    · rfl
  have h0 := parse_all hc (by simp) hw (by rw [headL_eq]; rfl) (numsOf_itoa td.head) hr
  unfold parseL
  rw [h0]
  have e : headOf (headL p) p.scenes = p := by rw [headL_eq]; rfl
  rw [e]; simp
theorem joinlen {ws : List (List UInt8)} (h : ∀ w ∈ ws, w.length ≤ 3) : ((ws.map fun w => (32 : UInt8) :: w).flatten).length ≤ 4 * ws.length := by
  induction ws with
  | nil => simp
  | cons w ws ih =>
    have h1 := h w (by simp)
    have h2 := ih (fun x hx => h x (List.mem_cons_of_mem _ hx))
    simp only [List.map_cons, List.flatten_cons, List.length_append, List.length_cons]
    omega
theorem outlen {ls : List (List UInt8)} {B : Nat} (h : ∀ l ∈ ls, l.length ≤ B) : ((ls.map fun l => l ++ [10]).flatten).length ≤ (B + 1) * ls.length := by
  induction ls with
  | nil => simp
  | cons w ws ih =>
    have h1 := h w (by simp)
    have h2 := ih (fun x hx => h x (List.mem_cons_of_mem _ hx))
    simp only [List.map_cons, List.flatten_cons, List.length_append, List.length_cons, Nat.mul_add]
    simp only [List.length_nil]
    omega
theorem scene_len {p : Pl} (td : TdP p) {x : Sc} (hx : x ∈ p.scenes) : (lineL p (some x)).length ≤ 22 := by
  rw [line_join, List.length_append]
  have h1 := wordL_len x
  have h2 := joinlen (ws := wordsL x) (fun w hw => by
    unfold wordsL at hw
    rcases List.mem_append.1 hw with hw | hw
    · obtain ⟨n, hn, rfl⟩ := List.mem_map.1 hw; exact (itoa_three (td_told td hx n hn)).2.2
    · split at hw
      · cases hw
      · simp only [List.mem_cons, List.not_mem_nil, or_false] at hw; subst hw; decide)
  have h3 : (wordsL x).length = 4 := by unfold wordsL toldL; split <;> simp
  omega
theorem sheet_len {p : Pl} (td : TdP p) : (sheetL p).length ≤ 48 + 23 * p.scenes.length := by
  have e : sheetL p = lineL p none ++ [10] ++ ((p.scenes.map fun x => lineL p (some x)).map fun l => l ++ [10]).flatten ++ [101, 110, 100, 32] ++ digs3 (ctT (linesL p) (linesL p).length % 181) ++ [10] := by
    unfold sheetL sealL outT; rw [List.take_length, linesL_eq]; simp
  have h1 := outlen (ls := p.scenes.map fun x => lineL p (some x)) (B := 22) (fun l hl => by obtain ⟨x, hx, rfl⟩ := List.mem_map.1 hl; exact scene_len td hx)
  have h2 : (lineL p none).length ≤ 33 := by
    rw [head_join, List.length_append]
    have := joinlen (ws := (headL p).map Lib.itoa) (fun w hw => by obtain ⟨n, hn, rfl⟩ := List.mem_map.1 hw; exact (itoa_three (td.head n hn)).2.2)
    have h7 : ((headL p).map Lib.itoa).length = 7 := by rw [headL_eq]; rfl
    have : wNight.length = 5 := rfl
    omega
  have h3 : (digs3 (ctT (linesL p) (linesL p).length % 181)).length ≤ 3 + 6 := by
    unfold digs3; simp only [List.length_append]
    have a1 := (itoa_three (n := ctT (linesL p) (linesL p).length % 181 / 100) (by omega)).2.2
    have a2 := (itoa_three (n := ctT (linesL p) (linesL p).length % 181 / 10 % 10) (by omega)).2.2
    have a3 := (itoa_three (n := ctT (linesL p) (linesL p).length % 181 % 10) (by omega)).2.2
    omega
  rw [e]
  simp only [List.length_append, List.length_cons, List.length_nil, List.length_map] at h1 ⊢
  omega

end Go.Proofs.YtjghdbdiejaacaaGreatDoor

namespace Go.Proofs.YtjghdbdiejaacaaGreatDoor
open Go Go.Ab Ni
theorem en118 : Ent Tryz.prog 118 := Ent.of Tryz.func118 (by kernel_rfl) rfl
theorem en50 : Ent Tryz.prog 50 := Ent.of Tryz.func50 (by kernel_rfl) rfl
theorem en53 : Ent Tryz.prog 53 := Ent.of Tryz.func53 (by kernel_rfl) rfl
theorem ty24 : tySz Tryz.prog 24 = some (true, 4) := by kernel_rfl

abbrev scVals (x : Sc) : Array Value := #[.int .i64 x.part, .int .i64 x.least, .int .i64 x.most, .bool x.loose, .int .i64 x.wants]
theorem scEq (a b : Sc) (w : World) : (Op.equalIn 10000 84 (.agg (scVals a)) (.agg (scVals b))).run Tryz.prog w = .ok (decide (a = b)) w := by
  have h3 : Tryz.prog.underlying 3 = some (.int .i64) := Tryz.underlying3
  have h4 : Tryz.prog.underlying 4 = some .bool := Tryz.underlying4
  rw [run_equalIn_struct w 9999 84 _ _ (by rw [fieldsOf_st Tryz.underlying84]; exact Tryz.underlying84) (by kernel_rfl), fieldsOf_st Tryz.underlying84]
  have q0 : ∀ (x : Sc) (w : World), (part 3 (scVals x) 0).run Tryz.prog w = .ok (.int .i64 x.part) w := fun x w => by simp [part, Tryz.isAgg3]
  have q1 : ∀ (x : Sc) (w : World), (part 3 (scVals x) 1).run Tryz.prog w = .ok (.int .i64 x.least) w := fun x w => by simp [part, Tryz.isAgg3]
  have q2 : ∀ (x : Sc) (w : World), (part 3 (scVals x) 2).run Tryz.prog w = .ok (.int .i64 x.most) w := fun x w => by simp [part, Tryz.isAgg3]
  have q3 : ∀ (x : Sc) (w : World), (part 4 (scVals x) 3).run Tryz.prog w = .ok (.bool x.loose) w := fun x w => by simp [part, Tryz.isAgg4]
  have q4 : ∀ (x : Sc) (w : World), (part 3 (scVals x) 4).run Tryz.prog w = .ok (.int .i64 x.wants) w := fun x w => by simp [part, Tryz.isAgg3]
  simp [Op.eqFields, q0, q1, q2, q3, q4, run_equalIn_int _ _ _ _ _ _ _ h3, run_equalIn_bool' _ _ _ _ _ h4]
  obtain ⟨a1, a2, a3, a4, a5⟩ := a
  obtain ⟨b1, b2, b3, b4, b5⟩ := b
  simp only [Sc.mk.injEq]
  by_cases e1 : a1 = b1 <;> by_cases e2 : a2 = b2 <;> by_cases e3 : a3 = b3 <;> by_cases e4 : a4 = b4 <;> by_cases e5 : a5 = b5 <;> simp [e1, e2, e3, e4, e5]
theorem spanEqD (n : Nat) (a b c d : Int) (w : World) : (Op.equalIn (n + 2) 23 (.agg #[.int .i64 a, .int .i64 b]) (.agg #[.int .i64 c, .int .i64 d])).run Tryz.prog w = .ok (decide (a = c) && decide (b = d)) w := by
  have h3 : Tryz.prog.underlying 3 = some (.int .i64) := Tryz.underlying3
  rw [run_equalIn_struct w (n + 1) 23 _ _ (by rw [fieldsOf_st Tryz.underlying23]; exact Tryz.underlying23) (by kernel_rfl), fieldsOf_st Tryz.underlying23]
  have p0 : ∀ (x y : Int) (w : World), (part 3 #[.int .i64 x, .int .i64 y] 0).run Tryz.prog w = .ok (.int .i64 x) w := fun x y w => by
    simp [part, Tryz.isAgg3]
  have p1 : ∀ (x y : Int) (w : World), (part 3 #[.int .i64 x, .int .i64 y] 1).run Tryz.prog w = .ok (.int .i64 y) w := fun x y w => by
    simp [part, Tryz.isAgg3]
  simp [Op.eqFields, p0, p1, run_equalIn_int _ _ _ _ _ _ _ h3]
  by_cases h1 : a = c <;> by_cases h2 : b = d <;> simp [h1, h2]
theorem arrEq (a b c d a' b' c' d' : Int) (w : World) : (Op.equalIn 10000 24 (.agg #[.int .i64 a, .int .i64 b, .int .i64 c, .int .i64 d]) (.agg #[.int .i64 a', .int .i64 b', .int .i64 c', .int .i64 d'])).run Tryz.prog w = .ok (decide (a = a' ∧ b = b' ∧ c = c' ∧ d = d')) w := by
  obtain ⟨i, hi⟩ : ∃ i, Tryz.prog.info? 23 = some i := Option.isSome_iff_exists.1 (by kernel_rfl)
  rw [run_equalIn_array w 9999 _ _ Tryz.underlying24 hi, show Tryz.prog.cellsOf 23 = 2 by kernel_rfl, show List.range 2 = [0, 1] from rfl]
  have p0 : ∀ (x y z u : Int) (w : World), (part 23 #[.int .i64 x, .int .i64 y, .int .i64 z, .int .i64 u] 0).run Tryz.prog w = .ok (.agg #[.int .i64 x, .int .i64 y]) w := fun x y z u w => by
    simp [part, Tryz.isAgg23, Tryz.sizeOf23]
  have p2 : ∀ (x y z u : Int) (w : World), (part 23 #[.int .i64 x, .int .i64 y, .int .i64 z, .int .i64 u] 2).run Tryz.prog w = .ok (.agg #[.int .i64 z, .int .i64 u]) w := fun x y z u w => by
    simp [part, Tryz.isAgg23, Tryz.sizeOf23]
  simp only [Op.eqItems, Nat.zero_mul, Nat.one_mul, Sem.run_bind, p0, p2, Result.andThen_ok, spanEqD 9997]
  by_cases e1 : a = a' <;> by_cases e2 : b = b' <;> by_cases e3 : c = c' <;> by_cases e4 : d = d' <;> simp [e1, e2, e3, e4, p2, spanEqD 9997]
section
variable {r : Option Nat} {H : List AObj} {ρ : Operand → AV} {d : Option Tmp} {t : TypeId} {p : String} {af : Array Edge} {g : Option (Nat × Bool)} {x y : Operand} {yt : TypeId}
theorem ev_sc_neq {a b : Sc} (hx : Less (ρ x) (.agg (sc a))) (hy : Less (ρ y) (.agg (sc b))) : Ev Tryz.prog r ⟨d, .binOp .neq 84 x y yt, t, p, af, g⟩ H ρ (B (!decide (a = b))) :=
  ev_neq_agg (by kernel_rfl) (scEq a b) (Less.trans hx (less_agg_raw (vs := [.int .i64 a.part, .int .i64 a.least, .int .i64 a.most, .bool a.loose, .int .i64 a.wants]) rfl)) (Less.trans hy (less_agg_raw (vs := [.int .i64 b.part, .int .i64 b.least, .int .i64 b.most, .bool b.loose, .int .i64 b.wants]) rfl))
theorem ev_stars_eql {a b c e a' b' c' e' : Int} (hx : Less (ρ x) (.agg [I a, I b, I c, I e])) (hy : Less (ρ y) (.agg [I a', I b', I c', I e'])) : Ev Tryz.prog r ⟨d, .binOp .eql 24 x y yt, t, p, af, g⟩ H ρ (B (decide (a = a' ∧ b = b' ∧ c = c' ∧ e = e'))) :=
  ev_eql_agg (by kernel_rfl) (arrEq a b c e a' b' c' e') (Less.trans hx (less_agg_raw (vs := [.int .i64 a, .int .i64 b, .int .i64 c, .int .i64 e]) rfl)) (Less.trans hy (less_agg_raw (vs := [.int .i64 a', .int .i64 b', .int .i64 c', .int .i64 e']) rfl))
end
def sscBad (a b : List Sc) (h : a.length = b.length) (i : Nat) (hi : i < a.length) : Bool := !decide (a[i] = b[i]'(by omega))
theorem ssc_okAll {a b : List Sc} (h : a.length = b.length) : okAll a.length (sscBad a b h) = decide (a = b) := by
  rw [Bool.eq_iff_iff, okAll_iff, decide_eq_true_eq]
  constructor
  · intro k
    exact List.ext_getElem h fun i h1 h2 => by have := k i h1; simpa [sscBad] using this
  · rintro rfl i hi; simp [sscBad]
theorem pl_eq {a b : Pl} : a = b ↔ (a.beg = b.beg ∧ (a.s0l = b.s0l ∧ a.s0h = b.s0h ∧ a.s1l = b.s1l ∧ a.s1h = b.s1h) ∧ (a.dl = b.dl ∧ a.dh = b.dh) ∧ a.scenes = b.scenes) := by
  cases a; cases b; simp only [Pl.mk.injEq, and_assoc]
theorem pl_dec (a b : Pl) : decide (a = b) = (decide (a.beg = b.beg) && (decide (a.s0l = b.s0l ∧ a.s0h = b.s0h ∧ a.s1l = b.s1l ∧ a.s1h = b.s1h) && ((decide (a.dl = b.dl) && decide (a.dh = b.dh)) && decide (a.scenes = b.scenes)))) := by
  rw [Bool.eq_iff_iff]; simp only [decide_eq_true_eq, Bool.and_eq_true]; exact pl_eq
def printAV (p : Pl) : AV := if PlOK p = true then .tup [S (sheetL p), I 0] else .tup [S [], I 2]
set_option maxHeartbeats 1000000 in
/-- kelir/kelirref03.SameScenes -/
theorem rscs_pure (a b : List Sc) (ha : a.length ≤ 100000000) (hb : b.length ≤ 100000000) : APure Tryz.prog 118 [.sl 5 (a.map sc), .sl 5 (b.map sc)] (B (decide (a = b))) := by
  refine apure_of (rs := [.tmp 4]) Tryz.func118 rfl rfl (Nat.le_of_ble_eq_true rfl) (by simp [AV.pureL, AV.pureB, AV.pureE, pureE_map]) (rfl) fun e0 he0 => ?_
  refine aw_seq (aw_region ?_)
  refine asr (lr _) rfl ?_
  refine sq_nil (aw_seq (aw_seq (aw_region ?_)))
  refine sq_ev rfl (ev_mv (v := .sl _ _) (lr _)) ?_
  refine sq_ev rfl (ev_len_map sl25 (lr _)) ?_
  refine sq_ev rfl (ev_mv (v := .sl _ _) (lr _)) ?_
  refine sq_ev rfl (ev_len_map sl25 (lr _)) ?_
  refine sq_ev rfl (ev_neq (lr _) (lr _)) ?_
  refine sq_nil ?_
  refine aw_cond (lr _) (fun c1 => ?_) (fun c1 => ?_)
  · skip
    have c1' := c1
    try simp only [qq] at c1'
    refine aw_seq (aw_region ?_)
    refine asr (lr _) rfl ?_
    refine sq_nil (aw_ret ?_)
    exact retQ_pure (v := .raw _) rfl rfl (Less.eq (by rw [show decide (a = b) = false from (by simp only [decide_eq_false_iff_not]; rintro rfl; exact c1' rfl)]))
  · skip
    have c1' := c1
    try simp only [qq] at c1'
    have hlen : a.length = b.length := by omega
    refine aw_skip (aw_seq (aw_seq (aw_region ?_)))
    refine asr (lr _) rfl ?_
    refine sq_nil (aw_block ?_)
    refine aw_loopk (ι := { k : Nat // k ≤ a.length ∧ ∀ i, (h : i < a.length) → i < k → sscBad a b hlen i h = false }) [0, 1] (fun i => [(5, I i.1)]) (fun H i => H) (fun i => a.length - i.1) (⟨0, Nat.zero_le _, by omega⟩) ⟨lr _, lr _, lr _, trivial⟩ rfl ?_
    rintro ⟨k, hk, hok⟩
    dsimp only [keepS, St.put, sget, slotsOf, List.map_cons, List.map_nil, List.cons_append, List.nil_append, List.length_cons, List.length_nil, Nat.reduceBEq, Nat.reduceAdd, cond_true, cond_false]
    refine aw_seq (aw_seq (aw_region ?_))
    refine mvr (lr _) rfl ?_
    refine sq_ev rfl (ev_mv (v := .sl _ _) (lr _)) ?_
    refine sq_ev rfl (ev_len_map sl25 (lr _)) ?_
    refine sq_ev rfl (ev_lss (lr _) (lr _)) ?_
    refine sq_nil ?_
    refine aw_cond (lr _) (fun c2 => ?_) (fun c2 => ?_)
    · skip
      have c2' := c2
      try simp only [qq] at c2'
      refine aw_skip (aw_seq (aw_block (aw_seq ?_)))
      refine aw_draw 9 mo (by kernel_rfl) ?_
      refine dr_ev rfl (ev_mv (v := .sl _ _) (lr _)) ?_
      refine dr_ev rfl (ev_mv (v := .raw _) (lr _)) ?_
      refine dr_ev rfl (ev_index_map sl25 (lr _) (lr _) rfl (by omega)) ?_
      refine dr_ev rfl (ev_load_agg_i (lr _) ty84 (Nat.le_of_ble_eq_true rfl)) ?_
      refine dr_ev rfl (ev_mv (v := .sl _ _) (lr _)) ?_
      refine dr_ev rfl (ev_mv (v := .raw _) (lr _)) ?_
      refine dr_ev rfl (ev_index_map sl25 (lr _) (lr _) rfl (by omega)) ?_
      refine dr_ev rfl (ev_load_agg_i (lr _) ty84 (Nat.le_of_ble_eq_true rfl)) ?_
      refine dr_ev rfl (ev_sc_neq (lr _) (lr _)) ?_
      refine dr_end (sq_nil ?_)
      refine aw_cond (lr _) (fun c3 => ?_) (fun c3 => ?_)
      · skip
        have c3' := c3
        try simp only [qq] at c3'
        refine aw_seq (aw_region ?_)
        refine asr (lr _) rfl ?_
        refine sq_nil (aw_ret ?_)
        exact retQ_pure (v := .raw _) rfl rfl (Less.eq (by rw [← ssc_okAll hlen, okAll_bad (i := k) (by omega) (by first | (simp [sscBad, *]; done) | (simp_all [sscBad]; done))]))
      · skip
        have c3' := c3
        try simp only [qq] at c3'
        refine aw_skip (aw_region ?_)
        refine mvr (lr _) rfl ?_
        refine sq_ev rfl (ev_add (lr _) (lr _) (wr (by omega) (by omega))) ?_
        refine asr (lr _) rfl ?_
        refine sq_nil ?_
        have hgood : sscBad a b hlen k (by omega) = false := by first | (simp [sscBad, *]; done) | (simp_all [sscBad]; done)
        exact ⟨⟨k + 1, by omega, fun i h hi => (by by_cases e : i = k; (subst e; exact hgood); exact hok i h (by omega))⟩, by simp only; omega, Sub.slots ⟨lr _, lr _, lr _, trivial⟩⟩
    · skip
      have c2' := c2
      try simp only [qq] at c2'
      refine aw_exit (aw_seq (aw_region ?_))
      refine asr (lr _) rfl ?_
      refine sq_nil (aw_ret ?_)
      exact retQ_pure (v := .raw _) rfl rfl (Less.eq (by rw [← ssc_okAll hlen, okAll_end hk c2' hok]))

set_option maxHeartbeats 1000000 in
/-- kelir/kelirref03.SamePlans -/
theorem rplans_pure (a b : Pl) (ha : a.scenes.length ≤ 100000000) (hb : b.scenes.length ≤ 100000000) : APure Tryz.prog 53 [plan a, plan b] (B (decide (a = b))) := by
 refine apure_of (rs := [.tmp 4]) Tryz.func53 rfl rfl (Nat.le_of_ble_eq_true rfl) (by simp [AV.pureL, AV.pureB, AV.pureE, pureE_map]) (rfl) fun e0 he0 => ?_
 refine aw_seq (aw_region ?_)
 refine sq_box rfl (lr _) rfl ?_
 refine sq_box rfl (lr _) rfl ?_
 refine asr (lr _) rfl ?_
 refine sq_nil (aw_seq (aw_region ?_))
 refine sq_ev rfl (ev_fieldAddr fo27_0 (lr _)) ?_
 refine sq_ev rfl (ev_load (lr _) rfl ty3 rfl) ?_
 refine sq_ev rfl (ev_fieldAddr fo27_0 (lr _)) ?_
 refine sq_ev rfl (ev_load (lr _) rfl ty3 rfl) ?_
 refine sq_ev rfl (ev_eql (lr _) (lr _)) ?_
 refine mvr (lr _) rfl ?_
 refine sq_split 10 (lr _) (fun g1 => ?_) (fun g1 => ?_)
 ·
  have g1' := g1
  try simp only [qq] at g1'
  refine sq_yes rfl rfl (less_b g1) rfl (ev_fieldAddr fo27_1 (lr _)) ?_
  refine sq_yes rfl rfl (less_b g1) rfl (ev_load_agg (lr _) rfl ty24 rfl) ?_
  refine sq_yes rfl rfl (less_b g1) rfl (ev_fieldAddr fo27_1 (lr _)) ?_
  refine sq_yes rfl rfl (less_b g1) rfl (ev_load_agg (lr _) rfl ty24 rfl) ?_
  refine sq_yes rfl rfl (less_b g1) rfl (ev_stars_eql (lr _) (lr _)) ?_
  refine sq_ev rfl (ev_pickT (v := .raw _) (less_b g1) (lr _)) ?_
  refine mvr (lr _) rfl ?_
  refine sq_split 17 (lr _) (fun g2 => ?_) (fun g2 => ?_)
  ·
   have g2' := g2
   try simp only [qq] at g2'
   refine sq_yes rfl rfl (less_b g2) rfl (ev_fieldAddr fo27_2 (lr _)) ?_
   refine sq_yes rfl rfl (less_b g2) rfl (ev_load_agg (lr _) rfl ty23 rfl) ?_
   refine sq_yes rfl rfl (less_b g2) rfl (ev_fieldAddr fo27_2 (lr _)) ?_
   refine sq_yes rfl rfl (less_b g2) rfl (ev_load_agg (lr _) rfl ty23 rfl) ?_
   refine sq_yes rfl rfl (less_b g2) rfl (ev_span_eql (lr _) (lr _)) ?_
   refine sq_ev rfl (ev_pickT (v := .raw _) (less_b g2) (lr _)) ?_
   refine mvr (lr _) rfl ?_
   refine sq_split 24 (lr _) (fun g3 => ?_) (fun g3 => ?_)
   ·
    have g3' := g3
    try simp only [qq] at g3'
    refine sq_yes rfl rfl (less_b g3) rfl (ev_fieldAddr fo27_3 (lr _)) ?_
    refine sq_yes rfl rfl (less_b g3) rfl (ev_load (lr _) rfl ty25 rfl) ?_
    refine sq_yes rfl rfl (less_b g3) rfl (ev_fieldAddr fo27_3 (lr _)) ?_
    refine sq_yes rfl rfl (less_b g3) rfl (ev_load (lr _) rfl ty25 rfl) ?_
    refine sq_yes rfl rfl (less_b g3) rfl (ev_call en118 (lr _) (rscs_pure a.scenes b.scenes ha hb) ⟨lr _, lr _, trivial⟩) ?_
    refine sq_ev rfl (ev_pickT (v := .raw _) (less_b g3) (lr _)) ?_
    refine asr (lr _) rfl ?_
    refine sq_nil (aw_ret ?_)
    exact retQ_pure (v := .raw _) rfl rfl (Less.eq (by rw [pl_dec]; simp_all))
   ·
    have g3' := g3
    try simp only [qq] at g3'
    refine sq_no rfl rfl (less_b g3) rfl rfl ?_
    refine sq_no rfl rfl (less_b g3) rfl rfl ?_
    refine sq_no rfl rfl (less_b g3) rfl rfl ?_
    refine sq_no rfl rfl (less_b g3) rfl rfl ?_
    refine sq_no rfl rfl (less_b g3) rfl rfl ?_
    refine sq_ev rfl (ev_pickF (v := .raw _) (less_b g3) (lr _)) ?_
    refine asr (lr _) rfl ?_
    refine sq_nil (aw_ret ?_)
    exact retQ_pure (v := .raw _) rfl rfl (Less.eq (by rw [pl_dec]; simp_all))
  ·
   have g2' := g2
   try simp only [qq] at g2'
   refine sq_no rfl rfl (less_b g2) rfl rfl ?_
   refine sq_no rfl rfl (less_b g2) rfl rfl ?_
   refine sq_no rfl rfl (less_b g2) rfl rfl ?_
   refine sq_no rfl rfl (less_b g2) rfl rfl ?_
   refine sq_no rfl rfl (less_b g2) rfl rfl ?_
   refine sq_ev rfl (ev_pickF (v := .raw _) (less_b g2) (lr _)) ?_
   refine mvr (lr _) rfl ?_
   refine sq_no rfl rfl (lr _) rfl rfl ?_
   refine sq_no rfl rfl (lr _) rfl rfl ?_
   refine sq_no rfl rfl (lr _) rfl rfl ?_
   refine sq_no rfl rfl (lr _) rfl rfl ?_
   refine sq_no rfl rfl (lr _) rfl rfl ?_
   refine sq_ev rfl (ev_pickF (v := .raw _) (lr _) (lr _)) ?_
   refine asr (lr _) rfl ?_
   refine sq_nil (aw_ret ?_)
   exact retQ_pure (v := .raw _) rfl rfl (Less.eq (by rw [pl_dec]; simp_all))
 ·
  have g1' := g1
  try simp only [qq] at g1'
  refine sq_no rfl rfl (less_b g1) rfl rfl ?_
  refine sq_no rfl rfl (less_b g1) rfl rfl ?_
  refine sq_no rfl rfl (less_b g1) rfl rfl ?_
  refine sq_no rfl rfl (less_b g1) rfl rfl ?_
  refine sq_no rfl rfl (less_b g1) rfl rfl ?_
  refine sq_ev rfl (ev_pickF (v := .raw _) (less_b g1) (lr _)) ?_
  refine mvr (lr _) rfl ?_
  refine sq_no rfl rfl (lr _) rfl rfl ?_
  refine sq_no rfl rfl (lr _) rfl rfl ?_
  refine sq_no rfl rfl (lr _) rfl rfl ?_
  refine sq_no rfl rfl (lr _) rfl rfl ?_
  refine sq_no rfl rfl (lr _) rfl rfl ?_
  refine sq_ev rfl (ev_pickF (v := .raw _) (lr _) (lr _)) ?_
  refine mvr (lr _) rfl ?_
  refine sq_no rfl rfl (lr _) rfl rfl ?_
  refine sq_no rfl rfl (lr _) rfl rfl ?_
  refine sq_no rfl rfl (lr _) rfl rfl ?_
  refine sq_no rfl rfl (lr _) rfl rfl ?_
  refine sq_no rfl rfl (lr _) rfl rfl ?_
  refine sq_ev rfl (ev_pickF (v := .raw _) (lr _) (lr _)) ?_
  refine asr (lr _) rfl ?_
  refine sq_nil (aw_ret ?_)
  exact retQ_pure (v := .raw _) rfl rfl (Less.eq (by rw [pl_dec]; simp_all))

set_option maxHeartbeats 400000 in
/-- kelir/night.Print -/
theorem nPrint_pure (p : Pl) (hl : p.scenes.length ≤ 1000000) : APure Tryz.prog 50 [plan p] (printAV p) := by
 refine apure_of (rs := [.tmp 2, .tmp 3]) Tryz.func50 rfl rfl (Nat.le_of_ble_eq_true rfl) (by simp [AV.pureL, AV.pureB, AV.pureE, pureE_map]) (by unfold printAV; split <;> rfl) fun e0 he0 => ?_
 refine aw_seq (aw_region ?_)
 refine sq_box rfl (lr _) rfl ?_
 refine asr (lr _) rfl ?_
 refine asr (lr _) rfl ?_
 refine sq_nil (aw_seq (aw_seq (aw_region ?_)))
 refine sq_ev rfl (ev_load_agg (lr _) rfl ty27 rfl) ?_
 refine sq_ev rfl (ev_call en85 (lr _) (isplan_pure p hl) ⟨lr _, trivial⟩) ?_
 refine sq_ev rfl (ev_not (lr _)) ?_
 refine sq_nil ?_
 refine aw_cond (lr _) (fun c1 => ?_) (fun c1 => ?_)
 ·
  have c1' := c1
  try simp only [qq] at c1'
  refine aw_seq (aw_region ?_)
  refine asr (lr _) rfl ?_
  refine asr (lr _) rfl ?_
  refine sq_nil (aw_ret ?_)
  exact retQ_pure (v := .tup [.raw _, .raw _]) rfl rfl (Less.eq (by unfold printAV; rw [if_neg (by simpa using c1)]))
 ·
  have c1' := c1
  try simp only [qq] at c1'
  have hk : PlOK p = true := by simpa using c1
  refine aw_skip (aw_seq (aw_region ?_))
  refine sq_ev rfl (ev_load_agg (lr _) rfl ty27 rfl) ?_
  refine sq_ev rfl (ev_call en112 (lr _) (nsheet_pure p (td_sm (ok_td hk))) ⟨lr _, trivial⟩) ?_
  refine asr (lr _) rfl ?_
  refine asr (lr _) rfl ?_
  refine sq_nil (aw_ret ?_)
  exact retQ_pure (v := .tup [.raw _, .raw _]) rfl rfl (Less.eq (by unfold printAV; rw [if_pos hk]))

theorem pt_no {p : Pl} (hs : p.scenes.length ≤ 12) (h : PlOK p = false) : APure Tryz.prog 50 [plan p] (.tup [S [], I 2]) := by have := nPrint_pure p (by omega); unfold printAV at this; rwa [if_neg (by simp [h])] at this
theorem pt_yes {p : Pl} (hs : p.scenes.length ≤ 12) (h : PlOK p = true) : APure Tryz.prog 50 [plan p] (.tup [S (sheetL p), I 0]) := by have := nPrint_pure p (by omega); unfold printAV at this; rwa [if_pos h] at this
theorem ok_len {p : Pl} (h : PlOK p = true) : p.scenes.length ≤ 10 := by
  unfold PlOK at h
  simp only [Bool.and_eq_true, decide_eq_true_eq, inn] at h
  omega
theorem rd_yes {p : Pl} (h : PlOK p = true) : APure Tryz.prog 51 [S (sheetL p)] (.tup [plan p, I 0]) := by
  have := nRead_pure (sheetL p)
  unfold readAV at this
  rw [if_neg (by have := sheet_len (ok_td h); have := ok_len h; omega), parse_sheet (ok_td h)] at this
  simp only at this
  rwa [if_pos h] at this
theorem plans_self {p : Pl} (hs : p.scenes.length ≤ 12) : APure Tryz.prog 53 [plan p, plan p] (B true) := by
  have := rplans_pure p p (by omega) (by omega); simpa using this
set_option maxHeartbeats 4000000 in
/-- kelir/kelirlaw03.NightPrints -/
theorem law8_long (p : Pl) (hs : ¬ p.scenes.length ≤ 12) : APure Tryz.prog 8 [plan p] (B true) := by
  refine apure_of (rs := [.tmp 2]) Tryz.func8 rfl rfl (Nat.le_of_ble_eq_true rfl) (by simp [AV.pureL, AV.pureB, AV.pureE, pureE_map]) (rfl) fun e0 he0 => ?_
  refine aw_seq (aw_region ?_)
  refine sq_box rfl (lr _) rfl ?_
  refine asr (lr _) rfl ?_
  refine sq_nil (aw_seq (aw_seq (aw_region ?_)))
  refine sq_ev rfl (ev_load_agg (lr _) rfl ty27 rfl) ?_
  refine sq_ev rfl (ev_call en20 (lr _) (short_no hs) ⟨lr _, trivial⟩) ?_
  refine sq_ev rfl (ev_not (lr _)) ?_
  refine sq_nil ?_
  refine aw_cond (lr _) (fun c1 => ?_) (fun c1 => ?_)
  · skip
    have c1' := c1
    try simp only [qq] at c1'
    refine aw_seq (aw_region ?_)
    refine sq_ev rfl (ev_call en21 (lr _) (known_pure) trivial) ?_
    refine asr (lr _) rfl ?_
    refine sq_nil (aw_ret ?_)
    exact retQ_pure (v := .raw _) rfl rfl (lr _)
  · skip
    have c1' := c1
    try simp only [qq] at c1'
    first | exact absurd c1 (by decide) | (exfalso; simp at c1; done) | (exfalso; simp at c1; omega)

set_option maxHeartbeats 4000000 in
/-- kelir/kelirlaw03.NightPrints -/
theorem law8_bad (p : Pl) (hs : p.scenes.length ≤ 12) (hk : PlOK p = false) : APure Tryz.prog 8 [plan p] (B true) := by
 refine apure_of (rs := [.tmp 2]) Tryz.func8 rfl rfl (Nat.le_of_ble_eq_true rfl) (by simp [AV.pureL, AV.pureB, AV.pureE, pureE_map]) (rfl) fun e0 he0 => ?_
 refine aw_seq (aw_region ?_)
 refine sq_box rfl (lr _) rfl ?_
 refine asr (lr _) rfl ?_
 refine sq_nil (aw_seq (aw_seq (aw_region ?_)))
 refine sq_ev rfl (ev_load_agg (lr _) rfl ty27 rfl) ?_
 refine sq_ev rfl (ev_call en20 (lr _) (short_yes hs) ⟨lr _, trivial⟩) ?_
 refine sq_ev rfl (ev_not (lr _)) ?_
 refine sq_nil ?_
 refine aw_cond (lr _) (fun c1 => ?_) (fun c1 => ?_)
 ·
  have c1' := c1
  try simp only [qq] at c1'
  first | exact absurd c1 (by decide) | (exfalso; simp at c1; done) | (exfalso; simp at c1; omega)
 ·
  have c1' := c1
  try simp only [qq] at c1'
  refine aw_skip (aw_seq (aw_region ?_))
  refine sq_ev rfl (ev_load_agg (lr _) rfl ty27 rfl) ?_
  refine sq_ev rfl (ev_call en50 (lr _) (pt_no hs hk) ⟨lr _, trivial⟩) ?_
  refine sq_ev rfl (ev_mv (v := .tup _) (lr _)) ?_
  refine sq_ev rfl (ev_extract (lr _) rfl) ?_
  refine sq_ev rfl (ev_extract (lr _) rfl) ?_
  refine asr (lr _) rfl ?_
  refine asr (lr _) rfl ?_
  refine sq_nil (aw_seq (aw_seq (aw_region ?_)))
  refine sq_ev rfl (ev_load_agg (lr _) rfl ty27 rfl) ?_
  refine sq_ev rfl (ev_call en24 (lr _) (plan_no hs hk) ⟨lr _, trivial⟩) ?_
  refine sq_ev rfl (ev_not (lr _)) ?_
  refine sq_nil ?_
  refine aw_cond (lr _) (fun c2 => ?_) (fun c2 => ?_)
  ·
   have c2' := c2
   try simp only [qq] at c2'
   refine aw_seq (aw_region ?_)
   refine mvr (lr _) rfl ?_
   refine sq_ev rfl (ev_eql (lr _) (lr _)) ?_
   refine mvr (lr _) rfl ?_
   refine sq_split 21 (lr _) (fun g3 => ?_) (fun g3 => ?_)
   ·
    have g3' := g3
    try simp only [qq] at g3'
    refine sq_yes rfl rfl (less_b g3) rfl (ev_mv (v := .raw _) (lr _)) ?_
    refine sq_yes rfl rfl (less_b g3) rfl (ev_seqS (lr _) (lr _)) ?_
    refine sq_ev rfl (ev_pickT (v := .raw _) (less_b g3) (lr _)) ?_
    refine mvr (lr _) rfl ?_
    refine sq_split 25 (lr _) (fun g4 => ?_) (fun g4 => ?_)
    ·
     have g4' := g4
     try simp only [qq] at g4'
     refine sq_yes rfl rfl (less_b g4) rfl (ev_call en21 (lr _) (known_pure) trivial) ?_
     refine sq_ev rfl (ev_pickT (v := .raw _) (less_b g4) (lr _)) ?_
     refine asr (lr _) rfl ?_
     refine sq_nil (aw_ret ?_)
     exact retQ_pure (v := .raw _) rfl rfl (lr _)
    ·
     have g4' := g4
     try simp only [qq] at g4'
     first | exact absurd g4 (by decide) | (exfalso; simp at g4; done) | (exfalso; simp at g4; omega)
   ·
    have g3' := g3
    try simp only [qq] at g3'
    first | exact absurd g3 (by decide) | (exfalso; simp at g3; done) | (exfalso; simp at g3; omega)
  ·
   have c2' := c2
   try simp only [qq] at c2'
   first | exact absurd c2 (by decide) | (exfalso; simp at c2; done) | (exfalso; simp at c2; omega)

set_option maxHeartbeats 4000000 in
/-- kelir/kelirlaw03.NightPrints -/
theorem law8_yes (p : Pl) (hs : p.scenes.length ≤ 12) (hk : PlOK p = true) : APure Tryz.prog 8 [plan p] (B true) := by
 refine apure_of (rs := [.tmp 2]) Tryz.func8 rfl rfl (Nat.le_of_ble_eq_true rfl) (by simp [AV.pureL, AV.pureB, AV.pureE, pureE_map]) (rfl) fun e0 he0 => ?_
 have gp := (gp_of_ok hk).1
 refine aw_seq (aw_region ?_)
 refine sq_box rfl (lr _) rfl ?_
 refine asr (lr _) rfl ?_
 refine sq_nil (aw_seq (aw_seq (aw_region ?_)))
 refine sq_ev rfl (ev_load_agg (lr _) rfl ty27 rfl) ?_
 refine sq_ev rfl (ev_call en20 (lr _) (short_yes hs) ⟨lr _, trivial⟩) ?_
 refine sq_ev rfl (ev_not (lr _)) ?_
 refine sq_nil ?_
 refine aw_cond (lr _) (fun c1 => ?_) (fun c1 => ?_)
 ·
  have c1' := c1
  try simp only [qq] at c1'
  first | exact absurd c1 (by decide) | (exfalso; simp at c1; done) | (exfalso; simp at c1; omega)
 ·
  have c1' := c1
  try simp only [qq] at c1'
  refine aw_skip (aw_seq (aw_region ?_))
  refine sq_ev rfl (ev_load_agg (lr _) rfl ty27 rfl) ?_
  refine sq_ev rfl (ev_call en50 (lr _) (pt_yes hs hk) ⟨lr _, trivial⟩) ?_
  refine sq_ev rfl (ev_mv (v := .tup _) (lr _)) ?_
  refine sq_ev rfl (ev_extract (lr _) rfl) ?_
  refine sq_ev rfl (ev_extract (lr _) rfl) ?_
  refine asr (lr _) rfl ?_
  refine asr (lr _) rfl ?_
  refine sq_nil (aw_seq (aw_seq (aw_region ?_)))
  refine sq_ev rfl (ev_load_agg (lr _) rfl ty27 rfl) ?_
  refine sq_ev rfl (ev_call en24 (lr _) (plan_yes hs hk) ⟨lr _, trivial⟩) ?_
  refine sq_ev rfl (ev_not (lr _)) ?_
  refine sq_nil ?_
  refine aw_cond (lr _) (fun c2 => ?_) (fun c2 => ?_)
  ·
   have c2' := c2
   try simp only [qq] at c2'
   first | exact absurd c2 (by decide) | (exfalso; simp at c2; done) | (exfalso; simp at c2; omega)
  ·
   have c2' := c2
   try simp only [qq] at c2'
   refine aw_skip (aw_seq (aw_region ?_))
   refine mvr (lr _) rfl ?_
   refine sq_ev rfl (ev_call en51 (lr _) (rd_yes hk) ⟨lr _, trivial⟩) ?_
   refine sq_ev rfl (ev_mv (v := .tup _) (lr _)) ?_
   refine sq_ev rfl (ev_extract (lr _) rfl) ?_
   refine sq_ev rfl (ev_extract (lr _) rfl) ?_
   refine sq_alloc rfl z27 ?_
   refine sq_store rfl (lr _) (lr _) rfl rfl ty27 rfl rfl ?_
   refine asr (lr _) rfl ?_
   refine sq_nil (aw_seq (aw_region ?_))
   refine mvr (lr _) rfl ?_
   refine sq_ev rfl (ev_eql (lr _) (lr _)) ?_
   refine mvr (lr _) rfl ?_
   refine sq_split 35 (lr _) (fun g3 => ?_) (fun g3 => ?_)
   ·
    have g3' := g3
    try simp only [qq] at g3'
    refine sq_yes rfl rfl (less_b g3) rfl (ev_mv (v := .raw _) (lr _)) ?_
    refine sq_yes rfl rfl (less_b g3) rfl (ev_load_agg (lr _) rfl ty27 rfl) ?_
    refine sq_yes rfl rfl (less_b g3) rfl (ev_call en52 (lr _) (rprint_pure p (td_sm (ok_td hk)) (td_nn (ok_td hk))) ⟨lr _, trivial⟩) ?_
    refine sq_yes rfl rfl (less_b g3) rfl (ev_seqS (lr _) (lr _)) ?_
    refine sq_ev rfl (ev_pickT (v := .raw _) (less_b g3) (lr _)) ?_
    refine mvr (lr _) rfl ?_
    refine sq_split 41 (lr _) (fun g4 => ?_) (fun g4 => ?_)
    ·
     have g4' := g4
     try simp only [qq] at g4'
     refine sq_yes rfl rfl (less_b g4) rfl (ev_mv (v := .raw _) (lr _)) ?_
     refine sq_yes rfl rfl (less_b g4) rfl (ev_eql (lr _) (lr _)) ?_
     refine sq_ev rfl (ev_pickT (v := .raw _) (less_b g4) (lr _)) ?_
     refine mvr (lr _) rfl ?_
     refine sq_split 45 (lr _) (fun g5 => ?_) (fun g5 => ?_)
     ·
      have g5' := g5
      try simp only [qq] at g5'
      refine sq_yes rfl rfl (less_b g5) rfl (ev_load_agg (lr _) rfl ty27 rfl) ?_
      refine sq_yes rfl rfl (less_b g5) rfl (ev_load_agg (lr _) rfl ty27 rfl) ?_
      refine sq_yes rfl rfl (less_b g5) rfl (ev_call en53 (lr _) (plans_self hs) ⟨lr _, lr _, trivial⟩) ?_
      refine sq_ev rfl (ev_pickT (v := .raw _) (less_b g5) (lr _)) ?_
      refine mvr (lr _) rfl ?_
      refine sq_split 50 (lr _) (fun g6 => ?_) (fun g6 => ?_)
      ·
       have g6' := g6
       try simp only [qq] at g6'
       refine sq_yes rfl rfl (less_b g6) rfl (ev_call en21 (lr _) (known_pure) trivial) ?_
       refine sq_ev rfl (ev_pickT (v := .raw _) (less_b g6) (lr _)) ?_
       refine asr (lr _) rfl ?_
       refine sq_nil (aw_ret ?_)
       exact retQ_pure (v := .raw _) rfl rfl (lr _)
      ·
       have g6' := g6
       try simp only [qq] at g6'
       first | exact absurd g6 (by decide) | (exfalso; simp at g6; done) | (exfalso; simp at g6; omega)
     ·
      have g5' := g5
      try simp only [qq] at g5'
      first | exact absurd g5 (by decide) | (exfalso; simp at g5; done) | (exfalso; simp at g5; omega)
    ·
     have g4' := g4
     try simp only [qq] at g4'
     first | exact absurd g4 (by decide) | (exfalso; simp at g4; done) | (exfalso; simp at g4; omega)
   ·
    have g3' := g3
    try simp only [qq] at g3'
    first | exact absurd g3 (by decide) | (exfalso; simp at g3; done) | (exfalso; simp at g3; omega)

/-- **NightPrints returns true.** -/
theorem law8 (p : Pl) : APure Tryz.prog 8 [plan p] (B true) := by
  by_cases hs : p.scenes.length ≤ 12
  · cases hk : PlOK p with
    | false => exact law8_bad p hs hk
    | true => exact law8_yes p hs hk
  · exact law8_long p hs

end Go.Proofs.YtjghdbdiejaacaaGreatDoor
