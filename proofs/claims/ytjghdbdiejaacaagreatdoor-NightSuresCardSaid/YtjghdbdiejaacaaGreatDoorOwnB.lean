/-
  A part of the proof: conditions: none beyond each theorem's own.
-/
import Derived.Test.YtjghdbdiejaacaaGreatDoorOwnA
set_option linter.all false
namespace Go.Proofs.YtjghdbdiejaacaaGreatDoor
open Go Go.Ab Ni
theorem rsu_no {p : Pl} (gp : GP p) (wp : WP p) (k : surest p = none) : APure Tryz.prog 67 [plan p] (.tup [.sl 1 [], B false]) := by have := rSurest_pure p gp wp; rw [k] at this; exact this
theorem rsu_yes {p : Pl} {l : List Nat} (gp : GP p) (wp : WP p) (k : surest p = some l) : APure Tryz.prog 67 [plan p] (.tup [nats l, B true]) := by have := rSurest_pure p gp wp; rw [k] at this; exact this
theorem rmi_no {p : Pl} (gp : GP p) (wp : WP p) (k : missed p = none) : APure Tryz.prog 68 [plan p] (.tup [.sl 1 [], B false]) := by have := rMisses_pure p gp wp; rw [k] at this; exact this
theorem rmi_yes {p : Pl} {l : List Int} (gp : GP p) (wp : WP p) (k : missed p = some l) : APure Tryz.prog 68 [plan p] (.tup [ints l, B true]) := by have := rMisses_pure p gp wp; rw [k] at this; exact this
set_option maxHeartbeats 4000000 in
theorem law15_long (p : Pl) (l : List Int) (hs : ¬ p.scenes.length ≤ 12) : APure Tryz.prog 15 [plan p, ints l] (B true) := by
  refine apure_of (rs := [.tmp 4]) Tryz.func15 rfl rfl (Nat.le_of_ble_eq_true rfl) (by simp [AV.pureL, AV.pureB, AV.pureE, pureE_map]) (rfl) fun e0 he0 => ?_
  refine aw_seq (aw_region ?_)
  refine sq_box rfl (lr _) rfl ?_
  refine asr (lr _) rfl ?_
  refine sq_nil (aw_seq (aw_seq (aw_region ?_)))
  refine sq_ev rfl (ev_load_agg (lr _) rfl ty27 rfl) ?_
  refine sq_ev rfl (ev_call en20 (lr _) (short_no hs) ⟨lr _, trivial⟩) ?_
  refine sq_ev rfl (ev_not (lr _)) ?_
  refine mvr (lr _) rfl ?_
  refine sq_no rfl rfl (lr _) rfl rfl ?_
  refine sq_no rfl rfl (lr _) rfl rfl ?_
  refine sq_no rfl rfl (lr _) rfl rfl ?_
  refine sq_ev rfl (ev_pickT (v := .raw _) (lr _) (lr _)) ?_
  refine sq_nil ?_
  refine aw_true (lr _) ?_
  refine aw_seq (aw_region ?_)
  refine sq_ev rfl (ev_call en21 (lr _) (known_pure) trivial) ?_
  refine asr (lr _) rfl ?_
  refine sq_nil (aw_ret ?_)
  exact retQ_pure (v := .raw _) rfl rfl (lr _)
set_option maxHeartbeats 4000000 in
theorem law15_slim (p : Pl) (l : List Int) (hs : p.scenes.length ≤ 12) (hl : ¬ l.length ≤ 12) : APure Tryz.prog 15 [plan p, ints l] (B true) := by
 refine apure_of (rs := [.tmp 4]) Tryz.func15 rfl rfl (Nat.le_of_ble_eq_true rfl) (by simp [AV.pureL, AV.pureB, AV.pureE, pureE_map]) (rfl) fun e0 he0 => ?_
 refine aw_seq (aw_region ?_)
 refine sq_box rfl (lr _) rfl ?_
 refine asr (lr _) rfl ?_
 refine sq_nil (aw_seq (aw_seq (aw_region ?_)))
 refine sq_ev rfl (ev_load_agg (lr _) rfl ty27 rfl) ?_
 refine sq_ev rfl (ev_call en20 (lr _) (short_yes hs) ⟨lr _, trivial⟩) ?_
 refine sq_ev rfl (ev_not (lr _)) ?_
 refine mvr (lr _) rfl ?_
 refine ysl rfl rfl (lr _) rfl (lr _) ?_
 refine sq_yes rfl rfl (lr _) rfl (ev_call en45 (lr _) (slim_no hl) ⟨lr _, trivial⟩) ?_
 refine sq_yes rfl rfl (lr _) rfl (ev_not (lr _)) ?_
 refine pf rfl (lr _) (lr _) ?_
 refine sq_nil ?_
 refine aw_true (lr _) ?_
 refine aw_seq (aw_region ?_)
 refine sq_ev rfl (ev_call en21 (lr _) (known_pure) trivial) ?_
 refine asr (lr _) rfl ?_
 refine sq_nil (aw_ret ?_)
 exact retQ_pure (v := .raw _) rfl rfl (lr _)
set_option maxHeartbeats 4000000 in
theorem law15_bad (p : Pl) (l : List Int) (hs : p.scenes.length ≤ 12) (hl : l.length ≤ 12) (hk : PlOK p = false) : APure Tryz.prog 15 [plan p, ints l] (B true) := by
 refine apure_of (rs := [.tmp 4]) Tryz.func15 rfl rfl (Nat.le_of_ble_eq_true rfl) (by simp [AV.pureL, AV.pureB, AV.pureE, pureE_map]) (rfl) fun e0 he0 => ?_
 refine aw_seq (aw_region ?_)
 refine sq_box rfl (lr _) rfl ?_
 refine asr (lr _) rfl ?_
 refine sq_nil (aw_seq (aw_seq (aw_region ?_)))
 refine sq_ev rfl (ev_load_agg (lr _) rfl ty27 rfl) ?_
 refine sq_ev rfl (ev_call en20 (lr _) (short_yes hs) ⟨lr _, trivial⟩) ?_
 refine sq_ev rfl (ev_not (lr _)) ?_
 refine mvr (lr _) rfl ?_
 refine ysl rfl rfl (lr _) rfl (lr _) ?_
 refine sq_yes rfl rfl (lr _) rfl (ev_call en45 (lr _) (slim_yes hl) ⟨lr _, trivial⟩) ?_
 refine sq_yes rfl rfl (lr _) rfl (ev_not (lr _)) ?_
 refine pf rfl (lr _) (lr _) ?_
 refine sq_nil ?_
 refine aw_false (lr _) ?_
 refine aw_skip (aw_seq (aw_region ?_))
 refine sq_ev rfl (ev_load_agg (lr _) rfl ty27 rfl) ?_
 refine mvs rfl (lr _) ?_
 refine sq_ev rfl (ev_call en64 (lr _) (sureAV_no hs hl (by simp [chosenB, hk])) ⟨lr _, lr _, trivial⟩) ?_
 refine sq_ev rfl (ev_mv (v := .tup _) (lr _)) ?_
 refine xtr rfl (lr _) rfl ?_
 refine xtr rfl (lr _) rfl ?_
 refine asr (lr _) rfl ?_
 refine asr (lr _) rfl ?_
 refine sq_nil (aw_seq (aw_region ?_))
 refine sq_ev rfl (ev_load_agg (lr _) rfl ty27 rfl) ?_
 refine sq_ev rfl (ev_call en65 (lr _) (su_bad hs hk) ⟨lr _, trivial⟩) ?_
 refine sq_ev rfl (ev_mv (v := .tup _) (lr _)) ?_
 refine xtr rfl (lr _) rfl ?_
 refine xtr rfl (lr _) rfl ?_
 refine ass rfl (lr _) ?_
 refine asr (lr _) rfl ?_
 refine sq_nil (aw_seq (aw_region ?_))
 refine sq_ev rfl (ev_load_agg (lr _) rfl ty27 rfl) ?_
 refine sq_ev rfl (ev_call en66 (lr _) (mi_bad hs hk) ⟨lr _, trivial⟩) ?_
 refine sq_ev rfl (ev_mv (v := .tup _) (lr _)) ?_
 refine xtr rfl (lr _) rfl ?_
 refine xtr rfl (lr _) rfl ?_
 refine ass rfl (lr _) ?_
 refine asr (lr _) rfl ?_
 refine sq_nil (aw_seq (aw_seq (aw_region ?_)))
 refine sq_ev rfl (ev_load_agg (lr _) rfl ty27 rfl) ?_
 refine sq_ev rfl (ev_call en24 (lr _) (plan_no hs hk) ⟨lr _, trivial⟩) ?_
 refine sq_ev rfl (ev_not (lr _)) ?_
 refine sq_nil ?_
 refine aw_true (lr _) ?_
 refine aw_seq (aw_region ?_)
 refine mvr (lr _) rfl ?_
 refine sq_ev rfl (ev_eql (lr _) (lr _)) ?_
 refine mvr (lr _) rfl ?_
 refine ymr rfl rfl (lr _) rfl (lr _) ?_
 refine sq_yes rfl rfl (lr _) rfl (ev_not (lr _)) ?_
 refine sq_ev rfl (ev_pickT (v := .raw _) (lr _) (lr _)) ?_
 refine mvr (lr _) rfl ?_
 refine ymr rfl rfl (lr _) rfl (lr _) ?_
 refine sq_yes rfl rfl (lr _) rfl (ev_eql (lr _) (lr _)) ?_
 refine sq_ev rfl (ev_pickT (v := .raw _) (lr _) (lr _)) ?_
 refine mvr (lr _) rfl ?_
 refine ysl rfl rfl (lr _) rfl (lr _) ?_
 refine sq_yes rfl rfl (lr _) rfl (ev_len sl34 (lr _) rfl) ?_
 refine sq_yes rfl rfl (lr _) rfl (ev_eql (lr _) (lr _)) ?_
 refine sq_ev rfl (ev_pickT (v := .raw _) (lr _) (lr _)) ?_
 refine mvr (lr _) rfl ?_
 refine ymr rfl rfl (lr _) rfl (lr _) ?_
 refine sq_yes rfl rfl (lr _) rfl (ev_eql (lr _) (lr _)) ?_
 refine sq_ev rfl (ev_pickT (v := .raw _) (lr _) (lr _)) ?_
 refine mvr (lr _) rfl ?_
 refine ysl rfl rfl (lr _) rfl (lr _) ?_
 refine sq_yes rfl rfl (lr _) rfl (ev_len sl34 (lr _) rfl) ?_
 refine sq_yes rfl rfl (lr _) rfl (ev_eql (lr _) (lr _)) ?_
 refine sq_ev rfl (ev_pickT (v := .raw _) (lr _) (lr _)) ?_
 refine mvr (lr _) rfl ?_
 refine sq_yes rfl rfl (lr _) rfl (ev_call en21 (lr _) (known_pure) trivial) ?_
 refine sq_ev rfl (ev_pickT (v := .raw _) (lr _) (lr _)) ?_
 refine asr (lr _) rfl ?_
 refine sq_nil (aw_ret ?_)
 exact retQ_pure (v := .raw _) rfl rfl (lr _)
set_option maxHeartbeats 4000000 in
set_option maxRecDepth 10000 in
theorem law15_ttt (p : Pl) (l : List Nat) (hs : p.scenes.length ≤ 12) (hl : l.length ≤ 12) (hk : PlOK p = true) (gp : GP p) (wp : WP p) (s : List Nat) (ha : surest p = some s) (m : List Int) (hm : missed p = some m) (cv : CV p l) (hc : (Ris p (up l) && isCh p (up l)) = true) : APure Tryz.prog 15 [plan p, nats l] (B true) := by
 refine apure_of (rs := [.tmp 4]) Tryz.func15 rfl rfl (Nat.le_of_ble_eq_true rfl) (by simp [AV.pureL, AV.pureB, AV.pureE, pureE_map]) (rfl) fun e0 he0 => ?_
 refine aw_seq (aw_region ?_)
 refine sq_box rfl (lr _) rfl ?_
 refine asr (lr _) rfl ?_
 refine sq_nil (aw_seq (aw_seq (aw_region ?_)))
 refine sq_ev rfl (ev_load_agg (lr _) rfl ty27 rfl) ?_
 refine sq_ev rfl (ev_call en20 (lr _) (short_yes hs) ⟨lr _, trivial⟩) ?_
 refine sq_ev rfl (ev_not (lr _)) ?_
 refine mvr (lr _) rfl ?_
 refine ysl rfl rfl (lr _) rfl (lr _) ?_
 refine sq_yes rfl rfl (lr _) rfl (ev_call en45 (lr _) (slim_yesN hl) ⟨lr _, trivial⟩) ?_
 refine sq_yes rfl rfl (lr _) rfl (ev_not (lr _)) ?_
 refine pf rfl (lr _) (lr _) ?_
 refine sq_nil ?_
 refine aw_false (lr _) ?_
 refine aw_skip (aw_seq (aw_region ?_))
 refine sq_ev rfl (ev_load_agg (lr _) rfl ty27 rfl) ?_
 refine mvs rfl (lr _) ?_
 refine sq_ev rfl (ev_call en64 (lr _) (sureAV_yes hs hl (by rw [chosenB, Bool.and_assoc, hc, hk]; rfl)) ⟨lr _, lr _, trivial⟩) ?_
 refine sq_ev rfl (ev_mv (v := .tup _) (lr _)) ?_
 refine xtr rfl (lr _) rfl ?_
 refine xtr rfl (lr _) rfl ?_
 refine asr (lr _) rfl ?_
 refine asr (lr _) rfl ?_
 refine sq_nil (aw_seq (aw_region ?_))
 refine sq_ev rfl (ev_load_agg (lr _) rfl ty27 rfl) ?_
 refine sq_ev rfl (ev_call en65 (lr _) (su_yes hs hk ha) ⟨lr _, trivial⟩) ?_
 refine sq_ev rfl (ev_mv (v := .tup _) (lr _)) ?_
 refine xtr rfl (lr _) rfl ?_
 refine xtr rfl (lr _) rfl ?_
 refine ass rfl (lr _) ?_
 refine asr (lr _) rfl ?_
 refine sq_nil (aw_seq (aw_region ?_))
 refine sq_ev rfl (ev_load_agg (lr _) rfl ty27 rfl) ?_
 refine sq_ev rfl (ev_call en66 (lr _) (mi_yes hs hk hm) ⟨lr _, trivial⟩) ?_
 refine sq_ev rfl (ev_mv (v := .tup _) (lr _)) ?_
 refine xtr rfl (lr _) rfl ?_
 refine xtr rfl (lr _) rfl ?_
 refine ass rfl (lr _) ?_
 refine asr (lr _) rfl ?_
 refine sq_nil (aw_seq (aw_seq (aw_region ?_)))
 refine sq_ev rfl (ev_load_agg (lr _) rfl ty27 rfl) ?_
 refine sq_ev rfl (ev_call en24 (lr _) (plan_yes hs hk) ⟨lr _, trivial⟩) ?_
 refine sq_ev rfl (ev_not (lr _)) ?_
 refine sq_nil ?_
 refine aw_false (lr _) ?_
 refine aw_skip (aw_seq (aw_region ?_))
 refine sq_ev rfl (ev_load_agg (lr _) rfl ty27 rfl) ?_
 refine sq_ev rfl (ev_call en67 (lr _) (rsu_yes gp wp ha) ⟨lr _, trivial⟩) ?_
 refine sq_ev rfl (ev_mv (v := .tup _) (lr _)) ?_
 refine xtr rfl (lr _) rfl ?_
 refine xtr rfl (lr _) rfl ?_
 refine ass rfl (lr _) ?_
 refine asr (lr _) rfl ?_
 refine sq_nil (aw_seq (aw_region ?_))
 refine sq_ev rfl (ev_load_agg (lr _) rfl ty27 rfl) ?_
 refine sq_ev rfl (ev_call en68 (lr _) (rmi_yes gp wp hm) ⟨lr _, trivial⟩) ?_
 refine sq_ev rfl (ev_mv (v := .tup _) (lr _)) ?_
 refine xtr rfl (lr _) rfl ?_
 refine xtr rfl (lr _) rfl ?_
 refine ass rfl (lr _) ?_
 refine asr (lr _) rfl ?_
 refine sq_nil (aw_seq (aw_seq (aw_region ?_)))
 refine mvr (lr _) rfl ?_
 refine sq_ev rfl (ev_not (lr _)) ?_
 refine mvr (lr _) rfl ?_
 refine sq_no rfl rfl (lr _) rfl rfl ?_
 refine sq_no rfl rfl (lr _) rfl rfl ?_
 refine sq_no rfl rfl (lr _) rfl rfl ?_
 refine sq_no rfl rfl (lr _) rfl rfl ?_
 refine sq_no rfl rfl (lr _) rfl rfl ?_
 refine sq_no rfl rfl (lr _) rfl rfl ?_
 refine sq_no rfl rfl (lr _) rfl rfl ?_
 refine pf rfl (lr _) (lr _) ?_
 refine mvr (lr _) rfl ?_
 refine ymr rfl rfl (lr _) rfl (lr _) ?_
 refine ymr rfl rfl (lr _) rfl (lr _) ?_
 refine ymr rfl rfl (lr _) rfl (lr _) ?_
 refine sq_yes rfl rfl (lr _) rfl (ev_neq (lr _) (lr _)) ?_
 refine ymr rfl rfl (lr _) rfl (lr _) ?_
 refine ysl rfl rfl (lr _) rfl (lr _) ?_
 refine ysl rfl rfl (lr _) rfl (lr _) ?_
 refine sq_yes rfl rfl (lr _) rfl (ev_call en27 (lr _) (same_selfN (surest_cv gp ha)) ⟨lr _, lr _, trivial⟩) ?_
 refine sq_yes rfl rfl (lr _) rfl (ev_not (lr _)) ?_
 refine sq_yes rfl rfl (lr _) rfl (ev_pickF (v := .raw _) (lr _) (lr _)) ?_
 refine sq_yes rfl rfl (lr _) rfl (ev_pickT (v := .raw _) (lr _) (lr _)) ?_
 refine pf rfl (lr _) (lr _) ?_
 refine mvr (lr _) rfl ?_
 refine ymr rfl rfl (lr _) rfl (lr _) ?_
 refine sq_yes rfl rfl (lr _) rfl (ev_not (lr _)) ?_
 refine ymr rfl rfl (lr _) rfl (lr _) ?_
 refine sq_no rfl rfl (lr _) rfl rfl ?_
 refine sq_no rfl rfl (lr _) rfl rfl ?_
 refine sq_no rfl rfl (lr _) rfl rfl ?_
 refine sq_no rfl rfl (lr _) rfl rfl ?_
 refine sq_no rfl rfl (lr _) rfl rfl ?_
 refine sq_no rfl rfl (lr _) rfl rfl ?_
 refine sq_no rfl rfl (lr _) rfl rfl ?_
 refine sq_yes rfl rfl (lr _) rfl (ev_pickF (v := .raw _) (lr _) (lr _)) ?_
 refine pf rfl (lr _) (lr _) ?_
 refine mvr (lr _) rfl ?_
 refine ymr rfl rfl (lr _) rfl (lr _) ?_
 refine ymr rfl rfl (lr _) rfl (lr _) ?_
 refine ymr rfl rfl (lr _) rfl (lr _) ?_
 refine sq_yes rfl rfl (lr _) rfl (ev_neq (lr _) (lr _)) ?_
 refine ymr rfl rfl (lr _) rfl (lr _) ?_
 refine ysl rfl rfl (lr _) rfl (lr _) ?_
 refine ysl rfl rfl (lr _) rfl (lr _) ?_
 refine sq_yes rfl rfl (lr _) rfl (ev_call en27 (lr _) (same_self (l := m) (by have := missed_len hm; omega)) ⟨lr _, lr _, trivial⟩) ?_
 refine sq_yes rfl rfl (lr _) rfl (ev_not (lr _)) ?_
 refine sq_yes rfl rfl (lr _) rfl (ev_pickF (v := .raw _) (lr _) (lr _)) ?_
 refine sq_yes rfl rfl (lr _) rfl (ev_pickT (v := .raw _) (lr _) (lr _)) ?_
 refine pf rfl (lr _) (lr _) ?_
 refine sq_nil ?_
 refine aw_false (lr _) ?_
 refine aw_skip (aw_seq (aw_seq (aw_region ?_)))
 refine sq_ev rfl (ev_load_agg (lr _) rfl ty27 rfl) ?_
 refine mvs rfl (lr _) ?_
 refine sq_ev rfl (ev_call en47 (lr _) (cho_yesN hs hl hc) ⟨lr _, lr _, trivial⟩) ?_
 refine sq_ev rfl (ev_not (lr _)) ?_
 refine sq_nil ?_
 refine aw_false (lr _) ?_
 refine aw_skip (aw_seq (aw_region ?_))
 refine mvr (lr _) rfl ?_
 refine sq_ev rfl (ev_eql (lr _) (lr _)) ?_
 refine mvr (lr _) rfl ?_
 refine ymr rfl rfl (lr _) rfl (lr _) ?_
 refine sq_yes rfl rfl (lr _) rfl (ev_load_agg (lr _) rfl ty27 rfl) ?_
 refine ysl rfl rfl (lr _) rfl (lr _) ?_
 refine sq_yes rfl rfl (lr _) rfl (ev_call en69 (lr _) (rsure_pure p l gp wp cv) ⟨lr _, lr _, trivial⟩) ?_
 refine sq_yes rfl rfl (lr _) rfl (ev_eqlB un4 (lr _) (lr _)) ?_
 refine sq_ev rfl (ev_pickT (v := .raw _) (lr _) (lr _)) ?_
 refine mvr (lr _) rfl ?_
 refine sq_split 152 (lr _) (fun g14 => ?_) (fun g14 => ?_)
 ·
  have g14' := g14
  try simp only [qq] at g14'
  refine sq_yes rfl rfl (less_b g14) rfl (ev_call en21 (lr _) (known_pure) trivial) ?_
  refine sq_ev rfl (ev_pickT (v := .raw _) (less_b g14) (lr _)) ?_
  refine asr (lr _) rfl ?_
  refine sq_nil (aw_ret ?_)
  exact retQ_pure (v := .raw _) rfl rfl (lr _)
 ·
  have g14' := g14
  try simp only [qq] at g14'
  first | exact absurd g14 (by decide) | (simp at g14; done) | (exfalso; simp at g14; omega)
set_option maxHeartbeats 4000000 in
set_option maxRecDepth 10000 in
theorem law15_ttf (p : Pl) (l : List Int) (hs : p.scenes.length ≤ 12) (hl : l.length ≤ 12) (hk : PlOK p = true) (gp : GP p) (wp : WP p) (s : List Nat) (ha : surest p = some s) (m : List Int) (hm : missed p = some m) (hc : (Ris p l && isCh p l) = false) : APure Tryz.prog 15 [plan p, ints l] (B true) := by
 refine apure_of (rs := [.tmp 4]) Tryz.func15 rfl rfl (Nat.le_of_ble_eq_true rfl) (by simp [AV.pureL, AV.pureB, AV.pureE, pureE_map]) (rfl) fun e0 he0 => ?_
 refine aw_seq (aw_region ?_)
 refine sq_box rfl (lr _) rfl ?_
 refine asr (lr _) rfl ?_
 refine sq_nil (aw_seq (aw_seq (aw_region ?_)))
 refine sq_ev rfl (ev_load_agg (lr _) rfl ty27 rfl) ?_
 refine sq_ev rfl (ev_call en20 (lr _) (short_yes hs) ⟨lr _, trivial⟩) ?_
 refine sq_ev rfl (ev_not (lr _)) ?_
 refine mvr (lr _) rfl ?_
 refine ysl rfl rfl (lr _) rfl (lr _) ?_
 refine sq_yes rfl rfl (lr _) rfl (ev_call en45 (lr _) (slim_yes hl) ⟨lr _, trivial⟩) ?_
 refine sq_yes rfl rfl (lr _) rfl (ev_not (lr _)) ?_
 refine pf rfl (lr _) (lr _) ?_
 refine sq_nil ?_
 refine aw_false (lr _) ?_
 refine aw_skip (aw_seq (aw_region ?_))
 refine sq_ev rfl (ev_load_agg (lr _) rfl ty27 rfl) ?_
 refine mvs rfl (lr _) ?_
 refine sq_ev rfl (ev_call en64 (lr _) (sureAV_no hs hl (by rw [chosenB, Bool.and_assoc, hc, Bool.and_false])) ⟨lr _, lr _, trivial⟩) ?_
 refine sq_ev rfl (ev_mv (v := .tup _) (lr _)) ?_
 refine xtr rfl (lr _) rfl ?_
 refine xtr rfl (lr _) rfl ?_
 refine asr (lr _) rfl ?_
 refine asr (lr _) rfl ?_
 refine sq_nil (aw_seq (aw_region ?_))
 refine sq_ev rfl (ev_load_agg (lr _) rfl ty27 rfl) ?_
 refine sq_ev rfl (ev_call en65 (lr _) (su_yes hs hk ha) ⟨lr _, trivial⟩) ?_
 refine sq_ev rfl (ev_mv (v := .tup _) (lr _)) ?_
 refine xtr rfl (lr _) rfl ?_
 refine xtr rfl (lr _) rfl ?_
 refine ass rfl (lr _) ?_
 refine asr (lr _) rfl ?_
 refine sq_nil (aw_seq (aw_region ?_))
 refine sq_ev rfl (ev_load_agg (lr _) rfl ty27 rfl) ?_
 refine sq_ev rfl (ev_call en66 (lr _) (mi_yes hs hk hm) ⟨lr _, trivial⟩) ?_
 refine sq_ev rfl (ev_mv (v := .tup _) (lr _)) ?_
 refine xtr rfl (lr _) rfl ?_
 refine xtr rfl (lr _) rfl ?_
 refine ass rfl (lr _) ?_
 refine asr (lr _) rfl ?_
 refine sq_nil (aw_seq (aw_seq (aw_region ?_)))
 refine sq_ev rfl (ev_load_agg (lr _) rfl ty27 rfl) ?_
 refine sq_ev rfl (ev_call en24 (lr _) (plan_yes hs hk) ⟨lr _, trivial⟩) ?_
 refine sq_ev rfl (ev_not (lr _)) ?_
 refine sq_nil ?_
 refine aw_false (lr _) ?_
 refine aw_skip (aw_seq (aw_region ?_))
 refine sq_ev rfl (ev_load_agg (lr _) rfl ty27 rfl) ?_
 refine sq_ev rfl (ev_call en67 (lr _) (rsu_yes gp wp ha) ⟨lr _, trivial⟩) ?_
 refine sq_ev rfl (ev_mv (v := .tup _) (lr _)) ?_
 refine xtr rfl (lr _) rfl ?_
 refine xtr rfl (lr _) rfl ?_
 refine ass rfl (lr _) ?_
 refine asr (lr _) rfl ?_
 refine sq_nil (aw_seq (aw_region ?_))
 refine sq_ev rfl (ev_load_agg (lr _) rfl ty27 rfl) ?_
 refine sq_ev rfl (ev_call en68 (lr _) (rmi_yes gp wp hm) ⟨lr _, trivial⟩) ?_
 refine sq_ev rfl (ev_mv (v := .tup _) (lr _)) ?_
 refine xtr rfl (lr _) rfl ?_
 refine xtr rfl (lr _) rfl ?_
 refine ass rfl (lr _) ?_
 refine asr (lr _) rfl ?_
 refine sq_nil (aw_seq (aw_seq (aw_region ?_)))
 refine mvr (lr _) rfl ?_
 refine sq_ev rfl (ev_not (lr _)) ?_
 refine mvr (lr _) rfl ?_
 refine sq_no rfl rfl (lr _) rfl rfl ?_
 refine sq_no rfl rfl (lr _) rfl rfl ?_
 refine sq_no rfl rfl (lr _) rfl rfl ?_
 refine sq_no rfl rfl (lr _) rfl rfl ?_
 refine sq_no rfl rfl (lr _) rfl rfl ?_
 refine sq_no rfl rfl (lr _) rfl rfl ?_
 refine sq_no rfl rfl (lr _) rfl rfl ?_
 refine pf rfl (lr _) (lr _) ?_
 refine mvr (lr _) rfl ?_
 refine ymr rfl rfl (lr _) rfl (lr _) ?_
 refine ymr rfl rfl (lr _) rfl (lr _) ?_
 refine ymr rfl rfl (lr _) rfl (lr _) ?_
 refine sq_yes rfl rfl (lr _) rfl (ev_neq (lr _) (lr _)) ?_
 refine ymr rfl rfl (lr _) rfl (lr _) ?_
 refine ysl rfl rfl (lr _) rfl (lr _) ?_
 refine ysl rfl rfl (lr _) rfl (lr _) ?_
 refine sq_yes rfl rfl (lr _) rfl (ev_call en27 (lr _) (same_selfN (surest_cv gp ha)) ⟨lr _, lr _, trivial⟩) ?_
 refine sq_yes rfl rfl (lr _) rfl (ev_not (lr _)) ?_
 refine sq_yes rfl rfl (lr _) rfl (ev_pickF (v := .raw _) (lr _) (lr _)) ?_
 refine sq_yes rfl rfl (lr _) rfl (ev_pickT (v := .raw _) (lr _) (lr _)) ?_
 refine pf rfl (lr _) (lr _) ?_
 refine mvr (lr _) rfl ?_
 refine ymr rfl rfl (lr _) rfl (lr _) ?_
 refine sq_yes rfl rfl (lr _) rfl (ev_not (lr _)) ?_
 refine ymr rfl rfl (lr _) rfl (lr _) ?_
 refine sq_no rfl rfl (lr _) rfl rfl ?_
 refine sq_no rfl rfl (lr _) rfl rfl ?_
 refine sq_no rfl rfl (lr _) rfl rfl ?_
 refine sq_no rfl rfl (lr _) rfl rfl ?_
 refine sq_no rfl rfl (lr _) rfl rfl ?_
 refine sq_no rfl rfl (lr _) rfl rfl ?_
 refine sq_no rfl rfl (lr _) rfl rfl ?_
 refine sq_yes rfl rfl (lr _) rfl (ev_pickF (v := .raw _) (lr _) (lr _)) ?_
 refine pf rfl (lr _) (lr _) ?_
 refine mvr (lr _) rfl ?_
 refine ymr rfl rfl (lr _) rfl (lr _) ?_
 refine ymr rfl rfl (lr _) rfl (lr _) ?_
 refine ymr rfl rfl (lr _) rfl (lr _) ?_
 refine sq_yes rfl rfl (lr _) rfl (ev_neq (lr _) (lr _)) ?_
 refine ymr rfl rfl (lr _) rfl (lr _) ?_
 refine ysl rfl rfl (lr _) rfl (lr _) ?_
 refine ysl rfl rfl (lr _) rfl (lr _) ?_
 refine sq_yes rfl rfl (lr _) rfl (ev_call en27 (lr _) (same_self (l := m) (by have := missed_len hm; omega)) ⟨lr _, lr _, trivial⟩) ?_
 refine sq_yes rfl rfl (lr _) rfl (ev_not (lr _)) ?_
 refine sq_yes rfl rfl (lr _) rfl (ev_pickF (v := .raw _) (lr _) (lr _)) ?_
 refine sq_yes rfl rfl (lr _) rfl (ev_pickT (v := .raw _) (lr _) (lr _)) ?_
 refine pf rfl (lr _) (lr _) ?_
 refine sq_nil ?_
 refine aw_false (lr _) ?_
 refine aw_skip (aw_seq (aw_seq (aw_region ?_)))
 refine sq_ev rfl (ev_load_agg (lr _) rfl ty27 rfl) ?_
 refine mvs rfl (lr _) ?_
 refine sq_ev rfl (ev_call en47 (lr _) (cho_no hs hl hc) ⟨lr _, lr _, trivial⟩) ?_
 refine sq_ev rfl (ev_not (lr _)) ?_
 refine sq_nil ?_
 refine aw_true (lr _) ?_
 refine aw_seq (aw_region ?_)
 refine mvr (lr _) rfl ?_
 refine sq_ev rfl (ev_eql (lr _) (lr _)) ?_
 refine mvr (lr _) rfl ?_
 refine ymr rfl rfl (lr _) rfl (lr _) ?_
 refine sq_yes rfl rfl (lr _) rfl (ev_not (lr _)) ?_
 refine sq_ev rfl (ev_pickT (v := .raw _) (lr _) (lr _)) ?_
 refine mvr (lr _) rfl ?_
 refine sq_yes rfl rfl (lr _) rfl (ev_call en21 (lr _) (known_pure) trivial) ?_
 refine sq_ev rfl (ev_pickT (v := .raw _) (lr _) (lr _)) ?_
 refine asr (lr _) rfl ?_
 refine sq_nil (aw_ret ?_)
 exact retQ_pure (v := .raw _) rfl rfl (lr _)
set_option maxHeartbeats 4000000 in
set_option maxRecDepth 10000 in
theorem law15_tft (p : Pl) (l : List Nat) (hs : p.scenes.length ≤ 12) (hl : l.length ≤ 12) (hk : PlOK p = true) (gp : GP p) (wp : WP p) (s : List Nat) (ha : surest p = some s) (hm : missed p = none) (cv : CV p l) (hc : (Ris p (up l) && isCh p (up l)) = true) : APure Tryz.prog 15 [plan p, nats l] (B true) := by
 refine apure_of (rs := [.tmp 4]) Tryz.func15 rfl rfl (Nat.le_of_ble_eq_true rfl) (by simp [AV.pureL, AV.pureB, AV.pureE, pureE_map]) (rfl) fun e0 he0 => ?_
 refine aw_seq (aw_region ?_)
 refine sq_box rfl (lr _) rfl ?_
 refine asr (lr _) rfl ?_
 refine sq_nil (aw_seq (aw_seq (aw_region ?_)))
 refine sq_ev rfl (ev_load_agg (lr _) rfl ty27 rfl) ?_
 refine sq_ev rfl (ev_call en20 (lr _) (short_yes hs) ⟨lr _, trivial⟩) ?_
 refine sq_ev rfl (ev_not (lr _)) ?_
 refine mvr (lr _) rfl ?_
 refine ysl rfl rfl (lr _) rfl (lr _) ?_
 refine sq_yes rfl rfl (lr _) rfl (ev_call en45 (lr _) (slim_yesN hl) ⟨lr _, trivial⟩) ?_
 refine sq_yes rfl rfl (lr _) rfl (ev_not (lr _)) ?_
 refine pf rfl (lr _) (lr _) ?_
 refine sq_nil ?_
 refine aw_false (lr _) ?_
 refine aw_skip (aw_seq (aw_region ?_))
 refine sq_ev rfl (ev_load_agg (lr _) rfl ty27 rfl) ?_
 refine mvs rfl (lr _) ?_
 refine sq_ev rfl (ev_call en64 (lr _) (sureAV_yes hs hl (by rw [chosenB, Bool.and_assoc, hc, hk]; rfl)) ⟨lr _, lr _, trivial⟩) ?_
 refine sq_ev rfl (ev_mv (v := .tup _) (lr _)) ?_
 refine xtr rfl (lr _) rfl ?_
 refine xtr rfl (lr _) rfl ?_
 refine asr (lr _) rfl ?_
 refine asr (lr _) rfl ?_
 refine sq_nil (aw_seq (aw_region ?_))
 refine sq_ev rfl (ev_load_agg (lr _) rfl ty27 rfl) ?_
 refine sq_ev rfl (ev_call en65 (lr _) (su_yes hs hk ha) ⟨lr _, trivial⟩) ?_
 refine sq_ev rfl (ev_mv (v := .tup _) (lr _)) ?_
 refine xtr rfl (lr _) rfl ?_
 refine xtr rfl (lr _) rfl ?_
 refine ass rfl (lr _) ?_
 refine asr (lr _) rfl ?_
 refine sq_nil (aw_seq (aw_region ?_))
 refine sq_ev rfl (ev_load_agg (lr _) rfl ty27 rfl) ?_
 refine sq_ev rfl (ev_call en66 (lr _) (mi_no hs hk hm) ⟨lr _, trivial⟩) ?_
 refine sq_ev rfl (ev_mv (v := .tup _) (lr _)) ?_
 refine xtr rfl (lr _) rfl ?_
 refine xtr rfl (lr _) rfl ?_
 refine ass rfl (lr _) ?_
 refine asr (lr _) rfl ?_
 refine sq_nil (aw_seq (aw_seq (aw_region ?_)))
 refine sq_ev rfl (ev_load_agg (lr _) rfl ty27 rfl) ?_
 refine sq_ev rfl (ev_call en24 (lr _) (plan_yes hs hk) ⟨lr _, trivial⟩) ?_
 refine sq_ev rfl (ev_not (lr _)) ?_
 refine sq_nil ?_
 refine aw_false (lr _) ?_
 refine aw_skip (aw_seq (aw_region ?_))
 refine sq_ev rfl (ev_load_agg (lr _) rfl ty27 rfl) ?_
 refine sq_ev rfl (ev_call en67 (lr _) (rsu_yes gp wp ha) ⟨lr _, trivial⟩) ?_
 refine sq_ev rfl (ev_mv (v := .tup _) (lr _)) ?_
 refine xtr rfl (lr _) rfl ?_
 refine xtr rfl (lr _) rfl ?_
 refine ass rfl (lr _) ?_
 refine asr (lr _) rfl ?_
 refine sq_nil (aw_seq (aw_region ?_))
 refine sq_ev rfl (ev_load_agg (lr _) rfl ty27 rfl) ?_
 refine sq_ev rfl (ev_call en68 (lr _) (rmi_no gp wp hm) ⟨lr _, trivial⟩) ?_
 refine sq_ev rfl (ev_mv (v := .tup _) (lr _)) ?_
 refine xtr rfl (lr _) rfl ?_
 refine xtr rfl (lr _) rfl ?_
 refine ass rfl (lr _) ?_
 refine asr (lr _) rfl ?_
 refine sq_nil (aw_seq (aw_seq (aw_region ?_)))
 refine mvr (lr _) rfl ?_
 refine sq_ev rfl (ev_not (lr _)) ?_
 refine mvr (lr _) rfl ?_
 refine sq_no rfl rfl (lr _) rfl rfl ?_
 refine sq_no rfl rfl (lr _) rfl rfl ?_
 refine sq_no rfl rfl (lr _) rfl rfl ?_
 refine sq_no rfl rfl (lr _) rfl rfl ?_
 refine sq_no rfl rfl (lr _) rfl rfl ?_
 refine sq_no rfl rfl (lr _) rfl rfl ?_
 refine sq_no rfl rfl (lr _) rfl rfl ?_
 refine pf rfl (lr _) (lr _) ?_
 refine mvr (lr _) rfl ?_
 refine ymr rfl rfl (lr _) rfl (lr _) ?_
 refine ymr rfl rfl (lr _) rfl (lr _) ?_
 refine ymr rfl rfl (lr _) rfl (lr _) ?_
 refine sq_yes rfl rfl (lr _) rfl (ev_neq (lr _) (lr _)) ?_
 refine ymr rfl rfl (lr _) rfl (lr _) ?_
 refine ysl rfl rfl (lr _) rfl (lr _) ?_
 refine ysl rfl rfl (lr _) rfl (lr _) ?_
 refine sq_yes rfl rfl (lr _) rfl (ev_call en27 (lr _) (same_selfN (surest_cv gp ha)) ⟨lr _, lr _, trivial⟩) ?_
 refine sq_yes rfl rfl (lr _) rfl (ev_not (lr _)) ?_
 refine sq_yes rfl rfl (lr _) rfl (ev_pickF (v := .raw _) (lr _) (lr _)) ?_
 refine sq_yes rfl rfl (lr _) rfl (ev_pickT (v := .raw _) (lr _) (lr _)) ?_
 refine pf rfl (lr _) (lr _) ?_
 refine mvr (lr _) rfl ?_
 refine ymr rfl rfl (lr _) rfl (lr _) ?_
 refine sq_yes rfl rfl (lr _) rfl (ev_not (lr _)) ?_
 refine ymr rfl rfl (lr _) rfl (lr _) ?_
 refine ymr rfl rfl (lr _) rfl (lr _) ?_
 refine sq_yes rfl rfl (lr _) rfl (ev_neq (lr _) (lr _)) ?_
 refine ymr rfl rfl (lr _) rfl (lr _) ?_
 refine ysl rfl rfl (lr _) rfl (lr _) ?_
 refine sq_yes rfl rfl (lr _) rfl (ev_len sl34 (lr _) rfl) ?_
 refine sq_yes rfl rfl (lr _) rfl (ev_neq (lr _) (lr _)) ?_
 refine sq_yes rfl rfl (lr _) rfl (ev_pickF (v := .raw _) (lr _) (lr _)) ?_
 refine sq_yes rfl rfl (lr _) rfl (ev_pickT (v := .raw _) (lr _) (lr _)) ?_
 refine pf rfl (lr _) (lr _) ?_
 refine mvr (lr _) rfl ?_
 refine ymr rfl rfl (lr _) rfl (lr _) ?_
 refine ymr rfl rfl (lr _) rfl (lr _) ?_
 refine sq_no rfl rfl (lr _) rfl rfl ?_
 refine sq_no rfl rfl (lr _) rfl rfl ?_
 refine sq_no rfl rfl (lr _) rfl rfl ?_
 refine sq_no rfl rfl (lr _) rfl rfl ?_
 refine sq_no rfl rfl (lr _) rfl rfl ?_
 refine sq_no rfl rfl (lr _) rfl rfl ?_
 refine sq_no rfl rfl (lr _) rfl rfl ?_
 refine sq_no rfl rfl (lr _) rfl rfl ?_
 refine sq_yes rfl rfl (lr _) rfl (ev_pickF (v := .raw _) (lr _) (lr _)) ?_
 refine pf rfl (lr _) (lr _) ?_
 refine sq_nil ?_
 refine aw_false (lr _) ?_
 refine aw_skip (aw_seq (aw_seq (aw_region ?_)))
 refine sq_ev rfl (ev_load_agg (lr _) rfl ty27 rfl) ?_
 refine mvs rfl (lr _) ?_
 refine sq_ev rfl (ev_call en47 (lr _) (cho_yesN hs hl hc) ⟨lr _, lr _, trivial⟩) ?_
 refine sq_ev rfl (ev_not (lr _)) ?_
 refine sq_nil ?_
 refine aw_false (lr _) ?_
 refine aw_skip (aw_seq (aw_region ?_))
 refine mvr (lr _) rfl ?_
 refine sq_ev rfl (ev_eql (lr _) (lr _)) ?_
 refine mvr (lr _) rfl ?_
 refine ymr rfl rfl (lr _) rfl (lr _) ?_
 refine sq_yes rfl rfl (lr _) rfl (ev_load_agg (lr _) rfl ty27 rfl) ?_
 refine ysl rfl rfl (lr _) rfl (lr _) ?_
 refine sq_yes rfl rfl (lr _) rfl (ev_call en69 (lr _) (rsure_pure p l gp wp cv) ⟨lr _, lr _, trivial⟩) ?_
 refine sq_yes rfl rfl (lr _) rfl (ev_eqlB un4 (lr _) (lr _)) ?_
 refine sq_ev rfl (ev_pickT (v := .raw _) (lr _) (lr _)) ?_
 refine mvr (lr _) rfl ?_
 refine sq_split 152 (lr _) (fun g14 => ?_) (fun g14 => ?_)
 ·
  have g14' := g14
  try simp only [qq] at g14'
  refine sq_yes rfl rfl (less_b g14) rfl (ev_call en21 (lr _) (known_pure) trivial) ?_
  refine sq_ev rfl (ev_pickT (v := .raw _) (less_b g14) (lr _)) ?_
  refine asr (lr _) rfl ?_
  refine sq_nil (aw_ret ?_)
  exact retQ_pure (v := .raw _) rfl rfl (lr _)
 ·
  have g14' := g14
  try simp only [qq] at g14'
  first | exact absurd g14 (by decide) | (simp at g14; done) | (exfalso; simp at g14; omega)
set_option maxHeartbeats 4000000 in
set_option maxRecDepth 10000 in
theorem law15_tff (p : Pl) (l : List Int) (hs : p.scenes.length ≤ 12) (hl : l.length ≤ 12) (hk : PlOK p = true) (gp : GP p) (wp : WP p) (s : List Nat) (ha : surest p = some s) (hm : missed p = none) (hc : (Ris p l && isCh p l) = false) : APure Tryz.prog 15 [plan p, ints l] (B true) := by
 refine apure_of (rs := [.tmp 4]) Tryz.func15 rfl rfl (Nat.le_of_ble_eq_true rfl) (by simp [AV.pureL, AV.pureB, AV.pureE, pureE_map]) (rfl) fun e0 he0 => ?_
 refine aw_seq (aw_region ?_)
 refine sq_box rfl (lr _) rfl ?_
 refine asr (lr _) rfl ?_
 refine sq_nil (aw_seq (aw_seq (aw_region ?_)))
 refine sq_ev rfl (ev_load_agg (lr _) rfl ty27 rfl) ?_
 refine sq_ev rfl (ev_call en20 (lr _) (short_yes hs) ⟨lr _, trivial⟩) ?_
 refine sq_ev rfl (ev_not (lr _)) ?_
 refine mvr (lr _) rfl ?_
 refine ysl rfl rfl (lr _) rfl (lr _) ?_
 refine sq_yes rfl rfl (lr _) rfl (ev_call en45 (lr _) (slim_yes hl) ⟨lr _, trivial⟩) ?_
 refine sq_yes rfl rfl (lr _) rfl (ev_not (lr _)) ?_
 refine pf rfl (lr _) (lr _) ?_
 refine sq_nil ?_
 refine aw_false (lr _) ?_
 refine aw_skip (aw_seq (aw_region ?_))
 refine sq_ev rfl (ev_load_agg (lr _) rfl ty27 rfl) ?_
 refine mvs rfl (lr _) ?_
 refine sq_ev rfl (ev_call en64 (lr _) (sureAV_no hs hl (by rw [chosenB, Bool.and_assoc, hc, Bool.and_false])) ⟨lr _, lr _, trivial⟩) ?_
 refine sq_ev rfl (ev_mv (v := .tup _) (lr _)) ?_
 refine xtr rfl (lr _) rfl ?_
 refine xtr rfl (lr _) rfl ?_
 refine asr (lr _) rfl ?_
 refine asr (lr _) rfl ?_
 refine sq_nil (aw_seq (aw_region ?_))
 refine sq_ev rfl (ev_load_agg (lr _) rfl ty27 rfl) ?_
 refine sq_ev rfl (ev_call en65 (lr _) (su_yes hs hk ha) ⟨lr _, trivial⟩) ?_
 refine sq_ev rfl (ev_mv (v := .tup _) (lr _)) ?_
 refine xtr rfl (lr _) rfl ?_
 refine xtr rfl (lr _) rfl ?_
 refine ass rfl (lr _) ?_
 refine asr (lr _) rfl ?_
 refine sq_nil (aw_seq (aw_region ?_))
 refine sq_ev rfl (ev_load_agg (lr _) rfl ty27 rfl) ?_
 refine sq_ev rfl (ev_call en66 (lr _) (mi_no hs hk hm) ⟨lr _, trivial⟩) ?_
 refine sq_ev rfl (ev_mv (v := .tup _) (lr _)) ?_
 refine xtr rfl (lr _) rfl ?_
 refine xtr rfl (lr _) rfl ?_
 refine ass rfl (lr _) ?_
 refine asr (lr _) rfl ?_
 refine sq_nil (aw_seq (aw_seq (aw_region ?_)))
 refine sq_ev rfl (ev_load_agg (lr _) rfl ty27 rfl) ?_
 refine sq_ev rfl (ev_call en24 (lr _) (plan_yes hs hk) ⟨lr _, trivial⟩) ?_
 refine sq_ev rfl (ev_not (lr _)) ?_
 refine sq_nil ?_
 refine aw_false (lr _) ?_
 refine aw_skip (aw_seq (aw_region ?_))
 refine sq_ev rfl (ev_load_agg (lr _) rfl ty27 rfl) ?_
 refine sq_ev rfl (ev_call en67 (lr _) (rsu_yes gp wp ha) ⟨lr _, trivial⟩) ?_
 refine sq_ev rfl (ev_mv (v := .tup _) (lr _)) ?_
 refine xtr rfl (lr _) rfl ?_
 refine xtr rfl (lr _) rfl ?_
 refine ass rfl (lr _) ?_
 refine asr (lr _) rfl ?_
 refine sq_nil (aw_seq (aw_region ?_))
 refine sq_ev rfl (ev_load_agg (lr _) rfl ty27 rfl) ?_
 refine sq_ev rfl (ev_call en68 (lr _) (rmi_no gp wp hm) ⟨lr _, trivial⟩) ?_
 refine sq_ev rfl (ev_mv (v := .tup _) (lr _)) ?_
 refine xtr rfl (lr _) rfl ?_
 refine xtr rfl (lr _) rfl ?_
 refine ass rfl (lr _) ?_
 refine asr (lr _) rfl ?_
 refine sq_nil (aw_seq (aw_seq (aw_region ?_)))
 refine mvr (lr _) rfl ?_
 refine sq_ev rfl (ev_not (lr _)) ?_
 refine mvr (lr _) rfl ?_
 refine sq_no rfl rfl (lr _) rfl rfl ?_
 refine sq_no rfl rfl (lr _) rfl rfl ?_
 refine sq_no rfl rfl (lr _) rfl rfl ?_
 refine sq_no rfl rfl (lr _) rfl rfl ?_
 refine sq_no rfl rfl (lr _) rfl rfl ?_
 refine sq_no rfl rfl (lr _) rfl rfl ?_
 refine sq_no rfl rfl (lr _) rfl rfl ?_
 refine pf rfl (lr _) (lr _) ?_
 refine mvr (lr _) rfl ?_
 refine ymr rfl rfl (lr _) rfl (lr _) ?_
 refine ymr rfl rfl (lr _) rfl (lr _) ?_
 refine ymr rfl rfl (lr _) rfl (lr _) ?_
 refine sq_yes rfl rfl (lr _) rfl (ev_neq (lr _) (lr _)) ?_
 refine ymr rfl rfl (lr _) rfl (lr _) ?_
 refine ysl rfl rfl (lr _) rfl (lr _) ?_
 refine ysl rfl rfl (lr _) rfl (lr _) ?_
 refine sq_yes rfl rfl (lr _) rfl (ev_call en27 (lr _) (same_selfN (surest_cv gp ha)) ⟨lr _, lr _, trivial⟩) ?_
 refine sq_yes rfl rfl (lr _) rfl (ev_not (lr _)) ?_
 refine sq_yes rfl rfl (lr _) rfl (ev_pickF (v := .raw _) (lr _) (lr _)) ?_
 refine sq_yes rfl rfl (lr _) rfl (ev_pickT (v := .raw _) (lr _) (lr _)) ?_
 refine pf rfl (lr _) (lr _) ?_
 refine mvr (lr _) rfl ?_
 refine ymr rfl rfl (lr _) rfl (lr _) ?_
 refine sq_yes rfl rfl (lr _) rfl (ev_not (lr _)) ?_
 refine ymr rfl rfl (lr _) rfl (lr _) ?_
 refine ymr rfl rfl (lr _) rfl (lr _) ?_
 refine sq_yes rfl rfl (lr _) rfl (ev_neq (lr _) (lr _)) ?_
 refine ymr rfl rfl (lr _) rfl (lr _) ?_
 refine ysl rfl rfl (lr _) rfl (lr _) ?_
 refine sq_yes rfl rfl (lr _) rfl (ev_len sl34 (lr _) rfl) ?_
 refine sq_yes rfl rfl (lr _) rfl (ev_neq (lr _) (lr _)) ?_
 refine sq_yes rfl rfl (lr _) rfl (ev_pickF (v := .raw _) (lr _) (lr _)) ?_
 refine sq_yes rfl rfl (lr _) rfl (ev_pickT (v := .raw _) (lr _) (lr _)) ?_
 refine pf rfl (lr _) (lr _) ?_
 refine mvr (lr _) rfl ?_
 refine ymr rfl rfl (lr _) rfl (lr _) ?_
 refine ymr rfl rfl (lr _) rfl (lr _) ?_
 refine sq_no rfl rfl (lr _) rfl rfl ?_
 refine sq_no rfl rfl (lr _) rfl rfl ?_
 refine sq_no rfl rfl (lr _) rfl rfl ?_
 refine sq_no rfl rfl (lr _) rfl rfl ?_
 refine sq_no rfl rfl (lr _) rfl rfl ?_
 refine sq_no rfl rfl (lr _) rfl rfl ?_
 refine sq_no rfl rfl (lr _) rfl rfl ?_
 refine sq_no rfl rfl (lr _) rfl rfl ?_
 refine sq_yes rfl rfl (lr _) rfl (ev_pickF (v := .raw _) (lr _) (lr _)) ?_
 refine pf rfl (lr _) (lr _) ?_
 refine sq_nil ?_
 refine aw_false (lr _) ?_
 refine aw_skip (aw_seq (aw_seq (aw_region ?_)))
 refine sq_ev rfl (ev_load_agg (lr _) rfl ty27 rfl) ?_
 refine mvs rfl (lr _) ?_
 refine sq_ev rfl (ev_call en47 (lr _) (cho_no hs hl hc) ⟨lr _, lr _, trivial⟩) ?_
 refine sq_ev rfl (ev_not (lr _)) ?_
 refine sq_nil ?_
 refine aw_true (lr _) ?_
 refine aw_seq (aw_region ?_)
 refine mvr (lr _) rfl ?_
 refine sq_ev rfl (ev_eql (lr _) (lr _)) ?_
 refine mvr (lr _) rfl ?_
 refine ymr rfl rfl (lr _) rfl (lr _) ?_
 refine sq_yes rfl rfl (lr _) rfl (ev_not (lr _)) ?_
 refine sq_ev rfl (ev_pickT (v := .raw _) (lr _) (lr _)) ?_
 refine mvr (lr _) rfl ?_
 refine sq_yes rfl rfl (lr _) rfl (ev_call en21 (lr _) (known_pure) trivial) ?_
 refine sq_ev rfl (ev_pickT (v := .raw _) (lr _) (lr _)) ?_
 refine asr (lr _) rfl ?_
 refine sq_nil (aw_ret ?_)
 exact retQ_pure (v := .raw _) rfl rfl (lr _)
set_option maxHeartbeats 4000000 in
set_option maxRecDepth 10000 in
theorem law15_ftt (p : Pl) (l : List Nat) (hs : p.scenes.length ≤ 12) (hl : l.length ≤ 12) (hk : PlOK p = true) (gp : GP p) (wp : WP p) (ha : surest p = none) (m : List Int) (hm : missed p = some m) (cv : CV p l) (hc : (Ris p (up l) && isCh p (up l)) = true) : APure Tryz.prog 15 [plan p, nats l] (B true) := by
 refine apure_of (rs := [.tmp 4]) Tryz.func15 rfl rfl (Nat.le_of_ble_eq_true rfl) (by simp [AV.pureL, AV.pureB, AV.pureE, pureE_map]) (rfl) fun e0 he0 => ?_
 refine aw_seq (aw_region ?_)
 refine sq_box rfl (lr _) rfl ?_
 refine asr (lr _) rfl ?_
 refine sq_nil (aw_seq (aw_seq (aw_region ?_)))
 refine sq_ev rfl (ev_load_agg (lr _) rfl ty27 rfl) ?_
 refine sq_ev rfl (ev_call en20 (lr _) (short_yes hs) ⟨lr _, trivial⟩) ?_
 refine sq_ev rfl (ev_not (lr _)) ?_
 refine mvr (lr _) rfl ?_
 refine ysl rfl rfl (lr _) rfl (lr _) ?_
 refine sq_yes rfl rfl (lr _) rfl (ev_call en45 (lr _) (slim_yesN hl) ⟨lr _, trivial⟩) ?_
 refine sq_yes rfl rfl (lr _) rfl (ev_not (lr _)) ?_
 refine pf rfl (lr _) (lr _) ?_
 refine sq_nil ?_
 refine aw_false (lr _) ?_
 refine aw_skip (aw_seq (aw_region ?_))
 refine sq_ev rfl (ev_load_agg (lr _) rfl ty27 rfl) ?_
 refine mvs rfl (lr _) ?_
 refine sq_ev rfl (ev_call en64 (lr _) (sureAV_yes hs hl (by rw [chosenB, Bool.and_assoc, hc, hk]; rfl)) ⟨lr _, lr _, trivial⟩) ?_
 refine sq_ev rfl (ev_mv (v := .tup _) (lr _)) ?_
 refine xtr rfl (lr _) rfl ?_
 refine xtr rfl (lr _) rfl ?_
 refine asr (lr _) rfl ?_
 refine asr (lr _) rfl ?_
 refine sq_nil (aw_seq (aw_region ?_))
 refine sq_ev rfl (ev_load_agg (lr _) rfl ty27 rfl) ?_
 refine sq_ev rfl (ev_call en65 (lr _) (su_no hs hk ha) ⟨lr _, trivial⟩) ?_
 refine sq_ev rfl (ev_mv (v := .tup _) (lr _)) ?_
 refine xtr rfl (lr _) rfl ?_
 refine xtr rfl (lr _) rfl ?_
 refine ass rfl (lr _) ?_
 refine asr (lr _) rfl ?_
 refine sq_nil (aw_seq (aw_region ?_))
 refine sq_ev rfl (ev_load_agg (lr _) rfl ty27 rfl) ?_
 refine sq_ev rfl (ev_call en66 (lr _) (mi_yes hs hk hm) ⟨lr _, trivial⟩) ?_
 refine sq_ev rfl (ev_mv (v := .tup _) (lr _)) ?_
 refine xtr rfl (lr _) rfl ?_
 refine xtr rfl (lr _) rfl ?_
 refine ass rfl (lr _) ?_
 refine asr (lr _) rfl ?_
 refine sq_nil (aw_seq (aw_seq (aw_region ?_)))
 refine sq_ev rfl (ev_load_agg (lr _) rfl ty27 rfl) ?_
 refine sq_ev rfl (ev_call en24 (lr _) (plan_yes hs hk) ⟨lr _, trivial⟩) ?_
 refine sq_ev rfl (ev_not (lr _)) ?_
 refine sq_nil ?_
 refine aw_false (lr _) ?_
 refine aw_skip (aw_seq (aw_region ?_))
 refine sq_ev rfl (ev_load_agg (lr _) rfl ty27 rfl) ?_
 refine sq_ev rfl (ev_call en67 (lr _) (rsu_no gp wp ha) ⟨lr _, trivial⟩) ?_
 refine sq_ev rfl (ev_mv (v := .tup _) (lr _)) ?_
 refine xtr rfl (lr _) rfl ?_
 refine xtr rfl (lr _) rfl ?_
 refine ass rfl (lr _) ?_
 refine asr (lr _) rfl ?_
 refine sq_nil (aw_seq (aw_region ?_))
 refine sq_ev rfl (ev_load_agg (lr _) rfl ty27 rfl) ?_
 refine sq_ev rfl (ev_call en68 (lr _) (rmi_yes gp wp hm) ⟨lr _, trivial⟩) ?_
 refine sq_ev rfl (ev_mv (v := .tup _) (lr _)) ?_
 refine xtr rfl (lr _) rfl ?_
 refine xtr rfl (lr _) rfl ?_
 refine ass rfl (lr _) ?_
 refine asr (lr _) rfl ?_
 refine sq_nil (aw_seq (aw_seq (aw_region ?_)))
 refine mvr (lr _) rfl ?_
 refine sq_ev rfl (ev_not (lr _)) ?_
 refine mvr (lr _) rfl ?_
 refine ymr rfl rfl (lr _) rfl (lr _) ?_
 refine sq_yes rfl rfl (lr _) rfl (ev_neq (lr _) (lr _)) ?_
 refine ymr rfl rfl (lr _) rfl (lr _) ?_
 refine ysl rfl rfl (lr _) rfl (lr _) ?_
 refine sq_yes rfl rfl (lr _) rfl (ev_len sl34 (lr _) rfl) ?_
 refine sq_yes rfl rfl (lr _) rfl (ev_neq (lr _) (lr _)) ?_
 refine sq_yes rfl rfl (lr _) rfl (ev_pickF (v := .raw _) (lr _) (lr _)) ?_
 refine sq_ev rfl (ev_pickT (v := .raw _) (lr _) (lr _)) ?_
 refine mvr (lr _) rfl ?_
 refine ymr rfl rfl (lr _) rfl (lr _) ?_
 refine ymr rfl rfl (lr _) rfl (lr _) ?_
 refine sq_no rfl rfl (lr _) rfl rfl ?_
 refine sq_no rfl rfl (lr _) rfl rfl ?_
 refine sq_no rfl rfl (lr _) rfl rfl ?_
 refine sq_no rfl rfl (lr _) rfl rfl ?_
 refine sq_no rfl rfl (lr _) rfl rfl ?_
 refine sq_no rfl rfl (lr _) rfl rfl ?_
 refine sq_no rfl rfl (lr _) rfl rfl ?_
 refine sq_no rfl rfl (lr _) rfl rfl ?_
 refine sq_yes rfl rfl (lr _) rfl (ev_pickF (v := .raw _) (lr _) (lr _)) ?_
 refine pf rfl (lr _) (lr _) ?_
 refine mvr (lr _) rfl ?_
 refine ymr rfl rfl (lr _) rfl (lr _) ?_
 refine sq_yes rfl rfl (lr _) rfl (ev_not (lr _)) ?_
 refine ymr rfl rfl (lr _) rfl (lr _) ?_
 refine sq_no rfl rfl (lr _) rfl rfl ?_
 refine sq_no rfl rfl (lr _) rfl rfl ?_
 refine sq_no rfl rfl (lr _) rfl rfl ?_
 refine sq_no rfl rfl (lr _) rfl rfl ?_
 refine sq_no rfl rfl (lr _) rfl rfl ?_
 refine sq_no rfl rfl (lr _) rfl rfl ?_
 refine sq_no rfl rfl (lr _) rfl rfl ?_
 refine sq_yes rfl rfl (lr _) rfl (ev_pickF (v := .raw _) (lr _) (lr _)) ?_
 refine pf rfl (lr _) (lr _) ?_
 refine mvr (lr _) rfl ?_
 refine ymr rfl rfl (lr _) rfl (lr _) ?_
 refine ymr rfl rfl (lr _) rfl (lr _) ?_
 refine ymr rfl rfl (lr _) rfl (lr _) ?_
 refine sq_yes rfl rfl (lr _) rfl (ev_neq (lr _) (lr _)) ?_
 refine ymr rfl rfl (lr _) rfl (lr _) ?_
 refine ysl rfl rfl (lr _) rfl (lr _) ?_
 refine ysl rfl rfl (lr _) rfl (lr _) ?_
 refine sq_yes rfl rfl (lr _) rfl (ev_call en27 (lr _) (same_self (l := m) (by have := missed_len hm; omega)) ⟨lr _, lr _, trivial⟩) ?_
 refine sq_yes rfl rfl (lr _) rfl (ev_not (lr _)) ?_
 refine sq_yes rfl rfl (lr _) rfl (ev_pickF (v := .raw _) (lr _) (lr _)) ?_
 refine sq_yes rfl rfl (lr _) rfl (ev_pickT (v := .raw _) (lr _) (lr _)) ?_
 refine pf rfl (lr _) (lr _) ?_
 refine sq_nil ?_
 refine aw_false (lr _) ?_
 refine aw_skip (aw_seq (aw_seq (aw_region ?_)))
 refine sq_ev rfl (ev_load_agg (lr _) rfl ty27 rfl) ?_
 refine mvs rfl (lr _) ?_
 refine sq_ev rfl (ev_call en47 (lr _) (cho_yesN hs hl hc) ⟨lr _, lr _, trivial⟩) ?_
 refine sq_ev rfl (ev_not (lr _)) ?_
 refine sq_nil ?_
 refine aw_false (lr _) ?_
 refine aw_skip (aw_seq (aw_region ?_))
 refine mvr (lr _) rfl ?_
 refine sq_ev rfl (ev_eql (lr _) (lr _)) ?_
 refine mvr (lr _) rfl ?_
 refine ymr rfl rfl (lr _) rfl (lr _) ?_
 refine sq_yes rfl rfl (lr _) rfl (ev_load_agg (lr _) rfl ty27 rfl) ?_
 refine ysl rfl rfl (lr _) rfl (lr _) ?_
 refine sq_yes rfl rfl (lr _) rfl (ev_call en69 (lr _) (rsure_pure p l gp wp cv) ⟨lr _, lr _, trivial⟩) ?_
 refine sq_yes rfl rfl (lr _) rfl (ev_eqlB un4 (lr _) (lr _)) ?_
 refine sq_ev rfl (ev_pickT (v := .raw _) (lr _) (lr _)) ?_
 refine mvr (lr _) rfl ?_
 refine sq_split 152 (lr _) (fun g14 => ?_) (fun g14 => ?_)
 ·
  have g14' := g14
  try simp only [qq] at g14'
  refine sq_yes rfl rfl (less_b g14) rfl (ev_call en21 (lr _) (known_pure) trivial) ?_
  refine sq_ev rfl (ev_pickT (v := .raw _) (less_b g14) (lr _)) ?_
  refine asr (lr _) rfl ?_
  refine sq_nil (aw_ret ?_)
  exact retQ_pure (v := .raw _) rfl rfl (lr _)
 ·
  have g14' := g14
  try simp only [qq] at g14'
  first | exact absurd g14 (by decide) | (simp at g14; done) | (exfalso; simp at g14; omega)
set_option maxHeartbeats 4000000 in
set_option maxRecDepth 10000 in
theorem law15_ftf (p : Pl) (l : List Int) (hs : p.scenes.length ≤ 12) (hl : l.length ≤ 12) (hk : PlOK p = true) (gp : GP p) (wp : WP p) (ha : surest p = none) (m : List Int) (hm : missed p = some m) (hc : (Ris p l && isCh p l) = false) : APure Tryz.prog 15 [plan p, ints l] (B true) := by
 refine apure_of (rs := [.tmp 4]) Tryz.func15 rfl rfl (Nat.le_of_ble_eq_true rfl) (by simp [AV.pureL, AV.pureB, AV.pureE, pureE_map]) (rfl) fun e0 he0 => ?_
 refine aw_seq (aw_region ?_)
 refine sq_box rfl (lr _) rfl ?_
 refine asr (lr _) rfl ?_
 refine sq_nil (aw_seq (aw_seq (aw_region ?_)))
 refine sq_ev rfl (ev_load_agg (lr _) rfl ty27 rfl) ?_
 refine sq_ev rfl (ev_call en20 (lr _) (short_yes hs) ⟨lr _, trivial⟩) ?_
 refine sq_ev rfl (ev_not (lr _)) ?_
 refine mvr (lr _) rfl ?_
 refine ysl rfl rfl (lr _) rfl (lr _) ?_
 refine sq_yes rfl rfl (lr _) rfl (ev_call en45 (lr _) (slim_yes hl) ⟨lr _, trivial⟩) ?_
 refine sq_yes rfl rfl (lr _) rfl (ev_not (lr _)) ?_
 refine pf rfl (lr _) (lr _) ?_
 refine sq_nil ?_
 refine aw_false (lr _) ?_
 refine aw_skip (aw_seq (aw_region ?_))
 refine sq_ev rfl (ev_load_agg (lr _) rfl ty27 rfl) ?_
 refine mvs rfl (lr _) ?_
 refine sq_ev rfl (ev_call en64 (lr _) (sureAV_no hs hl (by rw [chosenB, Bool.and_assoc, hc, Bool.and_false])) ⟨lr _, lr _, trivial⟩) ?_
 refine sq_ev rfl (ev_mv (v := .tup _) (lr _)) ?_
 refine xtr rfl (lr _) rfl ?_
 refine xtr rfl (lr _) rfl ?_
 refine asr (lr _) rfl ?_
 refine asr (lr _) rfl ?_
 refine sq_nil (aw_seq (aw_region ?_))
 refine sq_ev rfl (ev_load_agg (lr _) rfl ty27 rfl) ?_
 refine sq_ev rfl (ev_call en65 (lr _) (su_no hs hk ha) ⟨lr _, trivial⟩) ?_
 refine sq_ev rfl (ev_mv (v := .tup _) (lr _)) ?_
 refine xtr rfl (lr _) rfl ?_
 refine xtr rfl (lr _) rfl ?_
 refine ass rfl (lr _) ?_
 refine asr (lr _) rfl ?_
 refine sq_nil (aw_seq (aw_region ?_))
 refine sq_ev rfl (ev_load_agg (lr _) rfl ty27 rfl) ?_
 refine sq_ev rfl (ev_call en66 (lr _) (mi_yes hs hk hm) ⟨lr _, trivial⟩) ?_
 refine sq_ev rfl (ev_mv (v := .tup _) (lr _)) ?_
 refine xtr rfl (lr _) rfl ?_
 refine xtr rfl (lr _) rfl ?_
 refine ass rfl (lr _) ?_
 refine asr (lr _) rfl ?_
 refine sq_nil (aw_seq (aw_seq (aw_region ?_)))
 refine sq_ev rfl (ev_load_agg (lr _) rfl ty27 rfl) ?_
 refine sq_ev rfl (ev_call en24 (lr _) (plan_yes hs hk) ⟨lr _, trivial⟩) ?_
 refine sq_ev rfl (ev_not (lr _)) ?_
 refine sq_nil ?_
 refine aw_false (lr _) ?_
 refine aw_skip (aw_seq (aw_region ?_))
 refine sq_ev rfl (ev_load_agg (lr _) rfl ty27 rfl) ?_
 refine sq_ev rfl (ev_call en67 (lr _) (rsu_no gp wp ha) ⟨lr _, trivial⟩) ?_
 refine sq_ev rfl (ev_mv (v := .tup _) (lr _)) ?_
 refine xtr rfl (lr _) rfl ?_
 refine xtr rfl (lr _) rfl ?_
 refine ass rfl (lr _) ?_
 refine asr (lr _) rfl ?_
 refine sq_nil (aw_seq (aw_region ?_))
 refine sq_ev rfl (ev_load_agg (lr _) rfl ty27 rfl) ?_
 refine sq_ev rfl (ev_call en68 (lr _) (rmi_yes gp wp hm) ⟨lr _, trivial⟩) ?_
 refine sq_ev rfl (ev_mv (v := .tup _) (lr _)) ?_
 refine xtr rfl (lr _) rfl ?_
 refine xtr rfl (lr _) rfl ?_
 refine ass rfl (lr _) ?_
 refine asr (lr _) rfl ?_
 refine sq_nil (aw_seq (aw_seq (aw_region ?_)))
 refine mvr (lr _) rfl ?_
 refine sq_ev rfl (ev_not (lr _)) ?_
 refine mvr (lr _) rfl ?_
 refine ymr rfl rfl (lr _) rfl (lr _) ?_
 refine sq_yes rfl rfl (lr _) rfl (ev_neq (lr _) (lr _)) ?_
 refine ymr rfl rfl (lr _) rfl (lr _) ?_
 refine ysl rfl rfl (lr _) rfl (lr _) ?_
 refine sq_yes rfl rfl (lr _) rfl (ev_len sl34 (lr _) rfl) ?_
 refine sq_yes rfl rfl (lr _) rfl (ev_neq (lr _) (lr _)) ?_
 refine sq_yes rfl rfl (lr _) rfl (ev_pickF (v := .raw _) (lr _) (lr _)) ?_
 refine sq_ev rfl (ev_pickT (v := .raw _) (lr _) (lr _)) ?_
 refine mvr (lr _) rfl ?_
 refine ymr rfl rfl (lr _) rfl (lr _) ?_
 refine ymr rfl rfl (lr _) rfl (lr _) ?_
 refine sq_no rfl rfl (lr _) rfl rfl ?_
 refine sq_no rfl rfl (lr _) rfl rfl ?_
 refine sq_no rfl rfl (lr _) rfl rfl ?_
 refine sq_no rfl rfl (lr _) rfl rfl ?_
 refine sq_no rfl rfl (lr _) rfl rfl ?_
 refine sq_no rfl rfl (lr _) rfl rfl ?_
 refine sq_no rfl rfl (lr _) rfl rfl ?_
 refine sq_no rfl rfl (lr _) rfl rfl ?_
 refine sq_yes rfl rfl (lr _) rfl (ev_pickF (v := .raw _) (lr _) (lr _)) ?_
 refine pf rfl (lr _) (lr _) ?_
 refine mvr (lr _) rfl ?_
 refine ymr rfl rfl (lr _) rfl (lr _) ?_
 refine sq_yes rfl rfl (lr _) rfl (ev_not (lr _)) ?_
 refine ymr rfl rfl (lr _) rfl (lr _) ?_
 refine sq_no rfl rfl (lr _) rfl rfl ?_
 refine sq_no rfl rfl (lr _) rfl rfl ?_
 refine sq_no rfl rfl (lr _) rfl rfl ?_
 refine sq_no rfl rfl (lr _) rfl rfl ?_
 refine sq_no rfl rfl (lr _) rfl rfl ?_
 refine sq_no rfl rfl (lr _) rfl rfl ?_
 refine sq_no rfl rfl (lr _) rfl rfl ?_
 refine sq_yes rfl rfl (lr _) rfl (ev_pickF (v := .raw _) (lr _) (lr _)) ?_
 refine pf rfl (lr _) (lr _) ?_
 refine mvr (lr _) rfl ?_
 refine ymr rfl rfl (lr _) rfl (lr _) ?_
 refine ymr rfl rfl (lr _) rfl (lr _) ?_
 refine ymr rfl rfl (lr _) rfl (lr _) ?_
 refine sq_yes rfl rfl (lr _) rfl (ev_neq (lr _) (lr _)) ?_
 refine ymr rfl rfl (lr _) rfl (lr _) ?_
 refine ysl rfl rfl (lr _) rfl (lr _) ?_
 refine ysl rfl rfl (lr _) rfl (lr _) ?_
 refine sq_yes rfl rfl (lr _) rfl (ev_call en27 (lr _) (same_self (l := m) (by have := missed_len hm; omega)) ⟨lr _, lr _, trivial⟩) ?_
 refine sq_yes rfl rfl (lr _) rfl (ev_not (lr _)) ?_
 refine sq_yes rfl rfl (lr _) rfl (ev_pickF (v := .raw _) (lr _) (lr _)) ?_
 refine sq_yes rfl rfl (lr _) rfl (ev_pickT (v := .raw _) (lr _) (lr _)) ?_
 refine pf rfl (lr _) (lr _) ?_
 refine sq_nil ?_
 refine aw_false (lr _) ?_
 refine aw_skip (aw_seq (aw_seq (aw_region ?_)))
 refine sq_ev rfl (ev_load_agg (lr _) rfl ty27 rfl) ?_
 refine mvs rfl (lr _) ?_
 refine sq_ev rfl (ev_call en47 (lr _) (cho_no hs hl hc) ⟨lr _, lr _, trivial⟩) ?_
 refine sq_ev rfl (ev_not (lr _)) ?_
 refine sq_nil ?_
 refine aw_true (lr _) ?_
 refine aw_seq (aw_region ?_)
 refine mvr (lr _) rfl ?_
 refine sq_ev rfl (ev_eql (lr _) (lr _)) ?_
 refine mvr (lr _) rfl ?_
 refine ymr rfl rfl (lr _) rfl (lr _) ?_
 refine sq_yes rfl rfl (lr _) rfl (ev_not (lr _)) ?_
 refine sq_ev rfl (ev_pickT (v := .raw _) (lr _) (lr _)) ?_
 refine mvr (lr _) rfl ?_
 refine sq_yes rfl rfl (lr _) rfl (ev_call en21 (lr _) (known_pure) trivial) ?_
 refine sq_ev rfl (ev_pickT (v := .raw _) (lr _) (lr _)) ?_
 refine asr (lr _) rfl ?_
 refine sq_nil (aw_ret ?_)
 exact retQ_pure (v := .raw _) rfl rfl (lr _)
set_option maxHeartbeats 4000000 in
set_option maxRecDepth 10000 in
theorem law15_fft (p : Pl) (l : List Nat) (hs : p.scenes.length ≤ 12) (hl : l.length ≤ 12) (hk : PlOK p = true) (gp : GP p) (wp : WP p) (ha : surest p = none) (hm : missed p = none) (cv : CV p l) (hc : (Ris p (up l) && isCh p (up l)) = true) : APure Tryz.prog 15 [plan p, nats l] (B true) := by
 refine apure_of (rs := [.tmp 4]) Tryz.func15 rfl rfl (Nat.le_of_ble_eq_true rfl) (by simp [AV.pureL, AV.pureB, AV.pureE, pureE_map]) (rfl) fun e0 he0 => ?_
 refine aw_seq (aw_region ?_)
 refine sq_box rfl (lr _) rfl ?_
 refine asr (lr _) rfl ?_
 refine sq_nil (aw_seq (aw_seq (aw_region ?_)))
 refine sq_ev rfl (ev_load_agg (lr _) rfl ty27 rfl) ?_
 refine sq_ev rfl (ev_call en20 (lr _) (short_yes hs) ⟨lr _, trivial⟩) ?_
 refine sq_ev rfl (ev_not (lr _)) ?_
 refine mvr (lr _) rfl ?_
 refine ysl rfl rfl (lr _) rfl (lr _) ?_
 refine sq_yes rfl rfl (lr _) rfl (ev_call en45 (lr _) (slim_yesN hl) ⟨lr _, trivial⟩) ?_
 refine sq_yes rfl rfl (lr _) rfl (ev_not (lr _)) ?_
 refine pf rfl (lr _) (lr _) ?_
 refine sq_nil ?_
 refine aw_false (lr _) ?_
 refine aw_skip (aw_seq (aw_region ?_))
 refine sq_ev rfl (ev_load_agg (lr _) rfl ty27 rfl) ?_
 refine mvs rfl (lr _) ?_
 refine sq_ev rfl (ev_call en64 (lr _) (sureAV_yes hs hl (by rw [chosenB, Bool.and_assoc, hc, hk]; rfl)) ⟨lr _, lr _, trivial⟩) ?_
 refine sq_ev rfl (ev_mv (v := .tup _) (lr _)) ?_
 refine xtr rfl (lr _) rfl ?_
 refine xtr rfl (lr _) rfl ?_
 refine asr (lr _) rfl ?_
 refine asr (lr _) rfl ?_
 refine sq_nil (aw_seq (aw_region ?_))
 refine sq_ev rfl (ev_load_agg (lr _) rfl ty27 rfl) ?_
 refine sq_ev rfl (ev_call en65 (lr _) (su_no hs hk ha) ⟨lr _, trivial⟩) ?_
 refine sq_ev rfl (ev_mv (v := .tup _) (lr _)) ?_
 refine xtr rfl (lr _) rfl ?_
 refine xtr rfl (lr _) rfl ?_
 refine ass rfl (lr _) ?_
 refine asr (lr _) rfl ?_
 refine sq_nil (aw_seq (aw_region ?_))
 refine sq_ev rfl (ev_load_agg (lr _) rfl ty27 rfl) ?_
 refine sq_ev rfl (ev_call en66 (lr _) (mi_no hs hk hm) ⟨lr _, trivial⟩) ?_
 refine sq_ev rfl (ev_mv (v := .tup _) (lr _)) ?_
 refine xtr rfl (lr _) rfl ?_
 refine xtr rfl (lr _) rfl ?_
 refine ass rfl (lr _) ?_
 refine asr (lr _) rfl ?_
 refine sq_nil (aw_seq (aw_seq (aw_region ?_)))
 refine sq_ev rfl (ev_load_agg (lr _) rfl ty27 rfl) ?_
 refine sq_ev rfl (ev_call en24 (lr _) (plan_yes hs hk) ⟨lr _, trivial⟩) ?_
 refine sq_ev rfl (ev_not (lr _)) ?_
 refine sq_nil ?_
 refine aw_false (lr _) ?_
 refine aw_skip (aw_seq (aw_region ?_))
 refine sq_ev rfl (ev_load_agg (lr _) rfl ty27 rfl) ?_
 refine sq_ev rfl (ev_call en67 (lr _) (rsu_no gp wp ha) ⟨lr _, trivial⟩) ?_
 refine sq_ev rfl (ev_mv (v := .tup _) (lr _)) ?_
 refine xtr rfl (lr _) rfl ?_
 refine xtr rfl (lr _) rfl ?_
 refine ass rfl (lr _) ?_
 refine asr (lr _) rfl ?_
 refine sq_nil (aw_seq (aw_region ?_))
 refine sq_ev rfl (ev_load_agg (lr _) rfl ty27 rfl) ?_
 refine sq_ev rfl (ev_call en68 (lr _) (rmi_no gp wp hm) ⟨lr _, trivial⟩) ?_
 refine sq_ev rfl (ev_mv (v := .tup _) (lr _)) ?_
 refine xtr rfl (lr _) rfl ?_
 refine xtr rfl (lr _) rfl ?_
 refine ass rfl (lr _) ?_
 refine asr (lr _) rfl ?_
 refine sq_nil (aw_seq (aw_seq (aw_region ?_)))
 refine mvr (lr _) rfl ?_
 refine sq_ev rfl (ev_not (lr _)) ?_
 refine mvr (lr _) rfl ?_
 refine ymr rfl rfl (lr _) rfl (lr _) ?_
 refine sq_yes rfl rfl (lr _) rfl (ev_neq (lr _) (lr _)) ?_
 refine ymr rfl rfl (lr _) rfl (lr _) ?_
 refine ysl rfl rfl (lr _) rfl (lr _) ?_
 refine sq_yes rfl rfl (lr _) rfl (ev_len sl34 (lr _) rfl) ?_
 refine sq_yes rfl rfl (lr _) rfl (ev_neq (lr _) (lr _)) ?_
 refine sq_yes rfl rfl (lr _) rfl (ev_pickF (v := .raw _) (lr _) (lr _)) ?_
 refine sq_ev rfl (ev_pickT (v := .raw _) (lr _) (lr _)) ?_
 refine mvr (lr _) rfl ?_
 refine ymr rfl rfl (lr _) rfl (lr _) ?_
 refine ymr rfl rfl (lr _) rfl (lr _) ?_
 refine sq_no rfl rfl (lr _) rfl rfl ?_
 refine sq_no rfl rfl (lr _) rfl rfl ?_
 refine sq_no rfl rfl (lr _) rfl rfl ?_
 refine sq_no rfl rfl (lr _) rfl rfl ?_
 refine sq_no rfl rfl (lr _) rfl rfl ?_
 refine sq_no rfl rfl (lr _) rfl rfl ?_
 refine sq_no rfl rfl (lr _) rfl rfl ?_
 refine sq_no rfl rfl (lr _) rfl rfl ?_
 refine sq_yes rfl rfl (lr _) rfl (ev_pickF (v := .raw _) (lr _) (lr _)) ?_
 refine pf rfl (lr _) (lr _) ?_
 refine mvr (lr _) rfl ?_
 refine ymr rfl rfl (lr _) rfl (lr _) ?_
 refine sq_yes rfl rfl (lr _) rfl (ev_not (lr _)) ?_
 refine ymr rfl rfl (lr _) rfl (lr _) ?_
 refine ymr rfl rfl (lr _) rfl (lr _) ?_
 refine sq_yes rfl rfl (lr _) rfl (ev_neq (lr _) (lr _)) ?_
 refine ymr rfl rfl (lr _) rfl (lr _) ?_
 refine ysl rfl rfl (lr _) rfl (lr _) ?_
 refine sq_yes rfl rfl (lr _) rfl (ev_len sl34 (lr _) rfl) ?_
 refine sq_yes rfl rfl (lr _) rfl (ev_neq (lr _) (lr _)) ?_
 refine sq_yes rfl rfl (lr _) rfl (ev_pickF (v := .raw _) (lr _) (lr _)) ?_
 refine sq_yes rfl rfl (lr _) rfl (ev_pickT (v := .raw _) (lr _) (lr _)) ?_
 refine pf rfl (lr _) (lr _) ?_
 refine mvr (lr _) rfl ?_
 refine ymr rfl rfl (lr _) rfl (lr _) ?_
 refine ymr rfl rfl (lr _) rfl (lr _) ?_
 refine sq_no rfl rfl (lr _) rfl rfl ?_
 refine sq_no rfl rfl (lr _) rfl rfl ?_
 refine sq_no rfl rfl (lr _) rfl rfl ?_
 refine sq_no rfl rfl (lr _) rfl rfl ?_
 refine sq_no rfl rfl (lr _) rfl rfl ?_
 refine sq_no rfl rfl (lr _) rfl rfl ?_
 refine sq_no rfl rfl (lr _) rfl rfl ?_
 refine sq_no rfl rfl (lr _) rfl rfl ?_
 refine sq_yes rfl rfl (lr _) rfl (ev_pickF (v := .raw _) (lr _) (lr _)) ?_
 refine pf rfl (lr _) (lr _) ?_
 refine sq_nil ?_
 refine aw_false (lr _) ?_
 refine aw_skip (aw_seq (aw_seq (aw_region ?_)))
 refine sq_ev rfl (ev_load_agg (lr _) rfl ty27 rfl) ?_
 refine mvs rfl (lr _) ?_
 refine sq_ev rfl (ev_call en47 (lr _) (cho_yesN hs hl hc) ⟨lr _, lr _, trivial⟩) ?_
 refine sq_ev rfl (ev_not (lr _)) ?_
 refine sq_nil ?_
 refine aw_false (lr _) ?_
 refine aw_skip (aw_seq (aw_region ?_))
 refine mvr (lr _) rfl ?_
 refine sq_ev rfl (ev_eql (lr _) (lr _)) ?_
 refine mvr (lr _) rfl ?_
 refine ymr rfl rfl (lr _) rfl (lr _) ?_
 refine sq_yes rfl rfl (lr _) rfl (ev_load_agg (lr _) rfl ty27 rfl) ?_
 refine ysl rfl rfl (lr _) rfl (lr _) ?_
 refine sq_yes rfl rfl (lr _) rfl (ev_call en69 (lr _) (rsure_pure p l gp wp cv) ⟨lr _, lr _, trivial⟩) ?_
 refine sq_yes rfl rfl (lr _) rfl (ev_eqlB un4 (lr _) (lr _)) ?_
 refine sq_ev rfl (ev_pickT (v := .raw _) (lr _) (lr _)) ?_
 refine mvr (lr _) rfl ?_
 refine sq_split 152 (lr _) (fun g14 => ?_) (fun g14 => ?_)
 ·
  have g14' := g14
  try simp only [qq] at g14'
  refine sq_yes rfl rfl (less_b g14) rfl (ev_call en21 (lr _) (known_pure) trivial) ?_
  refine sq_ev rfl (ev_pickT (v := .raw _) (less_b g14) (lr _)) ?_
  refine asr (lr _) rfl ?_
  refine sq_nil (aw_ret ?_)
  exact retQ_pure (v := .raw _) rfl rfl (lr _)
 ·
  have g14' := g14
  try simp only [qq] at g14'
  first | exact absurd g14 (by decide) | (simp at g14; done) | (exfalso; simp at g14; omega)
set_option maxHeartbeats 4000000 in
set_option maxRecDepth 10000 in
theorem law15_fff (p : Pl) (l : List Int) (hs : p.scenes.length ≤ 12) (hl : l.length ≤ 12) (hk : PlOK p = true) (gp : GP p) (wp : WP p) (ha : surest p = none) (hm : missed p = none) (hc : (Ris p l && isCh p l) = false) : APure Tryz.prog 15 [plan p, ints l] (B true) := by
 refine apure_of (rs := [.tmp 4]) Tryz.func15 rfl rfl (Nat.le_of_ble_eq_true rfl) (by simp [AV.pureL, AV.pureB, AV.pureE, pureE_map]) (rfl) fun e0 he0 => ?_
 refine aw_seq (aw_region ?_)
 refine sq_box rfl (lr _) rfl ?_
 refine asr (lr _) rfl ?_
 refine sq_nil (aw_seq (aw_seq (aw_region ?_)))
 refine sq_ev rfl (ev_load_agg (lr _) rfl ty27 rfl) ?_
 refine sq_ev rfl (ev_call en20 (lr _) (short_yes hs) ⟨lr _, trivial⟩) ?_
 refine sq_ev rfl (ev_not (lr _)) ?_
 refine mvr (lr _) rfl ?_
 refine ysl rfl rfl (lr _) rfl (lr _) ?_
 refine sq_yes rfl rfl (lr _) rfl (ev_call en45 (lr _) (slim_yes hl) ⟨lr _, trivial⟩) ?_
 refine sq_yes rfl rfl (lr _) rfl (ev_not (lr _)) ?_
 refine pf rfl (lr _) (lr _) ?_
 refine sq_nil ?_
 refine aw_false (lr _) ?_
 refine aw_skip (aw_seq (aw_region ?_))
 refine sq_ev rfl (ev_load_agg (lr _) rfl ty27 rfl) ?_
 refine mvs rfl (lr _) ?_
 refine sq_ev rfl (ev_call en64 (lr _) (sureAV_no hs hl (by rw [chosenB, Bool.and_assoc, hc, Bool.and_false])) ⟨lr _, lr _, trivial⟩) ?_
 refine sq_ev rfl (ev_mv (v := .tup _) (lr _)) ?_
 refine xtr rfl (lr _) rfl ?_
 refine xtr rfl (lr _) rfl ?_
 refine asr (lr _) rfl ?_
 refine asr (lr _) rfl ?_
 refine sq_nil (aw_seq (aw_region ?_))
 refine sq_ev rfl (ev_load_agg (lr _) rfl ty27 rfl) ?_
 refine sq_ev rfl (ev_call en65 (lr _) (su_no hs hk ha) ⟨lr _, trivial⟩) ?_
 refine sq_ev rfl (ev_mv (v := .tup _) (lr _)) ?_
 refine xtr rfl (lr _) rfl ?_
 refine xtr rfl (lr _) rfl ?_
 refine ass rfl (lr _) ?_
 refine asr (lr _) rfl ?_
 refine sq_nil (aw_seq (aw_region ?_))
 refine sq_ev rfl (ev_load_agg (lr _) rfl ty27 rfl) ?_
 refine sq_ev rfl (ev_call en66 (lr _) (mi_no hs hk hm) ⟨lr _, trivial⟩) ?_
 refine sq_ev rfl (ev_mv (v := .tup _) (lr _)) ?_
 refine xtr rfl (lr _) rfl ?_
 refine xtr rfl (lr _) rfl ?_
 refine ass rfl (lr _) ?_
 refine asr (lr _) rfl ?_
 refine sq_nil (aw_seq (aw_seq (aw_region ?_)))
 refine sq_ev rfl (ev_load_agg (lr _) rfl ty27 rfl) ?_
 refine sq_ev rfl (ev_call en24 (lr _) (plan_yes hs hk) ⟨lr _, trivial⟩) ?_
 refine sq_ev rfl (ev_not (lr _)) ?_
 refine sq_nil ?_
 refine aw_false (lr _) ?_
 refine aw_skip (aw_seq (aw_region ?_))
 refine sq_ev rfl (ev_load_agg (lr _) rfl ty27 rfl) ?_
 refine sq_ev rfl (ev_call en67 (lr _) (rsu_no gp wp ha) ⟨lr _, trivial⟩) ?_
 refine sq_ev rfl (ev_mv (v := .tup _) (lr _)) ?_
 refine xtr rfl (lr _) rfl ?_
 refine xtr rfl (lr _) rfl ?_
 refine ass rfl (lr _) ?_
 refine asr (lr _) rfl ?_
 refine sq_nil (aw_seq (aw_region ?_))
 refine sq_ev rfl (ev_load_agg (lr _) rfl ty27 rfl) ?_
 refine sq_ev rfl (ev_call en68 (lr _) (rmi_no gp wp hm) ⟨lr _, trivial⟩) ?_
 refine sq_ev rfl (ev_mv (v := .tup _) (lr _)) ?_
 refine xtr rfl (lr _) rfl ?_
 refine xtr rfl (lr _) rfl ?_
 refine ass rfl (lr _) ?_
 refine asr (lr _) rfl ?_
 refine sq_nil (aw_seq (aw_seq (aw_region ?_)))
 refine mvr (lr _) rfl ?_
 refine sq_ev rfl (ev_not (lr _)) ?_
 refine mvr (lr _) rfl ?_
 refine ymr rfl rfl (lr _) rfl (lr _) ?_
 refine sq_yes rfl rfl (lr _) rfl (ev_neq (lr _) (lr _)) ?_
 refine ymr rfl rfl (lr _) rfl (lr _) ?_
 refine ysl rfl rfl (lr _) rfl (lr _) ?_
 refine sq_yes rfl rfl (lr _) rfl (ev_len sl34 (lr _) rfl) ?_
 refine sq_yes rfl rfl (lr _) rfl (ev_neq (lr _) (lr _)) ?_
 refine sq_yes rfl rfl (lr _) rfl (ev_pickF (v := .raw _) (lr _) (lr _)) ?_
 refine sq_ev rfl (ev_pickT (v := .raw _) (lr _) (lr _)) ?_
 refine mvr (lr _) rfl ?_
 refine ymr rfl rfl (lr _) rfl (lr _) ?_
 refine ymr rfl rfl (lr _) rfl (lr _) ?_
 refine sq_no rfl rfl (lr _) rfl rfl ?_
 refine sq_no rfl rfl (lr _) rfl rfl ?_
 refine sq_no rfl rfl (lr _) rfl rfl ?_
 refine sq_no rfl rfl (lr _) rfl rfl ?_
 refine sq_no rfl rfl (lr _) rfl rfl ?_
 refine sq_no rfl rfl (lr _) rfl rfl ?_
 refine sq_no rfl rfl (lr _) rfl rfl ?_
 refine sq_no rfl rfl (lr _) rfl rfl ?_
 refine sq_yes rfl rfl (lr _) rfl (ev_pickF (v := .raw _) (lr _) (lr _)) ?_
 refine pf rfl (lr _) (lr _) ?_
 refine mvr (lr _) rfl ?_
 refine ymr rfl rfl (lr _) rfl (lr _) ?_
 refine sq_yes rfl rfl (lr _) rfl (ev_not (lr _)) ?_
 refine ymr rfl rfl (lr _) rfl (lr _) ?_
 refine ymr rfl rfl (lr _) rfl (lr _) ?_
 refine sq_yes rfl rfl (lr _) rfl (ev_neq (lr _) (lr _)) ?_
 refine ymr rfl rfl (lr _) rfl (lr _) ?_
 refine ysl rfl rfl (lr _) rfl (lr _) ?_
 refine sq_yes rfl rfl (lr _) rfl (ev_len sl34 (lr _) rfl) ?_
 refine sq_yes rfl rfl (lr _) rfl (ev_neq (lr _) (lr _)) ?_
 refine sq_yes rfl rfl (lr _) rfl (ev_pickF (v := .raw _) (lr _) (lr _)) ?_
 refine sq_yes rfl rfl (lr _) rfl (ev_pickT (v := .raw _) (lr _) (lr _)) ?_
 refine pf rfl (lr _) (lr _) ?_
 refine mvr (lr _) rfl ?_
 refine ymr rfl rfl (lr _) rfl (lr _) ?_
 refine ymr rfl rfl (lr _) rfl (lr _) ?_
 refine sq_no rfl rfl (lr _) rfl rfl ?_
 refine sq_no rfl rfl (lr _) rfl rfl ?_
 refine sq_no rfl rfl (lr _) rfl rfl ?_
 refine sq_no rfl rfl (lr _) rfl rfl ?_
 refine sq_no rfl rfl (lr _) rfl rfl ?_
 refine sq_no rfl rfl (lr _) rfl rfl ?_
 refine sq_no rfl rfl (lr _) rfl rfl ?_
 refine sq_no rfl rfl (lr _) rfl rfl ?_
 refine sq_yes rfl rfl (lr _) rfl (ev_pickF (v := .raw _) (lr _) (lr _)) ?_
 refine pf rfl (lr _) (lr _) ?_
 refine sq_nil ?_
 refine aw_false (lr _) ?_
 refine aw_skip (aw_seq (aw_seq (aw_region ?_)))
 refine sq_ev rfl (ev_load_agg (lr _) rfl ty27 rfl) ?_
 refine mvs rfl (lr _) ?_
 refine sq_ev rfl (ev_call en47 (lr _) (cho_no hs hl hc) ⟨lr _, lr _, trivial⟩) ?_
 refine sq_ev rfl (ev_not (lr _)) ?_
 refine sq_nil ?_
 refine aw_true (lr _) ?_
 refine aw_seq (aw_region ?_)
 refine mvr (lr _) rfl ?_
 refine sq_ev rfl (ev_eql (lr _) (lr _)) ?_
 refine mvr (lr _) rfl ?_
 refine ymr rfl rfl (lr _) rfl (lr _) ?_
 refine sq_yes rfl rfl (lr _) rfl (ev_not (lr _)) ?_
 refine sq_ev rfl (ev_pickT (v := .raw _) (lr _) (lr _)) ?_
 refine mvr (lr _) rfl ?_
 refine sq_yes rfl rfl (lr _) rfl (ev_call en21 (lr _) (known_pure) trivial) ?_
 refine sq_ev rfl (ev_pickT (v := .raw _) (lr _) (lr _)) ?_
 refine asr (lr _) rfl ?_
 refine sq_nil (aw_ret ?_)
 exact retQ_pure (v := .raw _) rfl rfl (lr _)
/-- **NightSures returns true.** -/
theorem law15 (p : Pl) (l : List Int) : APure Tryz.prog 15 [plan p, ints l] (B true) := by
  by_cases hs : p.scenes.length ≤ 12
  · by_cases hl : l.length ≤ 12
    · cases hk : PlOK p with
      | false => exact law15_bad p l hs hl hk
      | true =>
        obtain ⟨gp, wp⟩ := gp_of_ok hk
        cases hc : (Ris p l && isCh p l) with
        | false =>
          cases ha : surest p with
          | none =>
            cases hm : missed p with
            | none => exact law15_fff p l hs hl hk gp wp ha hm hc
            | some m => exact law15_ftf p l hs hl hk gp wp ha m hm hc
          | some t =>
            cases hm : missed p with
            | none => exact law15_tff p l hs hl hk gp wp t ha hm hc
            | some m => exact law15_ttf p l hs hl hk gp wp t ha m hm hc
        | true =>
          obtain ⟨l', rfl, cv, _, _⟩ := chosen_up (p := p) (l := l) (by rw [chosenB, Bool.and_assoc, hc, hk]; rfl)
          rw [ints_up]
          have hl' : l'.length ≤ 12 := by simpa [up] using hl
          cases ha : surest p with
          | none =>
            cases hm : missed p with
            | none => exact law15_fft p l' hs hl' hk gp wp ha hm cv hc
            | some m => exact law15_ftt p l' hs hl' hk gp wp ha m hm cv hc
          | some t =>
            cases hm : missed p with
            | none => exact law15_tft p l' hs hl' hk gp wp t ha hm cv hc
            | some m => exact law15_ttt p l' hs hl' hk gp wp t ha m hm cv hc
    · exact law15_slim p l hs hl
  · exact law15_long p l hs
end Go.Proofs.YtjghdbdiejaacaaGreatDoor
