/-
  A part of the proof: conditions: none beyond each theorem's own.
-/
import Derived.Test.YtjghdbdiejaacaaGreatDoorOwnA
set_option linter.all false
set_option maxHeartbeats 8000000
namespace Go.Proofs.YtjghdbdiejaacaaGreatDoor
open Go Go.Ab Ni
theorem flat_filter {α β : Type} {q : α → Bool} {f : α → List β} : ∀ (L : List α), (∀ x ∈ L, q x = false → f x = []) → L.flatMap f = (L.filter q).flatMap f
  | [], _ => rfl
  | x :: L, h => by
    have ih := flat_filter L fun y hy => h y (List.mem_cons_of_mem _ hy)
    rw [List.flatMap_cons, ih]
    by_cases hx : q x = true
    · rw [List.filter_cons_of_pos hx, List.flatMap_cons]
    · rw [List.filter_cons_of_neg hx, h x List.mem_cons_self (by simpa using hx), List.nil_append]
theorem stU_all {p : Pl} (gp : GP p) (wp : WP p) : stU p (allC p).length = ((allC p).filter (begOk p)).flatMap fun l => (stL p l).map id := by
  unfold stU
  rw [List.take_length]
  have : (fun l => (stL p l).map id) = stL p := funext fun l => List.map_id _
  rw [this]
  refine flat_filter _ fun l hl h => ?_
  have := begOk_iff wp (allC_mem gp l hl)
  rw [h] at this
  exact Classical.byContradiction fun hn => by have := this.2 hn; cases this
theorem sta_wd {p : Pl} (gp : GP p) (wp : WP p) : wd (stU p (allC p).length) = wd (stS p (allC p).length) := by
  rw [stU_all gp wp]; unfold stS; rw [List.take_length]
  exact wd_flat (f := fun _ => id) fun l hl => st_met wp (allC_mem gp l (List.mem_filter.1 hl).1) (List.mem_filter.1 hl).2
theorem sta_is {p : Pl} (gp : GP p) (wp : WP p) : decide (0 < (stU p (allC p).length).length) = stM p (allC p).length := by
  unfold stM
  refine decide_eq_decide.2 ?_
  rw [stU_all gp wp]; unfold stS; rw [List.take_length, List.length_pos_iff_exists_mem, List.length_pos_iff_exists_mem]
  constructor
  · rintro ⟨v, hv⟩
    obtain ⟨l, hl, _⟩ := List.mem_flatMap.1 hv
    exact ⟨_, List.mem_map_of_mem hl⟩
  · rintro ⟨v, hv⟩
    obtain ⟨l, hl, _⟩ := List.mem_map.1 hv
    obtain ⟨u, hu⟩ := List.exists_mem_of_ne_nil _ ((begOk_iff wp (allC_mem gp l (List.mem_filter.1 hl).1)).1 (List.mem_filter.1 hl).2)
    exact ⟨u, List.mem_flatMap.2 ⟨l, hl, by rw [List.map_id]; exact hu⟩⟩
theorem lg_val {p : Pl} {n a e : Int} (hs : p.scenes.length ≤ 12) (h : lgR p n = (a, e)) : APure Tryz.prog 70 [plan p, I n] (.tup [I a, I e]) := by have := nLonger_pure p n (by omega); rwa [h] at this
theorem st_val {p : Pl} {a b e : Int} (hs : p.scenes.length ≤ 12) (h : staR p = ((a, b), e)) : APure Tryz.prog 71 [plan p] (.tup [.agg [I a, I b], I e]) := by have := nStarts_pure p (by omega); rwa [h] at this
theorem rst_val {p : Pl} {a b : Int} {v : Bool} (gp : GP p) (wp : WP p) (h : wd (stS p (allC p).length) = (a, b)) (hv : stM p (allC p).length = v) : APure Tryz.prog 72 [plan p] (.tup [.agg [I a, I b], B v]) := by
  have := rStarts_pure p gp wp
  rwa [sta_wd gp wp, sta_is gp wp, h, hv] at this
theorem law16_long (p : Pl) (n : Int) (hs : ¬ p.scenes.length ≤ 12) : APure Tryz.prog 16 [plan p, I n] (B true) := by
  refine apure_of (rs := [.tmp 4]) Tryz.func16 rfl rfl (Nat.le_of_ble_eq_true rfl) (by simp [AV.pureL, AV.pureB, AV.pureE, pureE_map]) (rfl) fun e0 he0 => ?_
  refine aw_seq (aw_region ?_)
  refine sq_box rfl (lr _) rfl (asr (lr _) rfl (sq_nil (aw_seq (aw_seq (aw_region ?_)))))
  refine sq_ev rfl (ev_load_agg (lr _) rfl ty27 rfl) ?_
  refine sq_ev rfl (ev_call en20 (lr _) (short_no hs) ⟨lr _, trivial⟩) ?_
  refine sq_ev rfl (ev_not (lr _)) ?_
  refine sq_nil ?_
  refine aw_true (lr _) ?_
  refine aw_seq (aw_region ?_)
  refine sq_ev rfl (ev_call en21 (lr _) (known_pure) trivial) ?_
  refine asr (lr _) rfl (sq_nil (aw_ret ?_))
  exact retQ_pure (v := .raw _) rfl rfl (lr _)
theorem law16_bad (p : Pl) (n : Int) (hs : p.scenes.length ≤ 12) (hk : PlOK p = false) (h70 : lgR p n = (0, 2)) (h71 : staR p = ((0, 0), 2)) : APure Tryz.prog 16 [plan p, I n] (B true) := by
 refine apure_of (rs := [.tmp 4]) Tryz.func16 rfl rfl (Nat.le_of_ble_eq_true rfl) (by simp [AV.pureL, AV.pureB, AV.pureE, pureE_map]) (rfl) fun e0 he0 => ?_
 refine aw_seq (aw_region ?_)
 refine sq_box rfl (lr _) rfl (asr (lr _) rfl (sq_nil (aw_seq (aw_seq (aw_region ?_)))))
 refine sq_ev rfl (ev_load_agg (lr _) rfl ty27 rfl) ?_
 refine sq_ev rfl (ev_call en20 (lr _) (short_yes hs) ⟨lr _, trivial⟩) ?_
 refine sq_ev rfl (ev_not (lr _)) ?_
 refine sq_nil ?_
 refine aw_false (lr _) ?_
 refine aw_skip (aw_seq (aw_region ?_))
 refine sq_ev rfl (ev_load_agg (lr _) rfl ty27 rfl) ?_
 refine mvr (lr _) rfl (sq_ev rfl (ev_call en70 (lr _) (lg_val hs h70) ⟨lr _, lr _, trivial⟩) ?_)
 refine sq_ev rfl (ev_mv (v := .tup _) (lr _)) ?_
 refine xtr rfl (lr _) rfl (xtr rfl (lr _) rfl (asr (lr _) rfl (asr (lr _) rfl (sq_nil (aw_seq (aw_region ?_))))))
 refine sq_ev rfl (ev_load_agg (lr _) rfl ty27 rfl) ?_
 refine sq_ev rfl (ev_call en71 (lr _) (st_val hs h71) ⟨lr _, trivial⟩) ?_
 refine sq_ev rfl (ev_mv (v := .tup _) (lr _)) ?_
 refine xtr rfl (lr _) rfl (xtr rfl (lr _) rfl ?_)
 refine sq_alloc rfl z23 ?_
 refine sq_store rfl (lr _) (lr _) rfl rfl ty23 rfl rfl ?_
 refine asr (lr _) rfl (sq_nil (aw_seq (aw_seq (aw_region ?_))))
 refine sq_ev rfl (ev_load_agg (lr _) rfl ty27 rfl) ?_
 refine sq_ev rfl (ev_call en24 (lr _) (plan_no hs hk) ⟨lr _, trivial⟩) ?_
 refine sq_ev rfl (ev_not (lr _)) ?_
 refine sq_nil ?_
 refine aw_true (lr _) ?_
 refine aw_seq (aw_region ?_)
 refine mvr (lr _) rfl (sq_ev rfl (ev_eql (lr _) (lr _)) ?_)
 refine mvr (lr _) rfl (ymr rfl rfl (lr _) rfl (lr _) (sq_yes rfl rfl (lr _) rfl (ev_eql (lr _) (lr _)) ?_))
 refine sq_ev rfl (ev_pickT (v := .raw _) (lr _) (lr _)) ?_
 refine mvr (lr _) rfl (ymr rfl rfl (lr _) rfl (lr _) (sq_yes rfl rfl (lr _) rfl (ev_eql (lr _) (lr _)) ?_))
 refine sq_ev rfl (ev_pickT (v := .raw _) (lr _) (lr _)) ?_
 refine mvr (lr _) rfl (sq_yes rfl rfl (lr _) rfl (ev_load_agg (lr _) rfl ty23 rfl) ?_)
 refine sq_yes rfl rfl (lr _) rfl (ev_build bi23 rfl) ?_
 refine sq_yes rfl rfl (lr _) rfl (ev_span_eql (lr _) (lr _)) ?_
 refine sq_ev rfl (ev_pickT (v := .raw _) (lr _) (lr _)) ?_
 refine mvr (lr _) rfl (sq_yes rfl rfl (lr _) rfl (ev_call en21 (lr _) (known_pure) trivial) ?_)
 refine sq_ev rfl (ev_pickT (v := .raw _) (lr _) (lr _)) ?_
 refine asr (lr _) rfl (sq_nil (aw_ret ?_))
 exact retQ_pure (v := .raw _) rfl rfl (lr _)
set_option maxRecDepth 10000 in
theorem law16_tn (p : Pl) (n : Int) (hs : p.scenes.length ≤ 12) (hk : PlOK p = true) (a b : Int) (h71 : staR p = ((a, b), 0)) (h72 : APure Tryz.prog 72 [plan p] (.tup [.agg [I a, I b], B true])) (h70 : lgR p n = (0, 2)) (hsc : isSc p n = false) : APure Tryz.prog 16 [plan p, I n] (B true) := by
 refine apure_of (rs := [.tmp 4]) Tryz.func16 rfl rfl (Nat.le_of_ble_eq_true rfl) (by simp [AV.pureL, AV.pureB, AV.pureE, pureE_map]) (rfl) fun e0 he0 => ?_
 refine aw_seq (aw_region ?_)
 refine sq_box rfl (lr _) rfl (asr (lr _) rfl (sq_nil (aw_seq (aw_seq (aw_region ?_)))))
 refine sq_ev rfl (ev_load_agg (lr _) rfl ty27 rfl) ?_
 refine sq_ev rfl (ev_call en20 (lr _) (short_yes hs) ⟨lr _, trivial⟩) ?_
 refine sq_ev rfl (ev_not (lr _)) ?_
 refine sq_nil ?_
 refine aw_false (lr _) ?_
 refine aw_skip (aw_seq (aw_region ?_))
 refine sq_ev rfl (ev_load_agg (lr _) rfl ty27 rfl) ?_
 refine mvr (lr _) rfl (sq_ev rfl (ev_call en70 (lr _) (lg_val hs h70) ⟨lr _, lr _, trivial⟩) ?_)
 refine sq_ev rfl (ev_mv (v := .tup _) (lr _)) ?_
 refine xtr rfl (lr _) rfl (xtr rfl (lr _) rfl (asr (lr _) rfl (asr (lr _) rfl (sq_nil (aw_seq (aw_region ?_))))))
 refine sq_ev rfl (ev_load_agg (lr _) rfl ty27 rfl) ?_
 refine sq_ev rfl (ev_call en71 (lr _) (st_val hs h71) ⟨lr _, trivial⟩) ?_
 refine sq_ev rfl (ev_mv (v := .tup _) (lr _)) ?_
 refine xtr rfl (lr _) rfl (xtr rfl (lr _) rfl ?_)
 refine sq_alloc rfl z23 ?_
 refine sq_store rfl (lr _) (lr _) rfl rfl ty23 rfl rfl ?_
 refine asr (lr _) rfl (sq_nil (aw_seq (aw_seq (aw_region ?_))))
 refine sq_ev rfl (ev_load_agg (lr _) rfl ty27 rfl) ?_
 refine sq_ev rfl (ev_call en24 (lr _) (plan_yes hs hk) ⟨lr _, trivial⟩) ?_
 refine sq_ev rfl (ev_not (lr _)) ?_
 refine sq_nil ?_
 refine aw_false (lr _) ?_
 refine aw_skip (aw_seq (aw_seq (aw_region ?_)))
 refine sq_ev rfl (ev_load_agg (lr _) rfl ty27 rfl) ?_
 refine sq_ev rfl (ev_call en72 (lr _) (h72) ⟨lr _, trivial⟩) ?_
 refine sq_ev rfl (ev_mv (v := .tup _) (lr _)) ?_
 refine xtr rfl (lr _) rfl (xtr rfl (lr _) rfl ?_)
 refine sq_alloc rfl z23 ?_
 refine sq_store rfl (lr _) (lr _) rfl rfl ty23 rfl rfl ?_
 refine asr (lr _) rfl (sq_nil (aw_seq (aw_region ?_)))
 refine mvr (lr _) rfl (sq_ev rfl (ev_not (lr _)) ?_)
 refine mvr (lr _) rfl (sq_no rfl rfl (lr _) rfl rfl (sq_no rfl rfl (lr _) rfl rfl (sq_no rfl rfl (lr _) rfl rfl (sq_no rfl rfl (lr _) rfl rfl (sq_no rfl rfl (lr _) rfl rfl (sq_no rfl rfl (lr _) rfl rfl ?_))))))
 refine sq_no rfl rfl (lr _) rfl rfl (pf rfl (lr _) (lr _) (mvr (lr _) rfl (ymr rfl rfl (lr _) rfl (lr _) (ymr rfl rfl (lr _) rfl (lr _) (ymr rfl rfl (lr _) rfl (lr _) (sq_yes rfl rfl (lr _) rfl (ev_neq (lr _) (lr _)) ?_))))))
 refine ymr rfl rfl (lr _) rfl (lr _) (sq_yes rfl rfl (lr _) rfl (ev_load_agg (lr _) rfl ty23 rfl) ?_)
 refine sq_yes rfl rfl (lr _) rfl (ev_load_agg (lr _) rfl ty23 rfl) ?_
 refine sq_yes rfl rfl (lr _) rfl (ev_span_neq (lr _) (lr _)) ?_
 refine sq_yes rfl rfl (lr _) rfl (ev_pickF (v := .raw _) (lr _) (lr _)) ?_
 refine sq_yes rfl rfl (lr _) rfl (ev_pickT (v := .raw _) (lr _) (lr _)) ?_
 refine pf rfl (lr _) (lr _) (sq_nil ?_)
 refine aw_cond (lr _) (fun c6 => ?_) (fun c6 => ?_)
 ·
  have c6' := c6
  try simp only [qq] at c6'
  first | exact absurd c6 (by decide) | (simp at c6; done) | (exfalso; simp at c6; omega)
 ·
  have c6' := c6
  try simp only [qq] at c6'
  refine aw_skip (aw_seq (aw_seq (aw_region ?_)))
  refine sq_ev rfl (ev_load_agg (lr _) rfl ty27 rfl) ?_
  refine mvr (lr _) rfl (sq_ev rfl (ev_call en35 (lr _) (sc_pure hs hsc) ⟨lr _, lr _, trivial⟩) ?_)
  refine sq_ev rfl (ev_not (lr _)) ?_
  refine sq_nil ?_
  refine aw_true (lr _) ?_
  refine aw_seq (aw_region ?_)
  refine mvr (lr _) rfl (sq_ev rfl (ev_eql (lr _) (lr _)) ?_)
  refine mvr (lr _) rfl (ymr rfl rfl (lr _) rfl (lr _) (sq_yes rfl rfl (lr _) rfl (ev_eql (lr _) (lr _)) ?_))
  refine sq_ev rfl (ev_pickT (v := .raw _) (lr _) (lr _)) ?_
  refine mvr (lr _) rfl (sq_yes rfl rfl (lr _) rfl (ev_call en21 (lr _) (known_pure) trivial) ?_)
  refine sq_ev rfl (ev_pickT (v := .raw _) (lr _) (lr _)) ?_
  refine asr (lr _) rfl (sq_nil (aw_ret ?_))
  exact retQ_pure (v := .raw _) rfl rfl (lr _)
set_option maxRecDepth 10000 in
theorem law16_tm (p : Pl) (n : Int) (hs : p.scenes.length ≤ 12) (hk : PlOK p = true) (a b : Int) (h71 : staR p = ((a, b), 0)) (h72 : APure Tryz.prog 72 [plan p] (.tup [.agg [I a, I b], B true])) (h70 : lgR p n = (0, 5)) (hsc : isSc p n = true) (x : Int) (hx : x < 0) (h73 : APure Tryz.prog 73 [plan p, I n] (I x)) : APure Tryz.prog 16 [plan p, I n] (B true) := by
 refine apure_of (rs := [.tmp 4]) Tryz.func16 rfl rfl (Nat.le_of_ble_eq_true rfl) (by simp [AV.pureL, AV.pureB, AV.pureE, pureE_map]) (rfl) fun e0 he0 => ?_
 refine aw_seq (aw_region ?_)
 refine sq_box rfl (lr _) rfl (asr (lr _) rfl (sq_nil (aw_seq (aw_seq (aw_region ?_)))))
 refine sq_ev rfl (ev_load_agg (lr _) rfl ty27 rfl) ?_
 refine sq_ev rfl (ev_call en20 (lr _) (short_yes hs) ⟨lr _, trivial⟩) ?_
 refine sq_ev rfl (ev_not (lr _)) ?_
 refine sq_nil ?_
 refine aw_false (lr _) ?_
 refine aw_skip (aw_seq (aw_region ?_))
 refine sq_ev rfl (ev_load_agg (lr _) rfl ty27 rfl) ?_
 refine mvr (lr _) rfl (sq_ev rfl (ev_call en70 (lr _) (lg_val hs h70) ⟨lr _, lr _, trivial⟩) ?_)
 refine sq_ev rfl (ev_mv (v := .tup _) (lr _)) ?_
 refine xtr rfl (lr _) rfl (xtr rfl (lr _) rfl (asr (lr _) rfl (asr (lr _) rfl (sq_nil (aw_seq (aw_region ?_))))))
 refine sq_ev rfl (ev_load_agg (lr _) rfl ty27 rfl) ?_
 refine sq_ev rfl (ev_call en71 (lr _) (st_val hs h71) ⟨lr _, trivial⟩) ?_
 refine sq_ev rfl (ev_mv (v := .tup _) (lr _)) ?_
 refine xtr rfl (lr _) rfl (xtr rfl (lr _) rfl ?_)
 refine sq_alloc rfl z23 ?_
 refine sq_store rfl (lr _) (lr _) rfl rfl ty23 rfl rfl ?_
 refine asr (lr _) rfl (sq_nil (aw_seq (aw_seq (aw_region ?_))))
 refine sq_ev rfl (ev_load_agg (lr _) rfl ty27 rfl) ?_
 refine sq_ev rfl (ev_call en24 (lr _) (plan_yes hs hk) ⟨lr _, trivial⟩) ?_
 refine sq_ev rfl (ev_not (lr _)) ?_
 refine sq_nil ?_
 refine aw_false (lr _) ?_
 refine aw_skip (aw_seq (aw_seq (aw_region ?_)))
 refine sq_ev rfl (ev_load_agg (lr _) rfl ty27 rfl) ?_
 refine sq_ev rfl (ev_call en72 (lr _) (h72) ⟨lr _, trivial⟩) ?_
 refine sq_ev rfl (ev_mv (v := .tup _) (lr _)) ?_
 refine xtr rfl (lr _) rfl (xtr rfl (lr _) rfl ?_)
 refine sq_alloc rfl z23 ?_
 refine sq_store rfl (lr _) (lr _) rfl rfl ty23 rfl rfl ?_
 refine asr (lr _) rfl (sq_nil (aw_seq (aw_region ?_)))
 refine mvr (lr _) rfl (sq_ev rfl (ev_not (lr _)) ?_)
 refine mvr (lr _) rfl (sq_no rfl rfl (lr _) rfl rfl (sq_no rfl rfl (lr _) rfl rfl (sq_no rfl rfl (lr _) rfl rfl (sq_no rfl rfl (lr _) rfl rfl (sq_no rfl rfl (lr _) rfl rfl (sq_no rfl rfl (lr _) rfl rfl ?_))))))
 refine sq_no rfl rfl (lr _) rfl rfl (pf rfl (lr _) (lr _) (mvr (lr _) rfl (ymr rfl rfl (lr _) rfl (lr _) (ymr rfl rfl (lr _) rfl (lr _) (ymr rfl rfl (lr _) rfl (lr _) (sq_yes rfl rfl (lr _) rfl (ev_neq (lr _) (lr _)) ?_))))))
 refine ymr rfl rfl (lr _) rfl (lr _) (sq_yes rfl rfl (lr _) rfl (ev_load_agg (lr _) rfl ty23 rfl) ?_)
 refine sq_yes rfl rfl (lr _) rfl (ev_load_agg (lr _) rfl ty23 rfl) ?_
 refine sq_yes rfl rfl (lr _) rfl (ev_span_neq (lr _) (lr _)) ?_
 refine sq_yes rfl rfl (lr _) rfl (ev_pickF (v := .raw _) (lr _) (lr _)) ?_
 refine sq_yes rfl rfl (lr _) rfl (ev_pickT (v := .raw _) (lr _) (lr _)) ?_
 refine pf rfl (lr _) (lr _) (sq_nil ?_)
 refine aw_cond (lr _) (fun c6 => ?_) (fun c6 => ?_)
 ·
  have c6' := c6
  try simp only [qq] at c6'
  first | exact absurd c6 (by decide) | (simp at c6; done) | (exfalso; simp at c6; omega)
 ·
  have c6' := c6
  try simp only [qq] at c6'
  refine aw_skip (aw_seq (aw_seq (aw_region ?_)))
  refine sq_ev rfl (ev_load_agg (lr _) rfl ty27 rfl) ?_
  refine mvr (lr _) rfl (sq_ev rfl (ev_call en35 (lr _) (sc_pure hs hsc) ⟨lr _, lr _, trivial⟩) ?_)
  refine sq_ev rfl (ev_not (lr _)) ?_
  refine sq_nil ?_
  refine aw_false (lr _) ?_
  refine aw_skip (aw_seq (aw_region ?_))
  refine sq_ev rfl (ev_load_agg (lr _) rfl ty27 rfl) ?_
  refine mvr (lr _) rfl (sq_ev rfl (ev_call en73 (lr _) (h73) ⟨lr _, lr _, trivial⟩) ?_)
  refine asr (lr _) rfl (sq_nil (aw_seq (aw_seq (aw_region ?_))))
  refine mvr (lr _) rfl (sq_ev rfl (ev_lss (lr _) (lr _)) ?_)
  refine sq_nil ?_
  refine aw_cond (lr _) (fun c8 => ?_) (fun c8 => ?_)
  ·
   have c8' := c8
   try simp only [qq] at c8'
   refine aw_seq (aw_region ?_)
   refine mvr (lr _) rfl (sq_ev rfl (ev_eql (lr _) (lr _)) ?_)
   refine mvr (lr _) rfl (ymr rfl rfl (lr _) rfl (lr _) (sq_yes rfl rfl (lr _) rfl (ev_eql (lr _) (lr _)) ?_))
   refine sq_ev rfl (ev_pickT (v := .raw _) (lr _) (lr _)) ?_
   refine mvr (lr _) rfl (sq_yes rfl rfl (lr _) rfl (ev_call en21 (lr _) (known_pure) trivial) ?_)
   refine sq_ev rfl (ev_pickT (v := .raw _) (lr _) (lr _)) ?_
   refine asr (lr _) rfl (sq_nil (aw_ret ?_))
   exact retQ_pure (v := .raw _) rfl rfl (lr _)
  ·
   have c8' := c8
   try simp only [qq] at c8'
   first | exact absurd c8 (by decide) | (simp at c8; done) | (exfalso; simp at c8; omega)
set_option maxRecDepth 10000 in
theorem law16_tp (p : Pl) (n : Int) (hs : p.scenes.length ≤ 12) (hk : PlOK p = true) (a b : Int) (h71 : staR p = ((a, b), 0)) (h72 : APure Tryz.prog 72 [plan p] (.tup [.agg [I a, I b], B true])) (x : Int) (h70 : lgR p n = (x, 0)) (hsc : isSc p n = true) (hx : ¬ x < 0) (h73 : APure Tryz.prog 73 [plan p, I n] (I x)) : APure Tryz.prog 16 [plan p, I n] (B true) := by
 refine apure_of (rs := [.tmp 4]) Tryz.func16 rfl rfl (Nat.le_of_ble_eq_true rfl) (by simp [AV.pureL, AV.pureB, AV.pureE, pureE_map]) (rfl) fun e0 he0 => ?_
 refine aw_seq (aw_region ?_)
 refine sq_box rfl (lr _) rfl (asr (lr _) rfl (sq_nil (aw_seq (aw_seq (aw_region ?_)))))
 refine sq_ev rfl (ev_load_agg (lr _) rfl ty27 rfl) ?_
 refine sq_ev rfl (ev_call en20 (lr _) (short_yes hs) ⟨lr _, trivial⟩) ?_
 refine sq_ev rfl (ev_not (lr _)) ?_
 refine sq_nil ?_
 refine aw_false (lr _) ?_
 refine aw_skip (aw_seq (aw_region ?_))
 refine sq_ev rfl (ev_load_agg (lr _) rfl ty27 rfl) ?_
 refine mvr (lr _) rfl (sq_ev rfl (ev_call en70 (lr _) (lg_val hs h70) ⟨lr _, lr _, trivial⟩) ?_)
 refine sq_ev rfl (ev_mv (v := .tup _) (lr _)) ?_
 refine xtr rfl (lr _) rfl (xtr rfl (lr _) rfl (asr (lr _) rfl (asr (lr _) rfl (sq_nil (aw_seq (aw_region ?_))))))
 refine sq_ev rfl (ev_load_agg (lr _) rfl ty27 rfl) ?_
 refine sq_ev rfl (ev_call en71 (lr _) (st_val hs h71) ⟨lr _, trivial⟩) ?_
 refine sq_ev rfl (ev_mv (v := .tup _) (lr _)) ?_
 refine xtr rfl (lr _) rfl (xtr rfl (lr _) rfl ?_)
 refine sq_alloc rfl z23 ?_
 refine sq_store rfl (lr _) (lr _) rfl rfl ty23 rfl rfl ?_
 refine asr (lr _) rfl (sq_nil (aw_seq (aw_seq (aw_region ?_))))
 refine sq_ev rfl (ev_load_agg (lr _) rfl ty27 rfl) ?_
 refine sq_ev rfl (ev_call en24 (lr _) (plan_yes hs hk) ⟨lr _, trivial⟩) ?_
 refine sq_ev rfl (ev_not (lr _)) ?_
 refine sq_nil ?_
 refine aw_false (lr _) ?_
 refine aw_skip (aw_seq (aw_seq (aw_region ?_)))
 refine sq_ev rfl (ev_load_agg (lr _) rfl ty27 rfl) ?_
 refine sq_ev rfl (ev_call en72 (lr _) (h72) ⟨lr _, trivial⟩) ?_
 refine sq_ev rfl (ev_mv (v := .tup _) (lr _)) ?_
 refine xtr rfl (lr _) rfl (xtr rfl (lr _) rfl ?_)
 refine sq_alloc rfl z23 ?_
 refine sq_store rfl (lr _) (lr _) rfl rfl ty23 rfl rfl ?_
 refine asr (lr _) rfl (sq_nil (aw_seq (aw_region ?_)))
 refine mvr (lr _) rfl (sq_ev rfl (ev_not (lr _)) ?_)
 refine mvr (lr _) rfl (sq_no rfl rfl (lr _) rfl rfl (sq_no rfl rfl (lr _) rfl rfl (sq_no rfl rfl (lr _) rfl rfl (sq_no rfl rfl (lr _) rfl rfl (sq_no rfl rfl (lr _) rfl rfl (sq_no rfl rfl (lr _) rfl rfl ?_))))))
 refine sq_no rfl rfl (lr _) rfl rfl (pf rfl (lr _) (lr _) (mvr (lr _) rfl (ymr rfl rfl (lr _) rfl (lr _) (ymr rfl rfl (lr _) rfl (lr _) (ymr rfl rfl (lr _) rfl (lr _) (sq_yes rfl rfl (lr _) rfl (ev_neq (lr _) (lr _)) ?_))))))
 refine ymr rfl rfl (lr _) rfl (lr _) (sq_yes rfl rfl (lr _) rfl (ev_load_agg (lr _) rfl ty23 rfl) ?_)
 refine sq_yes rfl rfl (lr _) rfl (ev_load_agg (lr _) rfl ty23 rfl) ?_
 refine sq_yes rfl rfl (lr _) rfl (ev_span_neq (lr _) (lr _)) ?_
 refine sq_yes rfl rfl (lr _) rfl (ev_pickF (v := .raw _) (lr _) (lr _)) ?_
 refine sq_yes rfl rfl (lr _) rfl (ev_pickT (v := .raw _) (lr _) (lr _)) ?_
 refine pf rfl (lr _) (lr _) (sq_nil ?_)
 refine aw_cond (lr _) (fun c6 => ?_) (fun c6 => ?_)
 ·
  have c6' := c6
  try simp only [qq] at c6'
  first | exact absurd c6 (by decide) | (simp at c6; done) | (exfalso; simp at c6; omega)
 ·
  have c6' := c6
  try simp only [qq] at c6'
  refine aw_skip (aw_seq (aw_seq (aw_region ?_)))
  refine sq_ev rfl (ev_load_agg (lr _) rfl ty27 rfl) ?_
  refine mvr (lr _) rfl (sq_ev rfl (ev_call en35 (lr _) (sc_pure hs hsc) ⟨lr _, lr _, trivial⟩) ?_)
  refine sq_ev rfl (ev_not (lr _)) ?_
  refine sq_nil ?_
  refine aw_false (lr _) ?_
  refine aw_skip (aw_seq (aw_region ?_))
  refine sq_ev rfl (ev_load_agg (lr _) rfl ty27 rfl) ?_
  refine mvr (lr _) rfl (sq_ev rfl (ev_call en73 (lr _) (h73) ⟨lr _, lr _, trivial⟩) ?_)
  refine asr (lr _) rfl (sq_nil (aw_seq (aw_seq (aw_region ?_))))
  refine mvr (lr _) rfl (sq_ev rfl (ev_lss (lr _) (lr _)) ?_)
  refine sq_nil ?_
  refine aw_cond (lr _) (fun c8 => ?_) (fun c8 => ?_)
  ·
   have c8' := c8
   try simp only [qq] at c8'
   first | exact absurd c8 (by decide) | (simp at c8; done) | (exfalso; simp at c8; omega)
  ·
   have c8' := c8
   try simp only [qq] at c8'
   refine aw_skip (aw_seq (aw_region ?_))
   refine mvr (lr _) rfl (sq_ev rfl (ev_eql (lr _) (lr _)) ?_)
   refine mvr (lr _) rfl (ymr rfl rfl (lr _) rfl (lr _) (ymr rfl rfl (lr _) rfl (lr _) (sq_yes rfl rfl (lr _) rfl (ev_eql (lr _) (lr _)) ?_)))
   refine sq_ev rfl (ev_pickT (v := .raw _) (lr _) (lr _)) ?_
   refine mvr (lr _) rfl ?_
   refine sq_split 110 (lr _) (fun g10 => ?_) (fun g10 => ?_)
   ·
    have g10' := g10
    try simp only [qq] at g10'
    refine sq_yes rfl rfl (less_b g10) rfl (ev_call en21 (lr _) (known_pure) trivial) ?_
    refine sq_ev rfl (ev_pickT (v := .raw _) (less_b g10) (lr _)) ?_
    refine asr (lr _) rfl (sq_nil (aw_ret ?_))
    exact retQ_pure (v := .raw _) rfl rfl (lr _)
   ·
    have g10' := g10
    try simp only [qq] at g10'
    first | exact absurd g10 (by decide) | (simp at g10; done) | (exfalso; simp at g10; omega)
set_option maxRecDepth 10000 in
theorem law16_fn (p : Pl) (n : Int) (hs : p.scenes.length ≤ 12) (hk : PlOK p = true) (h71 : staR p = ((0, 0), 5)) (h72 : APure Tryz.prog 72 [plan p] (.tup [.agg [I 0, I 0], B false])) (h70 : lgR p n = (0, 2)) (hsc : isSc p n = false) : APure Tryz.prog 16 [plan p, I n] (B true) := by
 refine apure_of (rs := [.tmp 4]) Tryz.func16 rfl rfl (Nat.le_of_ble_eq_true rfl) (by simp [AV.pureL, AV.pureB, AV.pureE, pureE_map]) (rfl) fun e0 he0 => ?_
 refine aw_seq (aw_region ?_)
 refine sq_box rfl (lr _) rfl (asr (lr _) rfl (sq_nil (aw_seq (aw_seq (aw_region ?_)))))
 refine sq_ev rfl (ev_load_agg (lr _) rfl ty27 rfl) ?_
 refine sq_ev rfl (ev_call en20 (lr _) (short_yes hs) ⟨lr _, trivial⟩) ?_
 refine sq_ev rfl (ev_not (lr _)) ?_
 refine sq_nil ?_
 refine aw_false (lr _) ?_
 refine aw_skip (aw_seq (aw_region ?_))
 refine sq_ev rfl (ev_load_agg (lr _) rfl ty27 rfl) ?_
 refine mvr (lr _) rfl (sq_ev rfl (ev_call en70 (lr _) (lg_val hs h70) ⟨lr _, lr _, trivial⟩) ?_)
 refine sq_ev rfl (ev_mv (v := .tup _) (lr _)) ?_
 refine xtr rfl (lr _) rfl (xtr rfl (lr _) rfl (asr (lr _) rfl (asr (lr _) rfl (sq_nil (aw_seq (aw_region ?_))))))
 refine sq_ev rfl (ev_load_agg (lr _) rfl ty27 rfl) ?_
 refine sq_ev rfl (ev_call en71 (lr _) (st_val hs h71) ⟨lr _, trivial⟩) ?_
 refine sq_ev rfl (ev_mv (v := .tup _) (lr _)) ?_
 refine xtr rfl (lr _) rfl (xtr rfl (lr _) rfl ?_)
 refine sq_alloc rfl z23 ?_
 refine sq_store rfl (lr _) (lr _) rfl rfl ty23 rfl rfl ?_
 refine asr (lr _) rfl (sq_nil (aw_seq (aw_seq (aw_region ?_))))
 refine sq_ev rfl (ev_load_agg (lr _) rfl ty27 rfl) ?_
 refine sq_ev rfl (ev_call en24 (lr _) (plan_yes hs hk) ⟨lr _, trivial⟩) ?_
 refine sq_ev rfl (ev_not (lr _)) ?_
 refine sq_nil ?_
 refine aw_false (lr _) ?_
 refine aw_skip (aw_seq (aw_seq (aw_region ?_)))
 refine sq_ev rfl (ev_load_agg (lr _) rfl ty27 rfl) ?_
 refine sq_ev rfl (ev_call en72 (lr _) (h72) ⟨lr _, trivial⟩) ?_
 refine sq_ev rfl (ev_mv (v := .tup _) (lr _)) ?_
 refine xtr rfl (lr _) rfl (xtr rfl (lr _) rfl ?_)
 refine sq_alloc rfl z23 ?_
 refine sq_store rfl (lr _) (lr _) rfl rfl ty23 rfl rfl ?_
 refine asr (lr _) rfl (sq_nil (aw_seq (aw_region ?_)))
 refine mvr (lr _) rfl (sq_ev rfl (ev_not (lr _)) ?_)
 refine mvr (lr _) rfl (ymr rfl rfl (lr _) rfl (lr _) (sq_yes rfl rfl (lr _) rfl (ev_neq (lr _) (lr _)) ?_))
 refine ymr rfl rfl (lr _) rfl (lr _) (sq_yes rfl rfl (lr _) rfl (ev_load_agg (lr _) rfl ty23 rfl) ?_)
 refine sq_yes rfl rfl (lr _) rfl (ev_build bi23 rfl) ?_
 refine sq_yes rfl rfl (lr _) rfl (ev_span_neq (lr _) (lr _)) ?_
 refine sq_yes rfl rfl (lr _) rfl (ev_pickF (v := .raw _) (lr _) (lr _)) ?_
 refine sq_ev rfl (ev_pickT (v := .raw _) (lr _) (lr _)) ?_
 refine mvr (lr _) rfl (ymr rfl rfl (lr _) rfl (lr _) (ymr rfl rfl (lr _) rfl (lr _) (sq_no rfl rfl (lr _) rfl rfl ?_)))
 refine sq_no rfl rfl (lr _) rfl rfl (sq_no rfl rfl (lr _) rfl rfl (sq_no rfl rfl (lr _) rfl rfl (sq_no rfl rfl (lr _) rfl rfl (sq_no rfl rfl (lr _) rfl rfl (sq_no rfl rfl (lr _) rfl rfl (sq_yes rfl rfl (lr _) rfl (ev_pickF (v := .raw _) (lr _) (lr _)) ?_))))))
 refine pf rfl (lr _) (lr _) (sq_nil ?_)
 refine aw_false (lr _) ?_
 refine aw_skip (aw_seq (aw_seq (aw_region ?_)))
 refine sq_ev rfl (ev_load_agg (lr _) rfl ty27 rfl) ?_
 refine mvr (lr _) rfl (sq_ev rfl (ev_call en35 (lr _) (sc_pure hs hsc) ⟨lr _, lr _, trivial⟩) ?_)
 refine sq_ev rfl (ev_not (lr _)) ?_
 refine sq_nil ?_
 refine aw_true (lr _) ?_
 refine aw_seq (aw_region ?_)
 refine mvr (lr _) rfl (sq_ev rfl (ev_eql (lr _) (lr _)) ?_)
 refine mvr (lr _) rfl (ymr rfl rfl (lr _) rfl (lr _) (sq_yes rfl rfl (lr _) rfl (ev_eql (lr _) (lr _)) ?_))
 refine sq_ev rfl (ev_pickT (v := .raw _) (lr _) (lr _)) ?_
 refine mvr (lr _) rfl (sq_yes rfl rfl (lr _) rfl (ev_call en21 (lr _) (known_pure) trivial) ?_)
 refine sq_ev rfl (ev_pickT (v := .raw _) (lr _) (lr _)) ?_
 refine asr (lr _) rfl (sq_nil (aw_ret ?_))
 exact retQ_pure (v := .raw _) rfl rfl (lr _)
set_option maxRecDepth 10000 in
theorem law16_fm (p : Pl) (n : Int) (hs : p.scenes.length ≤ 12) (hk : PlOK p = true) (h71 : staR p = ((0, 0), 5)) (h72 : APure Tryz.prog 72 [plan p] (.tup [.agg [I 0, I 0], B false])) (h70 : lgR p n = (0, 5)) (hsc : isSc p n = true) (x : Int) (hx : x < 0) (h73 : APure Tryz.prog 73 [plan p, I n] (I x)) : APure Tryz.prog 16 [plan p, I n] (B true) := by
 refine apure_of (rs := [.tmp 4]) Tryz.func16 rfl rfl (Nat.le_of_ble_eq_true rfl) (by simp [AV.pureL, AV.pureB, AV.pureE, pureE_map]) (rfl) fun e0 he0 => ?_
 refine aw_seq (aw_region ?_)
 refine sq_box rfl (lr _) rfl (asr (lr _) rfl (sq_nil (aw_seq (aw_seq (aw_region ?_)))))
 refine sq_ev rfl (ev_load_agg (lr _) rfl ty27 rfl) ?_
 refine sq_ev rfl (ev_call en20 (lr _) (short_yes hs) ⟨lr _, trivial⟩) ?_
 refine sq_ev rfl (ev_not (lr _)) ?_
 refine sq_nil ?_
 refine aw_false (lr _) ?_
 refine aw_skip (aw_seq (aw_region ?_))
 refine sq_ev rfl (ev_load_agg (lr _) rfl ty27 rfl) ?_
 refine mvr (lr _) rfl (sq_ev rfl (ev_call en70 (lr _) (lg_val hs h70) ⟨lr _, lr _, trivial⟩) ?_)
 refine sq_ev rfl (ev_mv (v := .tup _) (lr _)) ?_
 refine xtr rfl (lr _) rfl (xtr rfl (lr _) rfl (asr (lr _) rfl (asr (lr _) rfl (sq_nil (aw_seq (aw_region ?_))))))
 refine sq_ev rfl (ev_load_agg (lr _) rfl ty27 rfl) ?_
 refine sq_ev rfl (ev_call en71 (lr _) (st_val hs h71) ⟨lr _, trivial⟩) ?_
 refine sq_ev rfl (ev_mv (v := .tup _) (lr _)) ?_
 refine xtr rfl (lr _) rfl (xtr rfl (lr _) rfl ?_)
 refine sq_alloc rfl z23 ?_
 refine sq_store rfl (lr _) (lr _) rfl rfl ty23 rfl rfl ?_
 refine asr (lr _) rfl (sq_nil (aw_seq (aw_seq (aw_region ?_))))
 refine sq_ev rfl (ev_load_agg (lr _) rfl ty27 rfl) ?_
 refine sq_ev rfl (ev_call en24 (lr _) (plan_yes hs hk) ⟨lr _, trivial⟩) ?_
 refine sq_ev rfl (ev_not (lr _)) ?_
 refine sq_nil ?_
 refine aw_false (lr _) ?_
 refine aw_skip (aw_seq (aw_seq (aw_region ?_)))
 refine sq_ev rfl (ev_load_agg (lr _) rfl ty27 rfl) ?_
 refine sq_ev rfl (ev_call en72 (lr _) (h72) ⟨lr _, trivial⟩) ?_
 refine sq_ev rfl (ev_mv (v := .tup _) (lr _)) ?_
 refine xtr rfl (lr _) rfl (xtr rfl (lr _) rfl ?_)
 refine sq_alloc rfl z23 ?_
 refine sq_store rfl (lr _) (lr _) rfl rfl ty23 rfl rfl ?_
 refine asr (lr _) rfl (sq_nil (aw_seq (aw_region ?_)))
 refine mvr (lr _) rfl (sq_ev rfl (ev_not (lr _)) ?_)
 refine mvr (lr _) rfl (ymr rfl rfl (lr _) rfl (lr _) (sq_yes rfl rfl (lr _) rfl (ev_neq (lr _) (lr _)) ?_))
 refine ymr rfl rfl (lr _) rfl (lr _) (sq_yes rfl rfl (lr _) rfl (ev_load_agg (lr _) rfl ty23 rfl) ?_)
 refine sq_yes rfl rfl (lr _) rfl (ev_build bi23 rfl) ?_
 refine sq_yes rfl rfl (lr _) rfl (ev_span_neq (lr _) (lr _)) ?_
 refine sq_yes rfl rfl (lr _) rfl (ev_pickF (v := .raw _) (lr _) (lr _)) ?_
 refine sq_ev rfl (ev_pickT (v := .raw _) (lr _) (lr _)) ?_
 refine mvr (lr _) rfl (ymr rfl rfl (lr _) rfl (lr _) (ymr rfl rfl (lr _) rfl (lr _) (sq_no rfl rfl (lr _) rfl rfl ?_)))
 refine sq_no rfl rfl (lr _) rfl rfl (sq_no rfl rfl (lr _) rfl rfl (sq_no rfl rfl (lr _) rfl rfl (sq_no rfl rfl (lr _) rfl rfl (sq_no rfl rfl (lr _) rfl rfl (sq_no rfl rfl (lr _) rfl rfl (sq_yes rfl rfl (lr _) rfl (ev_pickF (v := .raw _) (lr _) (lr _)) ?_))))))
 refine pf rfl (lr _) (lr _) (sq_nil ?_)
 refine aw_false (lr _) ?_
 refine aw_skip (aw_seq (aw_seq (aw_region ?_)))
 refine sq_ev rfl (ev_load_agg (lr _) rfl ty27 rfl) ?_
 refine mvr (lr _) rfl (sq_ev rfl (ev_call en35 (lr _) (sc_pure hs hsc) ⟨lr _, lr _, trivial⟩) ?_)
 refine sq_ev rfl (ev_not (lr _)) ?_
 refine sq_nil ?_
 refine aw_false (lr _) ?_
 refine aw_skip (aw_seq (aw_region ?_))
 refine sq_ev rfl (ev_load_agg (lr _) rfl ty27 rfl) ?_
 refine mvr (lr _) rfl (sq_ev rfl (ev_call en73 (lr _) (h73) ⟨lr _, lr _, trivial⟩) ?_)
 refine asr (lr _) rfl (sq_nil (aw_seq (aw_seq (aw_region ?_))))
 refine mvr (lr _) rfl (sq_ev rfl (ev_lss (lr _) (lr _)) ?_)
 refine sq_nil ?_
 refine aw_cond (lr _) (fun c8 => ?_) (fun c8 => ?_)
 ·
  have c8' := c8
  try simp only [qq] at c8'
  refine aw_seq (aw_region ?_)
  refine mvr (lr _) rfl (sq_ev rfl (ev_eql (lr _) (lr _)) ?_)
  refine mvr (lr _) rfl (ymr rfl rfl (lr _) rfl (lr _) (sq_yes rfl rfl (lr _) rfl (ev_eql (lr _) (lr _)) ?_))
  refine sq_ev rfl (ev_pickT (v := .raw _) (lr _) (lr _)) ?_
  refine mvr (lr _) rfl (sq_yes rfl rfl (lr _) rfl (ev_call en21 (lr _) (known_pure) trivial) ?_)
  refine sq_ev rfl (ev_pickT (v := .raw _) (lr _) (lr _)) ?_
  refine asr (lr _) rfl (sq_nil (aw_ret ?_))
  exact retQ_pure (v := .raw _) rfl rfl (lr _)
 ·
  have c8' := c8
  try simp only [qq] at c8'
  first | exact absurd c8 (by decide) | (simp at c8; done) | (exfalso; simp at c8; omega)
set_option maxRecDepth 10000 in
theorem law16_fp (p : Pl) (n : Int) (hs : p.scenes.length ≤ 12) (hk : PlOK p = true) (h71 : staR p = ((0, 0), 5)) (h72 : APure Tryz.prog 72 [plan p] (.tup [.agg [I 0, I 0], B false])) (x : Int) (h70 : lgR p n = (x, 0)) (hsc : isSc p n = true) (hx : ¬ x < 0) (h73 : APure Tryz.prog 73 [plan p, I n] (I x)) : APure Tryz.prog 16 [plan p, I n] (B true) := by
 refine apure_of (rs := [.tmp 4]) Tryz.func16 rfl rfl (Nat.le_of_ble_eq_true rfl) (by simp [AV.pureL, AV.pureB, AV.pureE, pureE_map]) (rfl) fun e0 he0 => ?_
 refine aw_seq (aw_region ?_)
 refine sq_box rfl (lr _) rfl (asr (lr _) rfl (sq_nil (aw_seq (aw_seq (aw_region ?_)))))
 refine sq_ev rfl (ev_load_agg (lr _) rfl ty27 rfl) ?_
 refine sq_ev rfl (ev_call en20 (lr _) (short_yes hs) ⟨lr _, trivial⟩) ?_
 refine sq_ev rfl (ev_not (lr _)) ?_
 refine sq_nil ?_
 refine aw_false (lr _) ?_
 refine aw_skip (aw_seq (aw_region ?_))
 refine sq_ev rfl (ev_load_agg (lr _) rfl ty27 rfl) ?_
 refine mvr (lr _) rfl (sq_ev rfl (ev_call en70 (lr _) (lg_val hs h70) ⟨lr _, lr _, trivial⟩) ?_)
 refine sq_ev rfl (ev_mv (v := .tup _) (lr _)) ?_
 refine xtr rfl (lr _) rfl (xtr rfl (lr _) rfl (asr (lr _) rfl (asr (lr _) rfl (sq_nil (aw_seq (aw_region ?_))))))
 refine sq_ev rfl (ev_load_agg (lr _) rfl ty27 rfl) ?_
 refine sq_ev rfl (ev_call en71 (lr _) (st_val hs h71) ⟨lr _, trivial⟩) ?_
 refine sq_ev rfl (ev_mv (v := .tup _) (lr _)) ?_
 refine xtr rfl (lr _) rfl (xtr rfl (lr _) rfl ?_)
 refine sq_alloc rfl z23 ?_
 refine sq_store rfl (lr _) (lr _) rfl rfl ty23 rfl rfl ?_
 refine asr (lr _) rfl (sq_nil (aw_seq (aw_seq (aw_region ?_))))
 refine sq_ev rfl (ev_load_agg (lr _) rfl ty27 rfl) ?_
 refine sq_ev rfl (ev_call en24 (lr _) (plan_yes hs hk) ⟨lr _, trivial⟩) ?_
 refine sq_ev rfl (ev_not (lr _)) ?_
 refine sq_nil ?_
 refine aw_false (lr _) ?_
 refine aw_skip (aw_seq (aw_seq (aw_region ?_)))
 refine sq_ev rfl (ev_load_agg (lr _) rfl ty27 rfl) ?_
 refine sq_ev rfl (ev_call en72 (lr _) (h72) ⟨lr _, trivial⟩) ?_
 refine sq_ev rfl (ev_mv (v := .tup _) (lr _)) ?_
 refine xtr rfl (lr _) rfl (xtr rfl (lr _) rfl ?_)
 refine sq_alloc rfl z23 ?_
 refine sq_store rfl (lr _) (lr _) rfl rfl ty23 rfl rfl ?_
 refine asr (lr _) rfl (sq_nil (aw_seq (aw_region ?_)))
 refine mvr (lr _) rfl (sq_ev rfl (ev_not (lr _)) ?_)
 refine mvr (lr _) rfl (ymr rfl rfl (lr _) rfl (lr _) (sq_yes rfl rfl (lr _) rfl (ev_neq (lr _) (lr _)) ?_))
 refine ymr rfl rfl (lr _) rfl (lr _) (sq_yes rfl rfl (lr _) rfl (ev_load_agg (lr _) rfl ty23 rfl) ?_)
 refine sq_yes rfl rfl (lr _) rfl (ev_build bi23 rfl) ?_
 refine sq_yes rfl rfl (lr _) rfl (ev_span_neq (lr _) (lr _)) ?_
 refine sq_yes rfl rfl (lr _) rfl (ev_pickF (v := .raw _) (lr _) (lr _)) ?_
 refine sq_ev rfl (ev_pickT (v := .raw _) (lr _) (lr _)) ?_
 refine mvr (lr _) rfl (ymr rfl rfl (lr _) rfl (lr _) (ymr rfl rfl (lr _) rfl (lr _) (sq_no rfl rfl (lr _) rfl rfl ?_)))
 refine sq_no rfl rfl (lr _) rfl rfl (sq_no rfl rfl (lr _) rfl rfl (sq_no rfl rfl (lr _) rfl rfl (sq_no rfl rfl (lr _) rfl rfl (sq_no rfl rfl (lr _) rfl rfl (sq_no rfl rfl (lr _) rfl rfl (sq_yes rfl rfl (lr _) rfl (ev_pickF (v := .raw _) (lr _) (lr _)) ?_))))))
 refine pf rfl (lr _) (lr _) (sq_nil ?_)
 refine aw_false (lr _) ?_
 refine aw_skip (aw_seq (aw_seq (aw_region ?_)))
 refine sq_ev rfl (ev_load_agg (lr _) rfl ty27 rfl) ?_
 refine mvr (lr _) rfl (sq_ev rfl (ev_call en35 (lr _) (sc_pure hs hsc) ⟨lr _, lr _, trivial⟩) ?_)
 refine sq_ev rfl (ev_not (lr _)) ?_
 refine sq_nil ?_
 refine aw_false (lr _) ?_
 refine aw_skip (aw_seq (aw_region ?_))
 refine sq_ev rfl (ev_load_agg (lr _) rfl ty27 rfl) ?_
 refine mvr (lr _) rfl (sq_ev rfl (ev_call en73 (lr _) (h73) ⟨lr _, lr _, trivial⟩) ?_)
 refine asr (lr _) rfl (sq_nil (aw_seq (aw_seq (aw_region ?_))))
 refine mvr (lr _) rfl (sq_ev rfl (ev_lss (lr _) (lr _)) ?_)
 refine sq_nil ?_
 refine aw_cond (lr _) (fun c8 => ?_) (fun c8 => ?_)
 ·
  have c8' := c8
  try simp only [qq] at c8'
  first | exact absurd c8 (by decide) | (simp at c8; done) | (exfalso; simp at c8; omega)
 ·
  have c8' := c8
  try simp only [qq] at c8'
  refine aw_skip (aw_seq (aw_region ?_))
  refine mvr (lr _) rfl (sq_ev rfl (ev_eql (lr _) (lr _)) ?_)
  refine mvr (lr _) rfl (ymr rfl rfl (lr _) rfl (lr _) (ymr rfl rfl (lr _) rfl (lr _) (sq_yes rfl rfl (lr _) rfl (ev_eql (lr _) (lr _)) ?_)))
  refine sq_ev rfl (ev_pickT (v := .raw _) (lr _) (lr _)) ?_
  refine mvr (lr _) rfl ?_
  refine sq_split 110 (lr _) (fun g10 => ?_) (fun g10 => ?_)
  ·
   have g10' := g10
   try simp only [qq] at g10'
   refine sq_yes rfl rfl (less_b g10) rfl (ev_call en21 (lr _) (known_pure) trivial) ?_
   refine sq_ev rfl (ev_pickT (v := .raw _) (less_b g10) (lr _)) ?_
   refine asr (lr _) rfl (sq_nil (aw_ret ?_))
   exact retQ_pure (v := .raw _) rfl rfl (lr _)
  ·
   have g10' := g10
   try simp only [qq] at g10'
   first | exact absurd g10 (by decide) | (simp at g10; done) | (exfalso; simp at g10; omega)
/-- **NightLongers returns true.** -/
theorem law16 (p : Pl) (n : Int) (_ : -9223372036854775808 ≤ n) (_ : n ≤ 9223372036854775807) : APure Tryz.prog 16 [plan p, I n] (B true) := by
  by_cases hs : p.scenes.length ≤ 12
  · cases hk : PlOK p with
    | false => exact law16_bad p n hs hk (by unfold lgR; rw [if_neg (by simp [hk])]) (staR_1 hk)
    | true =>
      obtain ⟨gp, wp⟩ := gp_of_ok hk
      have hbad : isSc p n = false → lgR p n = (0, 2) := fun h => by unfold lgR; rw [if_neg (by simp [h])]
      have hgood : isSc p n = true → ∃ x, APure Tryz.prog 73 [plan p, I n] (I x) ∧ ((x < 0 ∧ lgR p n = (0, 5)) ∨ (¬ x < 0 ∧ lgR p n = (x, 0))) := fun h => by
        obtain ⟨m, rfl⟩ : ∃ m : Nat, n = (m : Int) := ⟨n.toNat, by simp only [isSc, inn, Bool.and_eq_true, decide_eq_true_eq] at h; omega⟩
        have hm : m < p.scenes.length := by simp only [isSc, inn, Bool.and_eq_true, decide_eq_true_eq] at h; omega
        obtain ⟨k, hk1, hk3⟩ := partOf_ok hk hm
        refine ⟨rlg p m, rLonger_pure p m k gp wp hm hk1 hk3 (most_ok hk hm), ?_⟩
        unfold lgR
        rw [if_pos ⟨hk, h⟩, Int.toNat_natCast]
        by_cases hc : 0 < (choicesC p).length
        · right
          rw [if_pos hc, rlg, if_pos hc]; exact ⟨by omega, rfl⟩
        · rw [if_neg hc]
          obtain ⟨q1, q2⟩ := lg_eq hk hm (by omega)
          by_cases hl : (lgL p m).length = 0
          · left; rw [if_pos hl, q1 hl]; exact ⟨by omega, rfl⟩
          · right; rw [if_neg hl, (q2 hl).1]; have := q2 hl; exact ⟨by omega, rfl⟩
      cases hv : stM p (allC p).length with
      | true =>
        obtain ⟨a, b, hw⟩ : ∃ a b, wd (stS p (allC p).length) = (a, b) := ⟨_, _, rfl⟩
        have h71 : staR p = ((a, b), 0) := by rw [staR_3 hk hv, hw]
        have h72 := rst_val gp wp hw hv
        cases hsc : isSc p n with
        | false => exact law16_tn p n hs hk a b h71 h72 (hbad hsc) hsc
        | true =>
          obtain ⟨x, h73, ⟨hx, h70⟩ | ⟨hx, h70⟩⟩ := hgood hsc
          · exact law16_tm p n hs hk a b h71 h72 h70 hsc x hx h73
          · exact law16_tp p n hs hk a b h71 h72 x h70 hsc hx h73
      | false =>
        have h0 : wd (stS p (allC p).length) = (0, 0) := by
          have : stS p (allC p).length = [] := by
            unfold stM at hv
            exact List.length_eq_zero_iff.1 (by have := of_decide_eq_false hv; omega)
          rw [this]; rfl
        have h71 := staR_2 hk hv
        have h72 := rst_val gp wp h0 hv
        cases hsc : isSc p n with
        | false => exact law16_fn p n hs hk h71 h72 (hbad hsc) hsc
        | true =>
          obtain ⟨x, h73, ⟨hx, h70⟩ | ⟨hx, h70⟩⟩ := hgood hsc
          · exact law16_fm p n hs hk h71 h72 h70 hsc x hx h73
          · exact law16_fp p n hs hk h71 h72 x h70 hsc hx h73
  · exact law16_long p n hs
end Go.Proofs.YtjghdbdiejaacaaGreatDoor
