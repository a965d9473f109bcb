/-
  A part of the proof: conditions: none beyond each theorem's own.
-/
import Derived.Test.YtjghdbdiejaacaaGreatDoorWalkA
import Derived.Test.YtjghdbdiejaacaaGreatDoorLogicD
import Derived.Test.YtjghdbdiejaacaaGreatDoorSpecA
set_option linter.all false
namespace Go.Proofs.YtjghdbdiejaacaaGreatDoor
open Go Go.Ab Ni
theorem ar118 : arrElem Tryz.prog 118 = some (4, 23, 2) := by kernel_rfl
theorem bi132 : bldInfo Tryz.prog 132 = some ([.raw (.int .i64 0), .raw (.int .i64 0)], true, [(0, 1), (1, 1)], 0) := by kernel_rfl
theorem en135 : Ent Tryz.prog 135 := Ent.of Tryz.func135 (by kernel_rfl) rfl
theorem en136 : Ent Tryz.prog 136 := Ent.of Tryz.func136 (by kernel_rfl) rfl
theorem en98 : Ent Tryz.prog 98 := Ent.of Tryz.func98 (by kernel_rfl) rfl
theorem ni132 : notIface Tryz.prog 132 = true := by kernel_rfl
theorem ty118 : tySz Tryz.prog 118 = some (true, 8) := by kernel_rfl
theorem z118 : zeroOf Tryz.prog 118 = some [.raw (.int .i64 0), .raw (.int .i64 0), .raw (.int .i64 0), .raw (.int .i64 0), .raw (.int .i64 0), .raw (.int .i64 0), .raw (.int .i64 0), .raw (.int .i64 0)] := by kernel_rfl

/-- the minutes at which parts begin, k of them told -/
abbrev fwc (p : Pl) (l : List Nat) (k : Nat) : List AV := [I (fw p l 0).1, I (fw p l 0).2, I (if 0 < k then (fw p l 1).1 else 0), I (if 0 < k then (fw p l 1).2 else 0), I (if 1 < k then (fw p l 2).1 else 0), I (if 1 < k then (fw p l 2).2 else 0), I (if 2 < k then (fw p l 3).1 else 0), I (if 2 < k then (fw p l 3).2 else 0)]
def fwR (p : Pl) (l : List Nat) : ARes → Prop := fun x => match ffail p l with
  | none => x = .ret (.agg (fwc p l 3))
  | some (k, f) => x = .pan (.ifc 132 (.agg [I k, I f]))
/-- the minutes at which parts end, by what comes later: j of them told -/
abbrev bwc (p : Pl) (l : List Nat) (j : Nat) : List AV := [I (if 2 < j then (bw p l 2).1 else 0), I (if 2 < j then (bw p l 2).2 else 0), I (if 1 < j then (bw p l 1).1 else 0), I (if 1 < j then (bw p l 1).2 else 0), I (if 0 < j then (bw p l 0).1 else 0), I (if 0 < j then (bw p l 0).2 else 0)]
theorem nlastsP_pure (p : Pl) (l : List Nat) (k : Nat) (gp : GP p) (cv : CV p l) : APure Tryz.prog 135 [played p l, nats (ofP p l (k : Int))] (.agg [I (pl p l k), I (ph p l k)]) := nlasts_pure p l (ofP p l k) gp (ofP_cv cv _)

set_option maxHeartbeats 2000000 in
/-- (kelir/night.played).forward -/
theorem nforward_pan (p : Pl) (l : List Nat) (gp : GP p) (cv : CV p l) : APan Tryz.prog 99 [played p l] (fwR p l) := by
 refine APan.of_acall (by simp [AV.pureL, AV.pureB, AV.pureE, pureE_map]) (acall_of (rs := [.cell 2 118]) Tryz.func99 rfl rfl (Nat.le_of_ble_eq_true rfl) fun e0 he0 => ?_)
 refine aw_seq (aw_region ?_)
 refine sq_box rfl (lr _) rfl ?_
 refine sq_alloc rfl z118 ?_
 refine sq_nil (aw_seq (aw_region ?_))
 refine sq_alloc rfl z118 ?_
 refine sq_nil (aw_seq (aw_region ?_))
 refine sq_ev rfl (ev_fieldAddr fo110_0 (lr _)) ?_
 refine sq_ev rfl (ev_fieldAddr fo27_0 (lr _)) ?_
 refine sq_ev rfl (ev_load (lr _) rfl ty3 rfl) ?_
 refine sq_ev rfl (ev_fieldAddr fo110_0 (lr _)) ?_
 refine sq_ev rfl (ev_fieldAddr fo27_0 (lr _)) ?_
 refine sq_ev rfl (ev_load (lr _) rfl ty3 rfl) ?_
 refine sq_ev rfl (ev_build bi23 rfl) ?_
 refine sq_ev rfl (ev_index_box ar118 (lr _) (lr _) rfl (by decide)) ?_
 refine sq_store rfl (lr _) (lr _) rfl rfl ty23 rfl rfl ?_
 refine sq_nil (aw_seq (aw_seq (aw_region ?_)))
 refine mvr (lr _) rfl ?_
 refine sq_nil (aw_block ?_)
 refine aw_loopk (ι := { k : Nat // k ≤ 3 ∧ ∀ j, j < k → flt p l j = 0 }) [1, 2, 3] (fun i => [(16, I i.1)]) (fun H i => H.set 2 (.cells (fwc p l i.1))) (fun i => 3 - i.1) (⟨0, by omega, by omega⟩) ⟨lr _, lr _, lr _, lr _, trivial⟩ rfl ?_
 rintro ⟨k, hk, hno⟩
 dsimp only [keepS, St.put, sget, slotsOf, List.map_cons, List.map_nil, List.cons_append, List.nil_append, List.length_cons, List.length_nil, Nat.reduceBEq, Nat.reduceAdd, cond_true, cond_false]
 refine aw_seq (aw_region ?_)
 refine sq_ev rfl (ev_lss (lr _) (lr _)) ?_
 refine sq_nil (aw_seq ?_)
 refine aw_cond (lr _) (fun c1 => ?_) (fun c1 => ?_)
 ·
  have c1' := c1
  try simp only [qq] at c1'
  have hk3 : k < 3 := by omega
  have b1 := fw_bd gp cv k
  have b2 : 0 ≤ pl p l k ∧ pl p l k ≤ 10000000 := lsum_bd gp (ofP_cv cv _)
  have b3 : 0 ≤ ph p l k ∧ ph p l k ≤ 10000000 := hsum_bd gp (ofP_cv cv _)
  refine aw_skip (aw_seq (aw_block (aw_seq (aw_region ?_))))
  refine mvr (lr _) rfl ?_
  refine asr (lr _) rfl ?_
  refine sq_nil (aw_seq ?_)
  refine aw_draw 11 mo (by kernel_rfl) ?_
  refine dr_ev rfl (ev_load_agg (lr _) rfl ty110 rfl) ?_
  refine dr_ev rfl (ev_load_agg (lr _) rfl ty110 rfl) ?_
  refine dr_ev rfl (ev_mv (v := .raw _) (lr _)) ?_
  refine dr_ev rfl (ev_call en136 (lr _) (nof_pure p l (k : Int) gp cv) ⟨lr _, lr _, trivial⟩) ?_
  refine dr_ev rfl (ev_call en135 (lr _) (nlastsP_pure p l k gp cv) ⟨lr _, lr _, trivial⟩) ?_
  refine dr_ev rfl (ev_fieldAddr fo110_0 (lr _)) ?_
  refine dr_ev rfl (ev_load_agg (lr _) rfl ty27 rfl) ?_
  refine dr_ev rfl (ev_mv (v := .raw _) (lr _)) ?_
  refine dr_ev rfl (ev_call en142 (lr _) (nwindow_pure p k hk3) ⟨lr _, lr _, trivial⟩) ?_
  refine dr_alloc rfl z23 ?_
  refine dr_alloc rfl z23 ?_
  refine dr_end ?_
  refine sq_store rfl (lr _) (lr _) rfl rfl ty23 rfl rfl ?_
  refine sq_store rfl (lr _) (lr _) rfl rfl ty23 rfl rfl ?_
  refine sq_nil (aw_seq ?_)
  refine aw_draw 16 mo (by kernel_rfl) ?_
  refine dr_ev rfl (ev_mv (v := .raw _) (lr _)) ?_
  refine dr_ev rfl (ev_index_box ar118 (lr _) (lr _) rfl (by omega)) ?_
  refine dr_ev rfl (ev_fieldAddr fo23_0 (lr _)) ?_
  refine dr_ev rfl (ev_load (v := I (fw p l k).1) (lr _) rfl ty3 (by rcases k with _ | _ | _ | k <;> first | rfl | omega)) ?_
  refine dr_ev rfl (ev_fieldAddr fo23_0 (lr _)) ?_
  refine dr_ev rfl (ev_load (lr _) rfl ty3 rfl) ?_
  refine dr_ev rfl (ev_add (lr _) (lr _) (wr (by omega) (by omega))) ?_
  refine dr_ev rfl (ev_mv (v := .raw _) (lr _)) ?_
  refine dr_ev rfl (ev_index_box ar118 (lr _) (lr _) rfl (by omega)) ?_
  refine dr_ev rfl (ev_fieldAddr fo23_1 (lr _)) ?_
  refine dr_ev rfl (ev_load (v := I (fw p l k).2) (lr _) rfl ty3 (by rcases k with _ | _ | _ | k <;> first | rfl | omega)) ?_
  refine dr_ev rfl (ev_fieldAddr fo23_1 (lr _)) ?_
  refine dr_ev rfl (ev_load (lr _) rfl ty3 rfl) ?_
  refine dr_ev rfl (ev_add (lr _) (lr _) (wr (by omega) (by omega))) ?_
  refine dr_ev rfl (ev_build bi23 rfl) ?_
  refine dr_alloc rfl z23 ?_
  refine dr_end ?_
  refine sq_store rfl (lr _) (lr _) rfl rfl ty23 rfl rfl ?_
  refine sq_nil (aw_seq (aw_block (aw_seq (aw_region ?_))))
  refine sq_ev rfl (ev_fieldAddr fo23_1 (lr _)) ?_
  refine sq_ev rfl (ev_load (lr _) rfl ty3 rfl) ?_
  refine sq_ev rfl (ev_fieldAddr fo23_0 (lr _)) ?_
  refine sq_ev rfl (ev_load (lr _) rfl ty3 rfl) ?_
  refine sq_ev rfl (ev_lss (lr _) (lr _)) ?_
  refine asr (lr _) rfl ?_
  refine sq_nil ?_
  refine aw_cond (lr _) (fun c2 => ?_) (fun c2 => ?_)
  ·
   have c2' := c2
   try simp only [qq] at c2'
   refine aw_region ?_
   refine mvr (lr _) rfl ?_
   refine sq_ev rfl (ev_build bi132 rfl) ?_
   refine sq_ev rfl (ev_makeIface ni132 (lr _)) ?_
   refine sq_panic (lr _) ?_
   have hf : flt p l k = 1 := by simp [flt, *]
   exact ⟨rfl, .pan (.ifc 132 (.agg [I k, I 1])), (by rw [fwR, ffail_some hk3 hno (by rw [hf]; decide), hf]), rfl, lr _⟩
  ·
   have c2' := c2
   try simp only [qq] at c2'
   refine aw_seq (aw_region ?_)
   refine sq_ev rfl (ev_fieldAddr fo23_0 (lr _)) ?_
   refine sq_ev rfl (ev_load (lr _) rfl ty3 rfl) ?_
   refine sq_ev rfl (ev_fieldAddr fo23_1 (lr _)) ?_
   refine sq_ev rfl (ev_load (lr _) rfl ty3 rfl) ?_
   refine sq_ev rfl (ev_gtr (lr _) (lr _)) ?_
   refine asr (lr _) rfl ?_
   refine sq_nil ?_
   refine aw_cond (lr _) (fun c3 => ?_) (fun c3 => ?_)
   ·
    have c3' := c3
    try simp only [qq] at c3'
    refine aw_region ?_
    refine mvr (lr _) rfl ?_
    refine sq_ev rfl (ev_build bi132 rfl) ?_
    refine sq_ev rfl (ev_makeIface ni132 (lr _)) ?_
    refine sq_panic (lr _) ?_
    have hf : flt p l k = 2 := by simp only [flt]; rw [if_neg (by omega), if_pos (by omega)]
    exact ⟨rfl, .pan (.ifc 132 (.agg [I k, I 2])), (by rw [fwR, ffail_some hk3 hno (by rw [hf]; decide), hf]), rfl, lr _⟩
   ·
    have c3' := c3
    try simp only [qq] at c3'
    refine aw_skip (aw_region ?_)
    refine mvr (lr _) rfl ?_
    refine sq_ev rfl (ev_add (lr _) (lr _) (wr (by omega) (by omega))) ?_
    refine sq_ev rfl (ev_load_agg (lr _) rfl ty23 rfl) ?_
    refine sq_ev rfl (ev_load_agg (lr _) rfl ty23 rfl) ?_
    refine sq_ev rfl (ev_call en98 (lr _) (nboth_pure _ _ _ _) ⟨lr _, lr _, trivial⟩) ?_
    refine sq_ev rfl (ev_index_box (k := k + 1) ar118 (lr _) (lr _) (by omega) (by omega)) ?_
    refine sq_store rfl (lr _) (lr _) rfl rfl ty23 rfl (by rcases k with _ | _ | _ | k <;> first | rfl | omega) ?_
    refine sq_nil (aw_region ?_)
    refine sq_ev rfl (ev_add (lr _) (lr _) (wr (by omega) (by omega))) ?_
    refine mvr (lr _) rfl ?_
    refine sq_nil ?_
    have hf0 : flt p l k = 0 := by simp [flt, *]
    exact ⟨⟨k + 1, by omega, fun j hj => (by by_cases e : j = k; (subst e; exact hf0); exact hno j (by omega))⟩, by simp only; omega, Sub.fin 3 ⟨lr _, lr _, lr _, lr _, trivial⟩ (by rcases k with _ | _ | _ | k <;> first | rfl | omega) (by simp [slotsIn, objsIn, sget, keepS, AObj.inB, AV.inB, AV.inL, AV.inE, inE_map, inE_ints, inE_sc, -List.map_append, -List.map_take, -List.map_map]) (by simp [slotsIn, objsIn, sget, keepS, AObj.inB, AV.inB, AV.inL, AV.inE, inE_map, inE_ints, inE_sc, -List.map_append, -List.map_take, -List.map_map]) (by simp [he0])⟩
 ·
  have c1' := c1
  try simp only [qq] at c1'
  obtain rfl : k = 3 := by omega
  refine aw_exit (aw_seq (aw_region ?_))
  refine sq_ev rfl (ev_load_agg (lr _) rfl ty118 rfl) ?_
  refine sq_store rfl (lr _) (lr _) rfl rfl ty118 rfl rfl ?_
  refine sq_nil (aw_ret ?_)
  exact retQ_any (vs := [.agg _]) rfl rfl ⟨resVar_cell rfl rfl ty118 rfl, trivial⟩ (⟨.ret (.agg (fwc p l 3)), (by rw [fwR, ffail_none hno]), rfl, Less.eq (by simp)⟩)

theorem nforward_pure (p : Pl) (l : List Nat) (gp : GP p) (cv : CV p l) (h : ffail p l = none) : APure Tryz.prog 99 [played p l] (.agg (fwc p l 3)) :=
  (nforward_pan p l gp cv).pure (by simp [AV.pureL, AV.pureB, AV.pureE, pureE_map]) rfl fun x hx => by rw [fwR, h] at hx; exact ⟨_, hx, lr _⟩

set_option maxHeartbeats 2000000 in
/-- (kelir/night.played).backward -/
theorem nbackward_pure (p : Pl) (l : List Nat) (gp : GP p) (cv : CV p l) : APure Tryz.prog 100 [played p l] (.agg (bwc p l 3)) := by
 refine apure_of (rs := [.cell 2 120]) Tryz.func100 rfl rfl (Nat.le_of_ble_eq_true rfl) (by simp [AV.pureL, AV.pureB, AV.pureE, pureE_map]) (rfl) fun e0 he0 => ?_
 refine aw_seq (aw_region ?_)
 refine sq_box rfl (lr _) rfl ?_
 refine sq_alloc rfl z120 ?_
 refine sq_nil (aw_seq (aw_region ?_))
 refine sq_alloc rfl z120 ?_
 refine sq_nil (aw_seq (aw_seq (aw_region ?_)))
 refine asr (lr _) rfl ?_
 refine sq_nil (aw_block ?_)
 refine aw_loopk (ι := { j : Nat // j ≤ 3 }) [1, 2, 3] (fun i => [(4, I (2 - (i.1 : Int)))]) (fun H i => H.set 2 (.cells (bwc p l i.1))) (fun i => 3 - i.1) (⟨0, by omega⟩) ⟨(by exact less_int (by simp)), lr _, lr _, lr _, trivial⟩ rfl ?_
 rintro ⟨j, hj⟩
 dsimp only [keepS, St.put, sget, slotsOf, List.map_cons, List.map_nil, List.cons_append, List.nil_append, List.length_cons, List.length_nil, Nat.reduceBEq, Nat.reduceAdd, cond_true, cond_false]
 refine aw_seq (aw_seq (aw_region ?_))
 refine mvr (lr _) rfl ?_
 refine sq_ev rfl (ev_geq (lr _) (lr _)) ?_
 refine sq_nil ?_
 refine aw_cond (lr _) (fun c1 => ?_) (fun c1 => ?_)
 ·
  have c1' := c1
  try simp only [qq] at c1'
  have hj3 : j < 3 := by omega
  refine aw_skip (aw_seq (aw_block (aw_seq (aw_region ?_))))
  refine mvr (lr _) rfl ?_
  refine sq_ev rfl (ev_fieldAddr fo110_0 (lr _)) ?_
  refine sq_ev rfl (ev_load_agg (lr _) rfl ty27 rfl) ?_
  refine mvr (lr _) rfl ?_
  refine sq_ev rfl (ev_call en142 (lr _) (nwindow_pure p (2 - j) (by omega)) ⟨lr _, less_int (by omega), trivial⟩) ?_
  refine sq_ev rfl (ev_index_box (k := 2 - j) ar120 (lr _) (lr _) (by omega) (by omega)) ?_
  refine sq_store rfl (lr _) (lr _) rfl rfl ty23 rfl (by rcases j with _ | _ | _ | j <;> first | rfl | omega) ?_
  refine sq_nil (aw_seq (aw_region ?_))
  refine mvr (lr _) rfl ?_
  refine sq_ev rfl (ev_lss (lr _) (lr _)) ?_
  refine sq_nil ?_
  refine aw_cond (lr _) (fun c2 => ?_) (fun c2 => ?_)
  ·
   have c2' := c2
   try simp only [qq] at c2'
   obtain ⟨i, hi⟩ : ∃ i, j = i + 1 := ⟨j - 1, by omega⟩
   have b1 := bw_bd gp cv i
   have b2 : 0 ≤ pl p l (2 - i) ∧ pl p l (2 - i) ≤ 10000000 := lsum_bd gp (ofP_cv cv _)
   have b3 : 0 ≤ ph p l (2 - i) ∧ ph p l (2 - i) ≤ 10000000 := hsum_bd gp (ofP_cv cv _)
   refine aw_seq ?_
   refine aw_draw 7 mo (by kernel_rfl) ?_
   refine dr_ev rfl (ev_load_agg (lr _) rfl ty110 rfl) ?_
   refine dr_ev rfl (ev_load_agg (lr _) rfl ty110 rfl) ?_
   refine dr_ev rfl (ev_mv (v := .raw _) (lr _)) ?_
   refine dr_ev rfl (ev_add (lr _) (lr _) (wr (by omega) (by omega))) ?_
   refine dr_ev rfl (ev_call en136 (lr _) (nof_pure p l ((2 - i : Nat) : Int) gp cv) ⟨lr _, less_int (by omega), trivial⟩) ?_
   refine dr_ev rfl (ev_call en135 (lr _) (nlastsP_pure p l (2 - i) gp cv) ⟨lr _, lr _, trivial⟩) ?_
   refine dr_alloc rfl z23 ?_
   refine dr_end ?_
   refine sq_store rfl (lr _) (lr _) rfl rfl ty23 rfl rfl ?_
   refine sq_nil ?_
   refine aw_draw 23 mo (by kernel_rfl) ?_
   refine dr_ev rfl (ev_mv (v := .raw _) (lr _)) ?_
   refine dr_ev rfl (ev_mv (v := .raw _) (lr _)) ?_
   refine dr_ev rfl (ev_index_box (k := 1 - i) ar120 (lr _) (lr _) (by omega) (by omega)) ?_
   refine dr_ev rfl (ev_less (ev_load_agg (n := 2) (lr _) rfl ty23 (by subst hi; first | rfl | (rcases i with _ | _ | _ | i <;> first | rfl | omega))) (Less.eq (b := .agg [I (wl p (1 - i)), I (wh p (1 - i))]) (by subst hi; first | rfl | (rcases i with _ | _ | _ | i <;> first | rfl | omega)))) ?_
   refine dr_ev rfl (ev_mv (v := .raw _) (lr _)) ?_
   refine dr_ev rfl (ev_add (lr _) (lr _) (wr (by omega) (by omega))) ?_
   refine dr_ev rfl (ev_index_box (k := 2 - i) ar120 (lr _) (lr _) (by omega) (by omega)) ?_
   refine dr_ev rfl (ev_fieldAddr fo23_0 (lr _)) ?_
   refine dr_ev rfl (ev_load (v := I (bw p l i).1) (lr _) rfl ty3 (by subst hi; first | rfl | (rcases i with _ | _ | _ | i <;> first | rfl | omega))) ?_
   refine dr_ev rfl (ev_fieldAddr fo23_1 (lr _)) ?_
   refine dr_ev rfl (ev_load (lr _) rfl ty3 rfl) ?_
   refine dr_ev rfl (ev_sub (lr _) (lr _) (wr (by omega) (by omega))) ?_
   refine dr_ev rfl (ev_mv (v := .raw _) (lr _)) ?_
   refine dr_ev rfl (ev_add (lr _) (lr _) (wr (by omega) (by omega))) ?_
   refine dr_ev rfl (ev_index_box (k := 2 - i) ar120 (lr _) (lr _) (by omega) (by omega)) ?_
   refine dr_ev rfl (ev_fieldAddr fo23_1 (lr _)) ?_
   refine dr_ev rfl (ev_load (v := I (bw p l i).2) (lr _) rfl ty3 (by subst hi; first | rfl | (rcases i with _ | _ | _ | i <;> first | rfl | omega))) ?_
   refine dr_ev rfl (ev_fieldAddr fo23_0 (lr _)) ?_
   refine dr_ev rfl (ev_load (lr _) rfl ty3 rfl) ?_
   refine dr_ev rfl (ev_sub (lr _) (lr _) (wr (by omega) (by omega))) ?_
   refine dr_ev rfl (ev_build bi23 rfl) ?_
   refine dr_ev rfl (ev_call en98 (lr _) (nboth_pure _ _ _ _) ⟨lr _, lr _, trivial⟩) ?_
   refine dr_ev rfl (ev_index_box (k := 1 - i) ar120 (lr _) (lr _) (by omega) (by omega)) ?_
   refine dr_end ?_
   refine sq_store rfl (lr _) (lr _) rfl rfl ty23 rfl (by subst hi; first | rfl | (rcases i with _ | _ | _ | i <;> first | rfl | omega)) ?_
   refine sq_nil (aw_region ?_)
   refine mvr (lr _) rfl ?_
   refine sq_ev rfl (ev_sub (lr _) (lr _) (wr (by omega) (by omega))) ?_
   refine asr (lr _) rfl ?_
   refine sq_nil ?_
   exact ⟨⟨j + 1, by omega⟩, by simp only; omega, Sub.fin 3 ⟨(by exact less_int (by simp only; omega)), lr _, lr _, lr _, trivial⟩ (by subst hi; first | rfl | (rcases i with _ | _ | _ | i <;> first | rfl | omega)) (by simp [slotsIn, objsIn, sget, keepS, AObj.inB, AV.inB, AV.inL, AV.inE, inE_map, inE_ints, inE_sc, -List.map_append, -List.map_take, -List.map_map]) (by simp [slotsIn, objsIn, sget, keepS, AObj.inB, AV.inB, AV.inL, AV.inE, inE_map, inE_ints, inE_sc, -List.map_append, -List.map_take, -List.map_map]) (by simp [he0])⟩
  ·
   have c2' := c2
   try simp only [qq] at c2'
   have hi : j = 0 := by omega
   refine aw_skip (aw_region ?_)
   refine mvr (lr _) rfl ?_
   refine sq_ev rfl (ev_sub (lr _) (lr _) (wr (by omega) (by omega))) ?_
   refine asr (lr _) rfl ?_
   refine sq_nil ?_
   exact ⟨⟨j + 1, by omega⟩, by simp only; omega, Sub.fin 3 ⟨(by exact less_int (by simp only; omega)), lr _, lr _, lr _, trivial⟩ (by subst hi; first | rfl | (rcases i with _ | _ | _ | i <;> first | rfl | omega)) (by simp [slotsIn, objsIn, sget, keepS, AObj.inB, AV.inB, AV.inL, AV.inE, inE_map, inE_ints, inE_sc, -List.map_append, -List.map_take, -List.map_map]) (by simp [slotsIn, objsIn, sget, keepS, AObj.inB, AV.inB, AV.inL, AV.inE, inE_map, inE_ints, inE_sc, -List.map_append, -List.map_take, -List.map_map]) (by simp [he0])⟩
 ·
  have c1' := c1
  try simp only [qq] at c1'
  obtain rfl : j = 3 := by omega
  refine aw_exit (aw_seq (aw_region ?_))
  refine sq_ev rfl (ev_load_agg (lr _) rfl ty120 rfl) ?_
  refine sq_store rfl (lr _) (lr _) rfl rfl ty120 rfl rfl ?_
  refine sq_nil (aw_ret ?_)
  exact retQ_res (vs := [.agg _]) rfl rfl ⟨resVar_cell rfl rfl ty120 rfl, trivial⟩ (Less.eq (by simp))


end Go.Proofs.YtjghdbdiejaacaaGreatDoor

namespace Go.Proofs.YtjghdbdiejaacaaGreatDoor
open Go Go.Ab Ni
theorem bi190 : bldInfo Tryz.prog 190 = some ([], true, [], 0) := by kernel_rfl
theorem it3 : isIntT Tryz.prog 3 = true := by kernel_rfl
theorem mt189 : mapTy Tryz.prog 189 = some (3, 190) := by kernel_rfl
theorem ty190 : tySz Tryz.prog 190 = some (true, 0) := by kernel_rfl
theorem z190 : zeroOf Tryz.prog 190 = some [] := by kernel_rfl

def befP (p : Pl) (l : List Nat) (n : Nat) : List Nat := (ofP p l (scn p n).part).filter fun x => decide (x < n)
def behP (p : Pl) (l : List Nat) (n : Nat) : List Nat := (ofP p l (scn p n).part).filter fun x => decide (n < x)
theorem up_take (l : List Int) {k : Nat} (h : k < l.length) : l.take (k + 1) = l.take k ++ [l[k]] := List.take_succ_eq_append_getElem h
theorem tok2 {x : AObj} {a a' b b' : Nat} (h : a = a') (k : b = b') : [x, .tok a, .tok b] = [x, .tok a', .tok b'] := by rw [h, k]
theorem filter_cv {p : Pl} {l : List Nat} (cv : CV p l) (q : Nat → Bool) : CV p (l.filter q) := ⟨Nat.le_trans (List.length_filter_le _ _) cv.len, fun x hx => cv.rng x (List.mem_filter.1 hx).1⟩
set_option maxHeartbeats 2000000 in
/-- (kelir/night.played).others -/
theorem nothers_pure (p : Pl) (l : List Nat) (n : Nat) (gp : GP p) (cv : CV p l) (hn : n < p.scenes.length) : APure Tryz.prog 145 [played p l, I n] (.tup [nats (befP p l n), nats (behP p l n)]) := by
  refine apure_of (rs := [.tmp 4, .tmp 5]) Tryz.func145 rfl rfl (Nat.le_of_ble_eq_true rfl) (by simp [AV.pureL, AV.pureB, AV.pureE, pureE_map]) (by simp [AV.pureL, AV.pureB, AV.pureE, pureE_map]) fun e0 he0 => ?_
  refine aw_seq (aw_region ?_)
  refine sq_box rfl (lr _) rfl ?_
  refine asr (lr _) rfl ?_
  refine asr (lr _) rfl ?_
  refine sq_nil (aw_seq (aw_seq ?_))
  have he := scn_eq hn
  have cvo := ofP_cv cv (scn p n).part
  refine aw_draw 11 mo (by kernel_rfl) ?_
  refine dr_ev rfl (ev_load_agg (lr _) rfl ty110 rfl) ?_
  refine dr_ev rfl (ev_fieldAddr fo110_0 (lr _)) ?_
  refine dr_ev rfl (ev_fieldAddr fo27_3 (lr _)) ?_
  refine dr_ev rfl (ev_load (lr _) rfl ty25 rfl) ?_
  refine dr_ev rfl (ev_mv (v := .raw _) (lr _)) ?_
  refine dr_ev rfl (ev_index_map sl25 (lr _) (lr _) rfl (by omega)) ?_
  refine dr_ev rfl (ev_fieldAddr_i fo84_0 (lr _)) ?_
  refine dr_ev rfl (ev_load_i (lr _) ty3 rfl) ?_
  refine dr_ev rfl (ev_call en136 (lr _) (nof_pure p l (scn p n).part gp cv) ⟨lr _, less_int (congrArg Sc.part he).symm, trivial⟩) ?_
  refine dr_ev rfl (ev_len_map sl34 (lr _)) ?_
  refine dr_ev rfl (ev_mv (v := .raw _) (lr _)) ?_
  refine dr_end (sq_nil (aw_block ?_))
  refine aw_sub (sub_token 4 1 (lr _)) ?_
  refine aw_sub (sub_token 5 1 (lr _)) ?_
  refine aw_loopk (ι := { k : Nat // k ≤ (ofP p l (scn p n).part).length }) [1, 16, 17] (fun i => [(18, I i.1), (4, .own 1 1 ((((ofP p l (scn p n).part).take i.1).filter fun x => decide (x < n)).map (fun (x : Nat) => [I x]))), (5, .own 2 1 ((((ofP p l (scn p n).part).take i.1).filter fun x => decide (n < x)).map (fun (x : Nat) => [I x])))]) (fun H i => (H.set 1 (.tok ((((ofP p l (scn p n).part).take i.1).filter fun x => decide (x < n)).map (fun (x : Nat) => [I x])).length)).set 2 (.tok ((((ofP p l (scn p n).part).take i.1).filter fun x => decide (n < x)).map (fun (x : Nat) => [I x])).length)) (fun i => (ofP p l (scn p n).part).length - i.1) (⟨0, Nat.zero_le _⟩) ⟨lr _, lr _, lr _, lr _, lr _, lr _, trivial⟩ rfl ?_
  rintro ⟨k, hk⟩
  dsimp only [keepS, St.put, sget, slotsOf, List.map_cons, List.map_nil, List.cons_append, List.nil_append, List.length_cons, List.length_nil, Nat.reduceBEq, Nat.reduceAdd, cond_true, cond_false]
  have hl1 := cvo.len
  have hf1 := ft_len (fun x => decide (x < n)) (ofP p l (scn p n).part) k
  have hf2 := ft_len (fun x => decide (n < x)) (ofP p l (scn p n).part) k
  refine aw_seq (aw_region ?_)
  refine sq_ev rfl (ev_lss (lr _) (lr _)) ?_
  refine sq_nil (aw_seq ?_)
  refine aw_cond (lr _) (fun c1 => ?_) (fun c1 => ?_)
  · skip
    have c1' := c1
    try simp only [qq] at c1'
    have hk' : k < (ofP p l (scn p n).part).length := by omega
    refine aw_skip (aw_seq (aw_block (aw_seq (aw_region ?_))))
    refine sq_ev rfl (ev_index_map sl34 (lr _) (lr _) rfl (by omega)) ?_
    refine sq_ev rfl (ev_load_i (lr _) ty3 rfl) ?_
    refine asr (lr _) rfl ?_
    refine sq_nil (aw_block (aw_seq (aw_region ?_)))
    refine mvr (lr _) rfl ?_
    refine mvr (lr _) rfl ?_
    refine sq_ev rfl (ev_lss (lr _) (lr _)) ?_
    refine asr (lr _) rfl ?_
    refine sq_nil ?_
    refine aw_cond (lr _) (fun c2 => ?_) (fun c2 => ?_)
    · skip
      have c2' := c2
      try simp only [qq] at c2'
      have eA : (((ofP p l (scn p n).part).take (k + 1)).filter fun x => decide (x < n)).map (fun (x : Nat) => [I x]) = (((ofP p l (scn p n).part).take k).filter fun x => decide (x < n)).map (fun (x : Nat) => [I x]) ++ [[I (ofP p l (scn p n).part)[k]]] := by rw [filter_take_succ _ hk', if_pos (by simp; omega), List.map_append]; rfl
      have eB : (((ofP p l (scn p n).part).take (k + 1)).filter fun x => decide (n < x)).map (fun (x : Nat) => [I x]) = (((ofP p l (scn p n).part).take k).filter fun x => decide (n < x)).map (fun (x : Nat) => [I x]) := by rw [filter_take_succ _ hk', if_neg (by simp; omega), List.append_nil]
      refine aw_region ?_
      refine sq_ev rfl (ev_mv (v := .own _ _ _) (lr _)) ?_
      refine mvr (lr _) rfl ?_
      refine sq_ev rfl (ev_buildSlice (es := [[_]]) sf34 rfl rfl rfl rfl) ?_
      refine sq_append rfl sf34 Tryz.underlying34 rfl rfl (less_slx _ _) (Nat.succ_pos _) (by simp; omega) (by simp; omega) ?_
      refine sq_ev rfl (ev_as (v := .own _ _ _) (lr _)) ?_
      refine sq_nil (aw_region ?_)
      refine sq_ev rfl (ev_add (lr _) (lr _) (wr (by omega) (by omega))) ?_
      refine mvr (lr _) rfl ?_
      refine sq_nil ?_
      exact ⟨⟨k + 1, by omega⟩, by simp only; omega, Sub.fin 3 ⟨lr _, Less.eq (b := .own 1 1 ((((ofP p l (scn p n).part).take (k + 1)).filter fun x => decide (x < n)).map (fun (x : Nat) => [I x]))) (by rw [eA] <;> rfl), Less.eq (b := .own 2 1 ((((ofP p l (scn p n).part).take (k + 1)).filter fun x => decide (n < x)).map (fun (x : Nat) => [I x]))) (by rw [eB] <;> rfl), lr _, lr _, lr _, trivial⟩ (tok2 (congrArg List.length eA.symm) (congrArg List.length eB.symm)) (by simp [slotsIn, objsIn, sget, keepS, AObj.inB, AV.inB, AV.inL, AV.inE, inE_map, inE_nats1, inE_sc, -List.map_append, -List.map_take, -List.map_map]) (by simp [slotsIn, objsIn, sget, keepS, AObj.inB, AV.inB, AV.inL, AV.inE, inE_map, inE_nats1, inE_sc, -List.map_append, -List.map_take, -List.map_map]) (by simp [he0])⟩
    · skip
      have c2' := c2
      try simp only [qq] at c2'
      refine aw_seq (aw_region ?_)
      refine mvr (lr _) rfl ?_
      refine mvr (lr _) rfl ?_
      refine sq_ev rfl (ev_gtr (lr _) (lr _)) ?_
      refine asr (lr _) rfl ?_
      refine sq_nil ?_
      refine aw_cond (lr _) (fun c3 => ?_) (fun c3 => ?_)
      · skip
        have c3' := c3
        try simp only [qq] at c3'
        have eA : (((ofP p l (scn p n).part).take (k + 1)).filter fun x => decide (x < n)).map (fun (x : Nat) => [I x]) = (((ofP p l (scn p n).part).take k).filter fun x => decide (x < n)).map (fun (x : Nat) => [I x]) := by rw [filter_take_succ _ hk', if_neg (by simp; omega), List.append_nil]
        have eB : (((ofP p l (scn p n).part).take (k + 1)).filter fun x => decide (n < x)).map (fun (x : Nat) => [I x]) = (((ofP p l (scn p n).part).take k).filter fun x => decide (n < x)).map (fun (x : Nat) => [I x]) ++ [[I (ofP p l (scn p n).part)[k]]] := by rw [filter_take_succ _ hk', if_pos (by simp; omega), List.map_append]; rfl
        refine aw_region ?_
        refine sq_ev rfl (ev_mv (v := .own _ _ _) (lr _)) ?_
        refine mvr (lr _) rfl ?_
        refine sq_ev rfl (ev_buildSlice (es := [[_]]) sf34 rfl rfl rfl rfl) ?_
        refine sq_append rfl sf34 Tryz.underlying34 rfl rfl (less_slx _ _) (Nat.succ_pos _) (by simp; omega) (by simp; omega) ?_
        refine sq_ev rfl (ev_as (v := .own _ _ _) (lr _)) ?_
        refine sq_nil (aw_region ?_)
        refine sq_ev rfl (ev_add (lr _) (lr _) (wr (by omega) (by omega))) ?_
        refine mvr (lr _) rfl ?_
        refine sq_nil ?_
        exact ⟨⟨k + 1, by omega⟩, by simp only; omega, Sub.fin 3 ⟨lr _, Less.eq (b := .own 1 1 ((((ofP p l (scn p n).part).take (k + 1)).filter fun x => decide (x < n)).map (fun (x : Nat) => [I x]))) (by rw [eA] <;> rfl), Less.eq (b := .own 2 1 ((((ofP p l (scn p n).part).take (k + 1)).filter fun x => decide (n < x)).map (fun (x : Nat) => [I x]))) (by rw [eB] <;> rfl), lr _, lr _, lr _, trivial⟩ (tok2 (congrArg List.length eA.symm) (congrArg List.length eB.symm)) (by simp [slotsIn, objsIn, sget, keepS, AObj.inB, AV.inB, AV.inL, AV.inE, inE_map, inE_nats1, inE_sc, -List.map_append, -List.map_take, -List.map_map]) (by simp [slotsIn, objsIn, sget, keepS, AObj.inB, AV.inB, AV.inL, AV.inE, inE_map, inE_nats1, inE_sc, -List.map_append, -List.map_take, -List.map_map]) (by simp [he0])⟩
      · skip
        have c3' := c3
        try simp only [qq] at c3'
        have eA : (((ofP p l (scn p n).part).take (k + 1)).filter fun x => decide (x < n)).map (fun (x : Nat) => [I x]) = (((ofP p l (scn p n).part).take k).filter fun x => decide (x < n)).map (fun (x : Nat) => [I x]) := by rw [filter_take_succ _ hk', if_neg (by simp; omega), List.append_nil]
        have eB : (((ofP p l (scn p n).part).take (k + 1)).filter fun x => decide (n < x)).map (fun (x : Nat) => [I x]) = (((ofP p l (scn p n).part).take k).filter fun x => decide (n < x)).map (fun (x : Nat) => [I x]) := by rw [filter_take_succ _ hk', if_neg (by simp; omega), List.append_nil]
        refine aw_skip (aw_region ?_)
        refine sq_ev rfl (ev_add (lr _) (lr _) (wr (by omega) (by omega))) ?_
        refine mvr (lr _) rfl ?_
        refine sq_nil ?_
        exact ⟨⟨k + 1, by omega⟩, by simp only; omega, Sub.fin 3 ⟨lr _, Less.eq (b := .own 1 1 ((((ofP p l (scn p n).part).take (k + 1)).filter fun x => decide (x < n)).map (fun (x : Nat) => [I x]))) (by rw [eA] <;> rfl), Less.eq (b := .own 2 1 ((((ofP p l (scn p n).part).take (k + 1)).filter fun x => decide (n < x)).map (fun (x : Nat) => [I x]))) (by rw [eB] <;> rfl), lr _, lr _, lr _, trivial⟩ (tok2 (congrArg List.length eA.symm) (congrArg List.length eB.symm)) (by simp [slotsIn, objsIn, sget, keepS, AObj.inB, AV.inB, AV.inL, AV.inE, inE_map, inE_nats1, inE_sc, -List.map_append, -List.map_take, -List.map_map]) (by simp [slotsIn, objsIn, sget, keepS, AObj.inB, AV.inB, AV.inL, AV.inE, inE_map, inE_nats1, inE_sc, -List.map_append, -List.map_take, -List.map_map]) (by simp [he0])⟩
  · skip
    have c1' := c1
    try simp only [qq] at c1'
    obtain rfl : k = (ofP p l (scn p n).part).length := by omega
    refine aw_exit (aw_seq (aw_region ?_))
    refine sq_ev rfl (ev_mv (v := .own _ _ _) (lr _)) ?_
    refine sq_ev rfl (ev_mv (v := .own _ _ _) (lr _)) ?_
    refine sq_ev rfl (ev_as (v := .own _ _ _) (lr _)) ?_
    refine sq_ev rfl (ev_as (v := .own _ _ _) (lr _)) ?_
    refine sq_nil (aw_ret ?_)
    exact retQ_pure (v := .tup [.own _ _ _, .own _ _ _]) rfl rfl (less_tup ⟨Less.trans (less_own _ _ _) (Less.eq (by simp [befP])), Less.trans (less_own _ _ _) (Less.eq (by simp [behP])), trivial⟩)

set_option maxHeartbeats 2000000 in
/-- kelir/night.isChoice -/
theorem nischoice_pure (p : Pl) (l : List Int) (hp : p.scenes.length ≤ 1000000) (hl : l.length ≤ 1000000) : APure Tryz.prog 140 [plan p, ints l] (B (isCh p l)) := by
 refine apure_of (rs := [.tmp 4]) Tryz.func140 rfl rfl (Nat.le_of_ble_eq_true rfl) (by simp [AV.pureL, AV.pureB, AV.pureE, pureE_map]) (rfl) fun e0 he0 => ?_
 refine aw_seq (aw_region ?_)
 refine sq_box rfl (lr _) rfl ?_
 refine asr (lr _) rfl ?_
 refine sq_nil (aw_seq (aw_region ?_))
 refine sq_makeMap rfl ?_
 refine sq_ev rfl (ev_as (v := .mp _) (lr _)) ?_
 refine sq_nil (aw_seq (aw_seq (aw_region ?_)))
 refine sq_ev rfl (ev_mv (v := .sl _ _) (lr _)) ?_
 refine sq_ev rfl (ev_len_map sl34 (lr _)) ?_
 refine mvr (lr _) rfl ?_
 refine sq_nil (aw_block ?_)
 refine aw_loopk (ι := { k : Nat // k ≤ l.length }) [2, 5, 15, 16] (fun i => [(17, I i.1)]) (fun H i => H.set 1 (.map (imap (setM (l.take i.1))))) (fun i => l.length - i.1) (⟨0, Nat.zero_le _⟩) ⟨lr _, lr _, lr _, lr _, lr _, trivial⟩ rfl ?_
 rintro ⟨k, hk⟩
 dsimp only [keepS, St.put, sget, slotsOf, List.map_cons, List.map_nil, List.cons_append, List.nil_append, List.length_cons, List.length_nil, Nat.reduceBEq, Nat.reduceAdd, cond_true, cond_false]
 refine aw_seq (aw_region ?_)
 refine sq_ev rfl (ev_lss (lr _) (lr _)) ?_
 refine sq_nil (aw_seq ?_)
 refine aw_cond (lr _) (fun c1 => ?_) (fun c1 => ?_)
 ·
  have c1' := c1
  try simp only [qq] at c1'
  have hk' : k < l.length := by omega
  refine aw_skip (aw_seq (aw_block (aw_seq (aw_region ?_))))
  refine sq_ev rfl (ev_index_map sl34 (lr _) (lr _) rfl (by omega)) ?_
  refine sq_ev rfl (ev_load_i (lr _) ty3 rfl) ?_
  refine asr (lr _) rfl ?_
  refine sq_nil (aw_region ?_)
  refine sq_ev rfl (ev_mv (v := .mp _) (lr _)) ?_
  refine mvr (lr _) rfl ?_
  refine sq_ev rfl (ev_build bi190 rfl) ?_
  refine sq_mapUpdate rfl mt189 it3 (lr _) (lr _) less_unit rfl (setM_nodup _) ?_
  refine sq_nil (aw_region ?_)
  refine sq_ev rfl (ev_add (lr _) (lr _) (wr (by omega) (by omega))) ?_
  refine mvr (lr _) rfl ?_
  refine sq_nil ?_
  exact ⟨⟨k + 1, by omega⟩, by simp only; omega, Sub.fin 2 ⟨lr _, lr _, lr _, lr _, lr _, trivial⟩ (by rw [up_take l hk', ← setM_put]; rfl) (by simp [slotsIn, objsIn, sget, keepS, AObj.inB, AV.inB, AV.inL, AV.inE, inE_map]) (by simp [slotsIn, objsIn, sget, keepS, AObj.inB, AV.inB, AV.inL, AV.inE, inE_map]) (by simp [he0])⟩
 ·
  have c1' := c1
  try simp only [qq] at c1'
  obtain rfl : k = l.length := by omega
  refine aw_exit (aw_seq (aw_seq (aw_region ?_)))
  refine sq_ev rfl (ev_fieldAddr fo27_3 (lr _)) ?_
  refine sq_ev rfl (ev_load (lr _) rfl ty25 rfl) ?_
  refine sq_ev rfl (ev_len_map sl25 (lr _)) ?_
  refine mvr (lr _) rfl ?_
  refine sq_nil (aw_block ?_)
  refine aw_loopk (ι := { k : Nat // k ≤ p.scenes.length ∧ ∀ i, (h : i < p.scenes.length) → i < k → chBad p l i h = false }) [5, 26, 27] (fun i => [(28, I i.1)]) (fun H i => H) (fun i => p.scenes.length - i.1) (⟨0, Nat.zero_le _, by omega⟩) ⟨lr _, lr _, lr _, lr _, trivial⟩ rfl ?_
  rintro ⟨k, hk, hok⟩
  dsimp only [keepS, St.put, sget, slotsOf, List.map_cons, List.map_nil, List.cons_append, List.nil_append, List.length_cons, List.length_nil, Nat.reduceBEq, Nat.reduceAdd, cond_true, cond_false]
  refine aw_seq (aw_region ?_)
  refine sq_ev rfl (ev_lss (lr _) (lr _)) ?_
  refine sq_nil (aw_seq ?_)
  refine aw_cond (lr _) (fun c2 => ?_) (fun c2 => ?_)
  ·
   have c2' := c2
   try simp only [qq] at c2'
   refine aw_skip (aw_seq (aw_block (aw_seq (aw_region ?_))))
   refine mvr (lr _) rfl ?_
   refine sq_ev rfl (ev_index_map sl25 (lr _) (lr _) rfl (by omega)) ?_
   refine sq_ev rfl (ev_load_agg_i (lr _) ty84 (Nat.le_of_ble_eq_true rfl)) ?_
   refine sq_alloc rfl z84 ?_
   refine asr (lr _) rfl ?_
   refine sq_store rfl (lr _) (lr _) rfl rfl ty84 rfl rfl ?_
   refine sq_nil (aw_seq (aw_region ?_))
   refine sq_ev rfl (ev_mv (v := .mp _) (lr _)) ?_
   refine mvr (lr _) rfl ?_
   refine sq_ev rfl (ev_lookup_set mt189 it3 z190 (lr _) (lr _) rfl) ?_
   refine sq_ev rfl (ev_mv (v := .tup _) (lr _)) ?_
   refine sq_ev rfl (ev_extract (lr _) rfl) ?_
   refine sq_ev rfl (ev_extract (lr _) rfl) ?_
   refine sq_alloc rfl z190 ?_
   refine sq_store rfl (lr _) (lr _) rfl rfl ty190 rfl rfl ?_
   refine asr (lr _) rfl ?_
   refine sq_nil (aw_seq (aw_region ?_))
   refine sq_ev rfl (ev_mv (v := .mp _) (lr _)) ?_
   refine sq_ev rfl (ev_fieldAddr fo84_4 (lr _)) ?_
   refine sq_ev rfl (ev_load (lr _) rfl ty3 rfl) ?_
   refine sq_ev rfl (ev_lookup_set mt189 it3 z190 (lr _) (lr _) rfl) ?_
   refine sq_ev rfl (ev_mv (v := .tup _) (lr _)) ?_
   refine sq_ev rfl (ev_extract (lr _) rfl) ?_
   refine sq_ev rfl (ev_extract (lr _) rfl) ?_
   refine sq_alloc rfl z190 ?_
   refine sq_store rfl (lr _) (lr _) rfl rfl ty190 rfl rfl ?_
   refine asr (lr _) rfl ?_
   refine sq_nil (aw_seq (aw_region ?_))
   refine mvr (lr _) rfl ?_
   refine sq_ev rfl (ev_not (lr _)) ?_
   refine mvr (lr _) rfl ?_
   refine sq_split 48 (lr _) (fun g3 => ?_) (fun g3 => ?_)
   ·
    have g3' := g3
    try simp only [qq] at g3'
    refine sq_yes rfl rfl (less_b g3) rfl (ev_fieldAddr fo84_3 (lr _)) ?_
    refine sq_yes rfl rfl (less_b g3) rfl (ev_load (lr _) rfl ty4 rfl) ?_
    refine sq_yes rfl rfl (less_b g3) rfl (ev_not (lr _)) ?_
    refine sq_ev rfl (ev_pickT (v := .raw _) (less_b g3) (lr _)) ?_
    refine mvr (lr _) rfl ?_
    refine sq_split 53 (lr _) (fun g4 => ?_) (fun g4 => ?_)
    ·
     have g4' := g4
     try simp only [qq] at g4'
     refine sq_no rfl rfl (less_b g4) rfl rfl ?_
     refine sq_no rfl rfl (less_b g4) rfl rfl ?_
     refine sq_no rfl rfl (lr _) rfl rfl ?_
     refine sq_no rfl rfl (lr _) rfl rfl ?_
     refine sq_no rfl rfl (lr _) rfl rfl ?_
     refine sq_no rfl rfl (less_b g4) rfl rfl ?_
     refine sq_no rfl rfl (less_b g4) rfl rfl ?_
     refine sq_no rfl rfl (lr _) rfl rfl ?_
     refine sq_no rfl rfl (lr _) rfl rfl ?_
     refine sq_no rfl rfl (less_b g4) rfl rfl ?_
     refine sq_ev rfl (ev_pickT (v := .raw _) (less_b g4) (lr _)) ?_
     refine sq_nil ?_
     refine aw_true (lr _) ?_
     refine aw_seq (aw_region ?_)
     refine asr (lr _) rfl ?_
     refine sq_nil (aw_ret ?_)
     exact retQ_pure (v := .raw _) rfl rfl (Less.eq (by rw [isCh, okAll_bad (i := k) (by omega) (by first | (simp [chBad, has, *]; done) | (simp_all [chBad, has]; done))]))
    ·
     have g4' := g4
     try simp only [qq] at g4'
     refine sq_yes rfl rfl (less_b g4) rfl (ev_mv (v := .raw _) (lr _)) ?_
     refine sq_yes rfl rfl (less_b g4) rfl (ev_mv (v := .raw _) (lr _)) ?_
     refine sq_split 55 (lr _) (fun g5 => ?_) (fun g5 => ?_)
     ·
      have g5' := g5
      try simp only [qq] at g5'
      refine sq_yes rfl rfl (less_b g5) rfl (ev_fieldAddr fo84_4 (lr _)) ?_
      refine sq_yes rfl rfl (less_b g5) rfl (ev_load (lr _) rfl ty3 rfl) ?_
      refine sq_yes rfl rfl (less_b g5) rfl (ev_geq (lr _) (lr _)) ?_
      refine sq_yes rfl rfl (less_b g4) rfl (ev_pickT (v := .raw _) (less_b g5) (lr _)) ?_
      refine sq_yes rfl rfl (less_b g4) rfl (ev_mv (v := .raw _) (lr _)) ?_
      refine sq_split 60 (lr _) (fun g6 => ?_) (fun g6 => ?_)
      ·
       have g6' := g6
       try simp only [qq] at g6'
       refine sq_yes rfl rfl (less_b g6) rfl (ev_mv (v := .raw _) (lr _)) ?_
       refine sq_yes rfl rfl (less_b g6) rfl (ev_not (lr _)) ?_
       refine sq_yes rfl rfl (less_b g4) rfl (ev_pickT (v := .raw _) (less_b g6) (lr _)) ?_
       refine sq_ev rfl (ev_pickF (v := .raw _) (less_b g4) (lr _)) ?_
       refine sq_nil ?_
       refine aw_cond (lr _) (fun c7 => ?_) (fun c7 => ?_)
       ·
        have c7' := c7
        try simp only [qq] at c7'
        refine aw_seq (aw_region ?_)
        refine asr (lr _) rfl ?_
        refine sq_nil (aw_ret ?_)
        exact retQ_pure (v := .raw _) rfl rfl (Less.eq (by rw [isCh, okAll_bad (i := k) (by omega) (by first | (simp [chBad, has, *]; done) | (simp_all [chBad, has]; done))]))
       ·
        have c7' := c7
        try simp only [qq] at c7'
        refine aw_skip (aw_region ?_)
        refine sq_ev rfl (ev_add (lr _) (lr _) (wr (by omega) (by omega))) ?_
        refine mvr (lr _) rfl ?_
        refine sq_nil ?_
        have hgood : chBad p l k (by omega) = false := by first | (simp [chBad, has, *]; done) | (simp_all [chBad, has]; done) | (simp_all [chBad, has]; omega)
        exact ⟨⟨k + 1, by omega, fun i h hi => (by by_cases e : i = k; (subst e; exact hgood); exact hok i h (by omega))⟩, by simp only; omega, Sub.fin 2 ⟨lr _, lr _, lr _, lr _, trivial⟩ rfl (by simp [slotsIn, objsIn, sget, keepS, AObj.inB, AV.inB, AV.inL, AV.inE, inE_map]) (by simp [slotsIn, objsIn, sget, keepS, AObj.inB, AV.inB, AV.inL, AV.inE, inE_map]) (by simp [he0])⟩
      ·
       have g6' := g6
       try simp only [qq] at g6'
       refine sq_no rfl rfl (less_b g6) rfl rfl ?_
       refine sq_no rfl rfl (less_b g6) rfl rfl ?_
       refine sq_yes rfl rfl (less_b g4) rfl (ev_pickF (v := .raw _) (less_b g6) (lr _)) ?_
       refine sq_ev rfl (ev_pickF (v := .raw _) (less_b g4) (lr _)) ?_
       refine sq_nil ?_
       refine aw_false (lr _) ?_
       refine aw_skip (aw_region ?_)
       refine sq_ev rfl (ev_add (lr _) (lr _) (wr (by omega) (by omega))) ?_
       refine mvr (lr _) rfl ?_
       refine sq_nil ?_
       have hgood : chBad p l k (by omega) = false := by first | (simp [chBad, has, *]; done) | (simp_all [chBad, has]; done) | (simp_all [chBad, has]; omega)
       exact ⟨⟨k + 1, by omega, fun i h hi => (by by_cases e : i = k; (subst e; exact hgood); exact hok i h (by omega))⟩, by simp only; omega, Sub.fin 2 ⟨lr _, lr _, lr _, lr _, trivial⟩ rfl (by simp [slotsIn, objsIn, sget, keepS, AObj.inB, AV.inB, AV.inL, AV.inE, inE_map]) (by simp [slotsIn, objsIn, sget, keepS, AObj.inB, AV.inB, AV.inL, AV.inE, inE_map]) (by simp [he0])⟩
     ·
      have g5' := g5
      try simp only [qq] at g5'
      refine sq_no rfl rfl (less_b g5) rfl rfl ?_
      refine sq_no rfl rfl (less_b g5) rfl rfl ?_
      refine sq_no rfl rfl (less_b g5) rfl rfl ?_
      refine sq_yes rfl rfl (less_b g4) rfl (ev_pickF (v := .raw _) (less_b g5) (lr _)) ?_
      refine sq_yes rfl rfl (less_b g4) rfl (ev_mv (v := .raw _) (lr _)) ?_
      refine sq_no rfl rfl (lr _) rfl rfl ?_
      refine sq_no rfl rfl (lr _) rfl rfl ?_
      refine sq_yes rfl rfl (less_b g4) rfl (ev_pickF (v := .raw _) (lr _) (lr _)) ?_
      refine sq_ev rfl (ev_pickF (v := .raw _) (less_b g4) (lr _)) ?_
      refine sq_nil ?_
      refine aw_false (lr _) ?_
      refine aw_skip (aw_region ?_)
      refine sq_ev rfl (ev_add (lr _) (lr _) (wr (by omega) (by omega))) ?_
      refine mvr (lr _) rfl ?_
      refine sq_nil ?_
      have hgood : chBad p l k (by omega) = false := by first | (simp [chBad, has, *]; done) | (simp_all [chBad, has]; done) | (simp_all [chBad, has]; omega)
      exact ⟨⟨k + 1, by omega, fun i h hi => (by by_cases e : i = k; (subst e; exact hgood); exact hok i h (by omega))⟩, by simp only; omega, Sub.fin 2 ⟨lr _, lr _, lr _, lr _, trivial⟩ rfl (by simp [slotsIn, objsIn, sget, keepS, AObj.inB, AV.inB, AV.inL, AV.inE, inE_map]) (by simp [slotsIn, objsIn, sget, keepS, AObj.inB, AV.inB, AV.inL, AV.inE, inE_map]) (by simp [he0])⟩
   ·
    have g3' := g3
    try simp only [qq] at g3'
    refine sq_no rfl rfl (less_b g3) rfl rfl ?_
    refine sq_no rfl rfl (less_b g3) rfl rfl ?_
    refine sq_no rfl rfl (less_b g3) rfl rfl ?_
    refine sq_ev rfl (ev_pickF (v := .raw _) (less_b g3) (lr _)) ?_
    refine mvr (lr _) rfl ?_
    refine sq_yes rfl rfl (lr _) rfl (ev_mv (v := .raw _) (lr _)) ?_
    refine sq_yes rfl rfl (lr _) rfl (ev_mv (v := .raw _) (lr _)) ?_
    refine sq_split 55 (lr _) (fun g8 => ?_) (fun g8 => ?_)
    ·
     have g8' := g8
     try simp only [qq] at g8'
     refine sq_yes rfl rfl (less_b g8) rfl (ev_fieldAddr fo84_4 (lr _)) ?_
     refine sq_yes rfl rfl (less_b g8) rfl (ev_load (lr _) rfl ty3 rfl) ?_
     refine sq_yes rfl rfl (less_b g8) rfl (ev_geq (lr _) (lr _)) ?_
     refine sq_yes rfl rfl (lr _) rfl (ev_pickT (v := .raw _) (less_b g8) (lr _)) ?_
     refine sq_yes rfl rfl (lr _) rfl (ev_mv (v := .raw _) (lr _)) ?_
     refine sq_split 60 (lr _) (fun g9 => ?_) (fun g9 => ?_)
     ·
      have g9' := g9
      try simp only [qq] at g9'
      refine sq_yes rfl rfl (less_b g9) rfl (ev_mv (v := .raw _) (lr _)) ?_
      refine sq_yes rfl rfl (less_b g9) rfl (ev_not (lr _)) ?_
      refine sq_yes rfl rfl (lr _) rfl (ev_pickT (v := .raw _) (less_b g9) (lr _)) ?_
      refine sq_ev rfl (ev_pickF (v := .raw _) (lr _) (lr _)) ?_
      refine sq_nil ?_
      refine aw_cond (lr _) (fun c10 => ?_) (fun c10 => ?_)
      ·
       have c10' := c10
       try simp only [qq] at c10'
       refine aw_seq (aw_region ?_)
       refine asr (lr _) rfl ?_
       refine sq_nil (aw_ret ?_)
       exact retQ_pure (v := .raw _) rfl rfl (Less.eq (by rw [isCh, okAll_bad (i := k) (by omega) (by first | (simp [chBad, has, *]; done) | (simp_all [chBad, has]; done))]))
      ·
       have c10' := c10
       try simp only [qq] at c10'
       refine aw_skip (aw_region ?_)
       refine sq_ev rfl (ev_add (lr _) (lr _) (wr (by omega) (by omega))) ?_
       refine mvr (lr _) rfl ?_
       refine sq_nil ?_
       have hgood : chBad p l k (by omega) = false := by first | (simp [chBad, has, *]; done) | (simp_all [chBad, has]; done) | (simp_all [chBad, has]; omega)
       exact ⟨⟨k + 1, by omega, fun i h hi => (by by_cases e : i = k; (subst e; exact hgood); exact hok i h (by omega))⟩, by simp only; omega, Sub.fin 2 ⟨lr _, lr _, lr _, lr _, trivial⟩ rfl (by simp [slotsIn, objsIn, sget, keepS, AObj.inB, AV.inB, AV.inL, AV.inE, inE_map]) (by simp [slotsIn, objsIn, sget, keepS, AObj.inB, AV.inB, AV.inL, AV.inE, inE_map]) (by simp [he0])⟩
     ·
      have g9' := g9
      try simp only [qq] at g9'
      refine sq_no rfl rfl (less_b g9) rfl rfl ?_
      refine sq_no rfl rfl (less_b g9) rfl rfl ?_
      refine sq_yes rfl rfl (lr _) rfl (ev_pickF (v := .raw _) (less_b g9) (lr _)) ?_
      refine sq_ev rfl (ev_pickF (v := .raw _) (lr _) (lr _)) ?_
      refine sq_nil ?_
      refine aw_false (lr _) ?_
      refine aw_skip (aw_region ?_)
      refine sq_ev rfl (ev_add (lr _) (lr _) (wr (by omega) (by omega))) ?_
      refine mvr (lr _) rfl ?_
      refine sq_nil ?_
      have hgood : chBad p l k (by omega) = false := by first | (simp [chBad, has, *]; done) | (simp_all [chBad, has]; done) | (simp_all [chBad, has]; omega)
      exact ⟨⟨k + 1, by omega, fun i h hi => (by by_cases e : i = k; (subst e; exact hgood); exact hok i h (by omega))⟩, by simp only; omega, Sub.fin 2 ⟨lr _, lr _, lr _, lr _, trivial⟩ rfl (by simp [slotsIn, objsIn, sget, keepS, AObj.inB, AV.inB, AV.inL, AV.inE, inE_map]) (by simp [slotsIn, objsIn, sget, keepS, AObj.inB, AV.inB, AV.inL, AV.inE, inE_map]) (by simp [he0])⟩
    ·
     have g8' := g8
     try simp only [qq] at g8'
     refine sq_no rfl rfl (less_b g8) rfl rfl ?_
     refine sq_no rfl rfl (less_b g8) rfl rfl ?_
     refine sq_no rfl rfl (less_b g8) rfl rfl ?_
     refine sq_yes rfl rfl (lr _) rfl (ev_pickF (v := .raw _) (less_b g8) (lr _)) ?_
     refine sq_yes rfl rfl (lr _) rfl (ev_mv (v := .raw _) (lr _)) ?_
     refine sq_no rfl rfl (lr _) rfl rfl ?_
     refine sq_no rfl rfl (lr _) rfl rfl ?_
     refine sq_yes rfl rfl (lr _) rfl (ev_pickF (v := .raw _) (lr _) (lr _)) ?_
     refine sq_ev rfl (ev_pickF (v := .raw _) (lr _) (lr _)) ?_
     refine sq_nil ?_
     refine aw_false (lr _) ?_
     refine aw_skip (aw_region ?_)
     refine sq_ev rfl (ev_add (lr _) (lr _) (wr (by omega) (by omega))) ?_
     refine mvr (lr _) rfl ?_
     refine sq_nil ?_
     have hgood : chBad p l k (by omega) = false := by first | (simp [chBad, has, *]; done) | (simp_all [chBad, has]; done) | (simp_all [chBad, has]; omega)
     exact ⟨⟨k + 1, by omega, fun i h hi => (by by_cases e : i = k; (subst e; exact hgood); exact hok i h (by omega))⟩, by simp only; omega, Sub.fin 2 ⟨lr _, lr _, lr _, lr _, trivial⟩ rfl (by simp [slotsIn, objsIn, sget, keepS, AObj.inB, AV.inB, AV.inL, AV.inE, inE_map]) (by simp [slotsIn, objsIn, sget, keepS, AObj.inB, AV.inB, AV.inL, AV.inE, inE_map]) (by simp [he0])⟩
  ·
   have c2' := c2
   try simp only [qq] at c2'
   refine aw_exit (aw_seq (aw_region ?_))
   refine asr (lr _) rfl ?_
   refine sq_nil (aw_ret ?_)
   exact retQ_pure (v := .raw _) rfl rfl (Less.eq (by rw [isCh, okAll_end hk c2' hok]))


end Go.Proofs.YtjghdbdiejaacaaGreatDoor

namespace Go.Proofs.YtjghdbdiejaacaaGreatDoor
open Go Go.Ab Ni
theorem en108 : Ent Tryz.prog 108 := Ent.of Tryz.func108 (by kernel_rfl) rfl
theorem en148 : Ent Tryz.prog 148 := Ent.of Tryz.func148 (by kernel_rfl) rfl
theorem ni167 : notIface Tryz.prog 167 = true := by kernel_rfl
theorem ty132 : tySz Tryz.prog 132 = some (true, 2) := by kernel_rfl
theorem ty167 : tySz Tryz.prog 167 = some (true, 1) := by kernel_rfl
theorem ty31 : tySz Tryz.prog 31 = some (false, 1) := by kernel_rfl
theorem un20 : Tryz.prog.underlying 20 = some (.interface #[]) := by kernel_rfl
theorem z132 : zeroOf Tryz.prog 132 = some [.raw (.int .i64 0), .raw (.int .i64 0)] := by kernel_rfl
theorem z167 : zeroOf Tryz.prog 167 = some [.raw (.string ByteArray.empty)] := by kernel_rfl
theorem z31 : zeroOf Tryz.prog 31 = some [.raw (.int .i64 0)] := by kernel_rfl

/-- nothing is given up with -/
theorem adefer_none (i j : Nat) (H : List AObj) : ADefer Tryz.prog 148 [.ptr i 0, .ptr j 0] H none (fun H' => H' = H) := by
  refine adefer_of Tryz.func148 rfl rfl (Nat.le_of_ble_eq_true rfl) rfl fun e0 he0 => ?_
  refine aw_block (aw_seq (aw_region ?_))
  refine sq_ev rfl (ev_nil_nil un20 (lr _) (lr _)) ?_
  refine sq_nil ?_
  refine aw_true (lr _) ?_
  refine aw_region ?_
  refine asr (lr _) rfl ?_
  refine sq_nil ?_
  exact ⟨.inl rfl, rfl, rfl⟩

/-- a part cannot end in its window -/
theorem adefer_unfit (i j : Nat) (H : List AObj) (k f : Int) {a b c : AV} (hi : H[i]? = some (.cells [a, b])) (hj : H[j]? = some (.cells [c])) (hij : i ≠ j) :
    ADefer Tryz.prog 148 [.ptr i 0, .ptr j 0] H (some (.ifc 132 (.agg [I k, I f]))) (fun H' => ∃ X, H' = (H.set i (.cells [I k, I f])).set j (.cells [I 5]) ++ X) := by
  refine adefer_of Tryz.func148 rfl rfl (Nat.le_of_ble_eq_true rfl) rfl fun e0 he0 => ?_
  rw [nil_pre H]
  refine aw_block (aw_seq (aw_region ?_))
  refine sq_ev rfl (ev_ifc_eqnil un20 (lr _) (lr _)) ?_
  refine sq_nil ?_
  refine aw_false (lr _) ?_
  refine aw_seq (aw_region ?_)
  refine sq_ev rfl (ev_assert_yes ni132 (lr _)) ?_
  refine sq_ev rfl (ev_extract (lr _) rfl) ?_
  refine sq_ev rfl (ev_extract (lr _) rfl) ?_
  refine sq_nil ?_
  refine aw_true (lr _) ?_
  refine aw_seq (aw_region ?_)
  refine sq_allocP (H0 := H) (X := []) rfl z132 ?_
  refine sq_storeP (H0 := H) (j := 0) rfl (lr _) (lr _) rfl rfl ty132 rfl rfl ?_
  refine sq_nil (aw_region ?_)
  refine sq_ev rfl (ev_load_agg (lr _) (lookP (H0 := H) (m := 0) rfl) ty132 rfl) ?_
  refine sq_storeL (H0 := H) rfl (lr _) (lr _) rfl hi ty132 rfl rfl ?_
  refine sq_storeL (H0 := H.set i _) rfl (lr _) (lr _) rfl (by rw [List.getElem?_set_ne hij]; exact hj) ty31 rfl rfl ?_
  refine sq_nil ?_
  exact ⟨.inl rfl, rfl, [.cells [I k, I f]], by simp only [List.append_nil]; rfl⟩

/-- a string is no sheet -/
theorem adefer_sheet (i j : Nat) (H : List AObj) (w : AV) {c : AV} (hj : H[j]? = some (.cells [c])) (hw : w.cells = some [w]) :
    ADefer Tryz.prog 148 [.ptr i 0, .ptr j 0] H (some (.ifc 167 (.agg [w]))) (fun H' => ∃ X, H' = H.set j (.cells [I 4]) ++ X) := by
  refine adefer_of Tryz.func148 rfl rfl (Nat.le_of_ble_eq_true rfl) rfl fun e0 he0 => ?_
  rw [nil_pre H]
  refine aw_block (aw_seq (aw_region ?_))
  refine sq_ev rfl (ev_ifc_eqnil un20 (lr _) (lr _)) ?_
  refine sq_nil ?_
  refine aw_false (lr _) ?_
  refine aw_seq (aw_region ?_)
  refine sq_ev rfl (ev_assert_no ni132 z132 rfl (lr _)) ?_
  refine sq_ev rfl (ev_extract (lr _) rfl) ?_
  refine sq_ev rfl (ev_extract (lr _) rfl) ?_
  refine sq_nil ?_
  refine aw_false (lr _) ?_
  refine aw_seq (aw_region ?_)
  refine sq_ev rfl (ev_assert_yes ni167 (lr _)) ?_
  refine sq_ev rfl (ev_extract (lr _) rfl) ?_
  refine sq_ev rfl (ev_extract (lr _) rfl) ?_
  refine sq_nil ?_
  refine aw_true (lr _) ?_
  refine aw_seq (aw_region ?_)
  refine sq_allocP (H0 := H) (X := []) rfl z167 ?_
  refine sq_storeP (H0 := H) (j := 0) rfl (lr _) (lr _) rfl rfl ty167 rfl rfl ?_
  refine sq_nil (aw_region ?_)
  refine sq_storeL (H0 := H) rfl (lr _) (lr _) rfl hj ty31 rfl rfl ?_
  refine sq_nil ?_
  exact ⟨.inl rfl, rfl, [.cells [w]], by simp only [List.append_nil]; rfl⟩

/-- what is given up with -/
inductive Gave : ARes → AV → Prop
  | ret (v : AV) : Gave (.ret v) (.tup [.agg [I 0, I 0], I 0])
  | unfit (k f : Int) : Gave (.pan (.ifc 132 (.agg [I k, I f]))) (.tup [.agg [I k, I f], I 5])
  | sheet (w : AV) (hw : w.cells = some [w]) : Gave (.pan (.ifc 167 (.agg [w]))) (.tup [.agg [I 0, I 0], I 4])

set_option maxHeartbeats 1000000 in
/-- kelir/night.attempt -/
theorem nattempt_call {f : FuncId} {caps : List AV} {H : List AObj} {Rd : ARes → List AObj → Prop} (he : Ent Tryz.prog f)
  (hdo : ACall Tryz.prog f caps (H ++ [.cells [I 0, I 0], .cells [I 0]]) fun x H' => ∃ H1 X, H' = H1 ++ ([.cells [I 0, I 0], .cells [I 0]] ++ X) ∧ H1.length = H.length ∧ Rd x H1 ∧ ∃ v, Gave x v) :
  ACall Tryz.prog 108 [.fn (.func f) [] caps] H fun x H' => ∃ y v H1 X, x = .ret v ∧ Gave y v ∧ Rd y H1 ∧ H' = H1 ++ X := by
 refine acall_of_defer (rs := [.cell 2 132, .cell 3 31]) Tryz.func108 rfl rfl (Nat.le_of_ble_eq_true rfl) en148 fun e0 he0 => ?_
 rw [nil_pre H] at he0 ⊢
 refine aw_seq (aw_region ?_)
 refine sq_allocP (H0 := H) (X := []) rfl z132 ?_
 refine sq_allocP (H0 := H) rfl z31 ?_
 refine sq_nil (aw_seq (aw_region ?_))
 refine sq_ev rfl ev_makeFunc ?_
 refine sq_defer rfl rfl (lr _) ?_
 refine sq_nil (aw_seq (aw_region ?_))
 refine sq_ev rfl (ev_mv (v := .fn _ _ _) (lr _)) ?_
 refine sq_call (f := f) (first := []) (cap := caps) (args := caps) rfl he (lr _) (by simpa using LessL.rfl' caps) hdo ?_ ?_
 ·
  rintro v _ ⟨H1, X, rfl, hl, hRd, hg⟩
  refine sq_nil (aw_seq (aw_region ?_))
  refine sq_ev rfl (ev_build bi132 rfl) ?_
  refine sq_storeP (H0 := H1) (j := 0) rfl (Less.eq (by rw [hl]; rfl)) (lr _) rfl rfl ty132 rfl rfl ?_
  refine sq_storeP (H0 := H1) (j := 1) rfl (Less.eq (by rw [hl]; rfl)) (lr _) rfl rfl ty31 rfl rfl ?_
  refine sq_nil (aw_ret ?_)
  refine ⟨_, _, rfl, adefer_none _ _ _, ?_⟩
  rintro _ rfl
  refine ⟨.tup [.agg [I 0, I 0], I 0], ?_, _, _, H1, _, rfl, Gave.ret v, hRd, rfl⟩
  refine resAV_of (vs := [.agg [I 0, I 0], I 0]) (Nat.le_of_ble_eq_true rfl) ?_
  refine ⟨resVar_cell (l := [I 0, I 0]) (i := H1.length + 0) (off := 0) ?_ (lookP (H0 := H1) rfl) ty132 rfl, resVar_cell1 (i := H1.length + 1) (off := 0) ?_ (lookP (H0 := H1) rfl) ty31 rfl, trivial⟩
  ·
   rw [hl]; rfl
  ·
   rw [hl]; rfl
 ·
  rintro v _ ⟨H1, X, rfl, hl, hRd, u, hg⟩
  have hi : (H1 ++ ([AObj.cells [I 0, I 0], .cells [I 0]] ++ X))[H.length + 0]? = some (.cells [I 0, I 0]) := by rw [← hl]; exact lookP (by rfl)
  have hj : (H1 ++ ([AObj.cells [I 0, I 0], .cells [I 0]] ++ X))[H.length + 1]? = some (.cells [I 0]) := by rw [← hl]; exact lookP (by rfl)
  cases hg with
  | unfit k f =>
   refine ⟨_, _, rfl, adefer_unfit (H.length + 0) (H.length + 1) _ k f hi hj (by omega), ?_⟩
   rintro _ ⟨Y, rfl⟩
   have e1 : ((H1 ++ ([AObj.cells [I 0, I 0], .cells [I 0]] ++ X)).set (H.length + 0) (.cells [I k, I f])).set (H.length + 1) (.cells [I 5]) ++ Y = H1 ++ ([.cells [I k, I f], .cells [I 5]] ++ (X ++ Y)) := by
    rw [← hl, setP, setP]; simp
   rw [e1]
   refine ⟨.tup [.agg [I k, I f], I 5], ?_, _, _, H1, _, rfl, Gave.unfit k f, hRd, rfl⟩
   refine resAV_of (vs := [.agg [I k, I f], I 5]) (Nat.le_of_ble_eq_true rfl) ?_
   refine ⟨resVar_cell (l := [I k, I f]) (i := H1.length + 0) (off := 0) ?_ (lookP (H0 := H1) rfl) ty132 rfl, resVar_cell1 (i := H1.length + 1) (off := 0) ?_ (lookP (H0 := H1) rfl) ty31 rfl, trivial⟩
   ·
    rw [hl]; rfl
   ·
    rw [hl]; rfl
  | sheet w hw =>
   refine ⟨_, _, rfl, adefer_sheet (H.length + 0) (H.length + 1) _ w hj hw, ?_⟩
   rintro _ ⟨Y, rfl⟩
   have e1 : (H1 ++ ([AObj.cells [I 0, I 0], .cells [I 0]] ++ X)).set (H.length + 1) (.cells [I 4]) ++ Y = H1 ++ ([.cells [I 0, I 0], .cells [I 4]] ++ (X ++ Y)) := by
    rw [← hl, setP]; simp
   rw [e1]
   refine ⟨.tup [.agg [I 0, I 0], I 4], ?_, _, _, H1, _, rfl, Gave.sheet w hw, hRd, rfl⟩
   refine resAV_of (vs := [.agg [I 0, I 0], I 4]) (Nat.le_of_ble_eq_true rfl) ?_
   refine ⟨resVar_cell (l := [I 0, I 0]) (i := H1.length + 0) (off := 0) ?_ (lookP (H0 := H1) rfl) ty132 rfl, resVar_cell1 (i := H1.length + 1) (off := 0) ?_ (lookP (H0 := H1) rfl) ty31 rfl, trivial⟩
   ·
    rw [hl]; rfl
   ·
    rw [hl]; rfl


end Go.Proofs.YtjghdbdiejaacaaGreatDoor

namespace Go.Proofs.YtjghdbdiejaacaaGreatDoor
open Go Go.Ab Ni
theorem en109 : Ent Tryz.prog 109 := Ent.of Tryz.func109 (by kernel_rfl) rfl
theorem en143 : Ent Tryz.prog 143 := Ent.of Tryz.func143 (by kernel_rfl) rfl
theorem en147 : Ent Tryz.prog 147 := Ent.of Tryz.func147 (by kernel_rfl) rfl
theorem en99 : Ent Tryz.prog 99 := Ent.of Tryz.func99 (by kernel_rfl) rfl

def fk (p : Pl) (l : List Nat) : Int := match ffail p l with | none => 0 | some (k, _) => k
def ff (p : Pl) (l : List Nat) : Int := match ffail p l with | none => 0 | some (_, f) => f
def fe (p : Pl) (l : List Nat) : Int := match ffail p l with | none => 0 | some _ => 5
def canP (p : Pl) (l : List Nat) : Bool := (ffail p l).isNone
theorem fe_can (p : Pl) (l : List Nat) : decide (fe p l = 0) = canP p l := by unfold fe canP; cases ffail p l <;> rfl
/-- the closures that go forward -/
theorem ndo143_call {p : Pl} {l : List Nat} {i : Nat} {H : List AObj} (gp : GP p) (cv : CV p l) (hi : H[i]? = some (.cells (playedC p l))) :
    ACall Tryz.prog 143 [.ptr i 0] H fun x H' => H' = H ∧ ((ffail p l = none ∧ x = .ret (.tup [])) ∨ ∃ (k : Nat) (f : Int), ffail p l = some (k, f) ∧ x = .pan (.ifc 132 (.agg [I k, I f]))) := by
  refine acall_of (rs := []) Tryz.func143 rfl rfl (Nat.le_of_ble_eq_true rfl) fun e0 he0 => ?_
  refine aw_region ?_
  refine sq_ev rfl (ev_load_agg (lr _) hi ty110 rfl) ?_
  refine sq_call (first := []) (cap := []) (args := [played p l]) rfl en99 (lr _) ⟨lr _, trivial⟩ (nforward_pan p l gp cv H) ?_ ?_
  · rintro v _ ⟨rfl, hR⟩
    refine sq_nil ?_
    refine ⟨rfl, .tup [], rfl, rfl, ?_⟩
    unfold fwR at hR
    cases hf : ffail p l with
    | none => exact .inl ⟨rfl, rfl⟩
    | some q => obtain ⟨k, f⟩ := q; rw [hf] at hR; cases hR
  · rintro v _ ⟨rfl, hR⟩
    refine ⟨rfl, rfl, ?_⟩
    unfold fwR at hR
    cases hf : ffail p l with
    | none => rw [hf] at hR; cases hR
    | some q => obtain ⟨k, f⟩ := q; rw [hf] at hR; exact .inr ⟨k, f, rfl, hR⟩

/-- the attempt to go forward -/
theorem natt143_call {p : Pl} {l : List Nat} {i : Nat} {H : List AObj} (gp : GP p) (cv : CV p l) (hi : H[i]? = some (.cells (playedC p l))) (hin : objsIn H.length H = true) :
    ACall Tryz.prog 108 [.fn (.func 143) [] [.ptr i 0]] H fun x H' => H' = H ∧ x = .ret (.tup [.agg [I (fk p l), I (ff p l)], I (fe p l)]) := by
  refine ACall.drop (R := fun x => x = .ret (.tup [.agg [I (fk p l), I (ff p l)], I (fe p l)])) ?_ (Nat.le_refl _) hin (fun x hx => by subst hx; rfl)
  refine (nattempt_call (Rd := fun x H1 => H1 = H ∧ ((ffail p l = none ∧ x = .ret (.tup [])) ∨ ∃ (k : Nat) (f : Int), ffail p l = some (k, f) ∧ x = .pan (.ifc 132 (.agg [I k, I f])))) en143
    ((ndo143_call gp cv (i := i) (lookL hi)).mono ?_)).mono ?_
  · rintro x _ ⟨rfl, h⟩
    refine ⟨H, [], by simp, rfl, ⟨rfl, h⟩, ?_⟩
    rcases h with ⟨_, rfl⟩ | ⟨k, f, _, rfl⟩
    · exact ⟨_, Gave.ret _⟩
    · exact ⟨_, Gave.unfit _ _⟩
  · rintro x H' ⟨y, v, H1, X, rfl, hg, ⟨rfl, hR⟩, rfl⟩
    refine ⟨⟨X, rfl⟩, ?_⟩
    rcases hR with ⟨hf, rfl⟩ | ⟨k, f, hf, rfl⟩
    · cases hg; simp [fk, ff, fe, hf]
    · cases hg; simp [fk, ff, fe, hf]

/-- the closures that go forward -/
theorem ndo109_call {p : Pl} {l : List Nat} {i : Nat} {H : List AObj} (gp : GP p) (cv : CV p l) (hi : H[i]? = some (.cells (playedC p l))) :
    ACall Tryz.prog 109 [.ptr i 0] H fun x H' => H' = H ∧ ((ffail p l = none ∧ x = .ret (.tup [])) ∨ ∃ (k : Nat) (f : Int), ffail p l = some (k, f) ∧ x = .pan (.ifc 132 (.agg [I k, I f]))) := by
  refine acall_of (rs := []) Tryz.func109 rfl rfl (Nat.le_of_ble_eq_true rfl) fun e0 he0 => ?_
  refine aw_region ?_
  refine sq_ev rfl (ev_load_agg (lr _) hi ty110 rfl) ?_
  refine sq_call (first := []) (cap := []) (args := [played p l]) rfl en99 (lr _) ⟨lr _, trivial⟩ (nforward_pan p l gp cv H) ?_ ?_
  · rintro v _ ⟨rfl, hR⟩
    refine sq_nil ?_
    refine ⟨rfl, .tup [], rfl, rfl, ?_⟩
    unfold fwR at hR
    cases hf : ffail p l with
    | none => exact .inl ⟨rfl, rfl⟩
    | some q => obtain ⟨k, f⟩ := q; rw [hf] at hR; cases hR
  · rintro v _ ⟨rfl, hR⟩
    refine ⟨rfl, rfl, ?_⟩
    unfold fwR at hR
    cases hf : ffail p l with
    | none => rw [hf] at hR; cases hR
    | some q => obtain ⟨k, f⟩ := q; rw [hf] at hR; exact .inr ⟨k, f, rfl, hR⟩

/-- the attempt to go forward -/
theorem natt109_call {p : Pl} {l : List Nat} {i : Nat} {H : List AObj} (gp : GP p) (cv : CV p l) (hi : H[i]? = some (.cells (playedC p l))) (hin : objsIn H.length H = true) :
    ACall Tryz.prog 108 [.fn (.func 109) [] [.ptr i 0]] H fun x H' => H' = H ∧ x = .ret (.tup [.agg [I (fk p l), I (ff p l)], I (fe p l)]) := by
  refine ACall.drop (R := fun x => x = .ret (.tup [.agg [I (fk p l), I (ff p l)], I (fe p l)])) ?_ (Nat.le_refl _) hin (fun x hx => by subst hx; rfl)
  refine (nattempt_call (Rd := fun x H1 => H1 = H ∧ ((ffail p l = none ∧ x = .ret (.tup [])) ∨ ∃ (k : Nat) (f : Int), ffail p l = some (k, f) ∧ x = .pan (.ifc 132 (.agg [I k, I f])))) en109
    ((ndo109_call gp cv (i := i) (lookL hi)).mono ?_)).mono ?_
  · rintro x _ ⟨rfl, h⟩
    refine ⟨H, [], by simp, rfl, ⟨rfl, h⟩, ?_⟩
    rcases h with ⟨_, rfl⟩ | ⟨k, f, _, rfl⟩
    · exact ⟨_, Gave.ret _⟩
    · exact ⟨_, Gave.unfit _ _⟩
  · rintro x H' ⟨y, v, H1, X, rfl, hg, ⟨rfl, hR⟩, rfl⟩
    refine ⟨⟨X, rfl⟩, ?_⟩
    rcases hR with ⟨hf, rfl⟩ | ⟨k, f, hf, rfl⟩
    · cases hg; simp [fk, ff, fe, hf]
    · cases hg; simp [fk, ff, fe, hf]

theorem idx_mem (l : List Int) (v : Int) : (AV.raw (Value.bool (decide ((0 : Int) ≤ (match l.findIdx? (fun x => decide (x = v)) with | some i => (i : Int) | none => -1))))) = B (decide (v ∈ l)) := by
  congr 2
  rw [Bool.eq_iff_iff, decide_eq_true_eq, decide_eq_true_eq]
  cases h : l.findIdx? (fun x => decide (x = v)) with
  | none =>
    rw [List.findIdx?_eq_none_iff] at h
    simp only
    constructor
    · intro k; omega
    · intro k; have := h v k; simp at this
  | some i =>
    rw [List.findIdx?_eq_some_iff_getElem] at h
    obtain ⟨h1, h2, _⟩ := h
    simp only [decide_eq_true_eq] at h2
    simp only
    exact ⟨fun _ => h2 ▸ List.getElem_mem h1, fun _ => by omega⟩
set_option maxHeartbeats 400000 in
/-- (kelir/night.played).can -/
theorem ncan_pure (p : Pl) (l : List Nat) (gp : GP p) (cv : CV p l) : APure Tryz.prog 88 [played p l] (B (canP p l)) := by
  refine apure_of (rs := [.tmp 2]) Tryz.func88 rfl rfl (Nat.le_of_ble_eq_true rfl) (by simp [AV.pureL, AV.pureB, AV.pureE, pureE_map]) (rfl) fun e0 he0 => ?_
  refine aw_seq (aw_region ?_)
  refine sq_box rfl (lr _) rfl ?_
  refine asr (lr _) rfl ?_
  refine sq_nil (aw_seq (aw_region ?_))
  refine sq_ev rfl (ev_makeFunc) ?_
  refine sq_call (args := [.fn (.func 143) [] [.ptr 0 0]]) rfl en108 (lr _) ⟨lr _, trivial⟩ (natt143_call (i := 0) (H := [.cells (playedC p l)]) gp cv rfl (by simp [objsIn, AObj.inB, AV.inB, AV.inL, AV.inE, inE_map, inE_ints, inE_sc, -List.map_append, -List.map_take, -List.map_map])) ?_ (by rintro v H' ⟨_, h⟩; cases h)
  rintro _ _ ⟨rfl, h⟩; cases h
  refine sq_ev rfl (ev_mv (v := .tup _) (lr _)) ?_
  refine sq_ev rfl (ev_extract (lr _) rfl) ?_
  refine sq_ev rfl (ev_extract (lr _) rfl) ?_
  refine sq_alloc rfl z132 ?_
  refine sq_store rfl (lr _) (lr _) rfl rfl ty132 rfl rfl ?_
  refine asr (lr _) rfl ?_
  refine sq_nil (aw_seq (aw_region ?_))
  refine mvr (lr _) rfl ?_
  refine sq_ev rfl (ev_eql (lr _) (lr _)) ?_
  refine asr (lr _) rfl ?_
  refine sq_nil (aw_ret ?_)
  exact retQ_pure (v := .raw _) rfl rfl (Less.eq (by simp [fe_can]))

/-- slices.Clone, of a slice that is written into -/
theorem nclone_quiet {j n cap : Nat} {es : List Int} {rs : List AV} {H : List AObj} (hj : H[j]? = some (.cells ((es.map fun x => [I x]).flatten ++ rs))) (hn : es.length = n) (hl : es.length ≤ 1000000) :
    AQuiet Tryz.prog 157 [.msl j 0 n cap] H (ints es) := by
  refine aquiet_of Tryz.func157 rfl rfl (Nat.le_of_ble_eq_true rfl) fun e0 he0 => ?_
  refine qw_seq ?_
  refine qw_region ?_
  refine qs_ev rfl (ev_as (v := .raw _) (lr _)) ?_
  refine qs_nil ?_
  refine qw_seq ?_
  refine qw_seq ?_
  refine qw_region ?_
  refine qs_ev rfl (ev_mv (v := .msl _ _ _ _) (lr _)) ?_
  refine qs_ev rfl (ev_sl_nil_msl sl34 (lr _) (lr _)) ?_
  refine qs_nil ?_
  refine qw_cond (b := false) (lr _) (fun h => by cases h) (fun _ => ?_)
  refine qw_skip ?_
  refine qw_seq ?_
  refine qw_region ?_
  refine qs_ev rfl (ev_buildSlice (es := []) sf34 rfl rfl rfl rfl) ?_
  refine qs_ev rfl (ev_mv (v := .msl _ _ _ _) (lr _)) ?_
  refine qs_ev rfl (ev_append_msl (xs := es.map fun x => [I x]) (rs := rs) sf34 Tryz.underlying34 (lr _) (lr _) (pre_get he0 hj) (by simpa using hn) (by intro q hq; obtain ⟨x, _, rfl⟩ := List.mem_map.1 hq; rfl) (by simp; omega) (by simp; omega)) ?_
  refine qs_ev rfl (ev_as (v := .sl _ _) (lr _)) ?_
  refine qs_nil ?_
  refine qw_ret ?_
  exact ⟨.inr rfl, rfl, Less.eq (by simp [sget, St.put])⟩

set_option maxHeartbeats 400000 in
/-- slices.Index[[]int,int] -/
theorem nindex_pure (l : List Int) (v : Int) (hl : l.length ≤ 1000000) : APure Tryz.prog 147 [ints l, I v] (I (match l.findIdx? (fun x => decide (x = v)) with | some i => (i : Int) | none => -1)) := by
 refine apure_of (rs := [.tmp 4]) Tryz.func147 rfl rfl (Nat.le_of_ble_eq_true rfl) (by simp [AV.pureL, AV.pureB, AV.pureE, pureE_map]) (rfl) fun e0 he0 => ?_
 refine aw_seq (aw_region ?_)
 refine asr (lr _) rfl ?_
 refine sq_nil (aw_seq (aw_seq (aw_region ?_)))
 refine sq_ev rfl (ev_mv (v := .sl _ _) (lr _)) ?_
 refine sq_ev rfl (ev_len_map sl34 (lr _)) ?_
 refine mvr (lr _) rfl ?_
 refine sq_nil (aw_block ?_)
 refine aw_loopk (ι := { k : Nat // k ≤ l.length ∧ ∀ i, (h : i < l.length) → i < k → ¬ l[i] = v }) [0, 1, 7] (fun i => [(8, I i.1)]) (fun H i => H) (fun i => l.length - i.1) (⟨0, Nat.zero_le _, by omega⟩) ⟨lr _, lr _, lr _, lr _, trivial⟩ rfl ?_
 rintro ⟨k, hk, hno⟩
 dsimp only [keepS, St.put, sget, slotsOf, List.map_cons, List.map_nil, List.cons_append, List.nil_append, List.length_cons, List.length_nil, Nat.reduceBEq, Nat.reduceAdd, cond_true, cond_false]
 refine aw_seq (aw_region ?_)
 refine sq_ev rfl (ev_lss (lr _) (lr _)) ?_
 refine sq_nil (aw_seq ?_)
 refine aw_cond (lr _) (fun c1 => ?_) (fun c1 => ?_)
 ·
  have c1' := c1
  try simp only [qq] at c1'
  have hk' : k < l.length := by omega
  refine aw_skip (aw_seq (aw_block (aw_seq (aw_region ?_))))
  refine mvr (lr _) rfl ?_
  refine asr (lr _) rfl ?_
  refine sq_nil (aw_seq (aw_region ?_))
  refine mvr (lr _) rfl ?_
  refine sq_ev rfl (ev_mv (v := .sl _ _) (lr _)) ?_
  refine mvr (lr _) rfl ?_
  refine sq_ev rfl (ev_index_map sl34 (lr _) (lr _) rfl (by omega)) ?_
  refine sq_ev rfl (ev_load_i (lr _) ty3 rfl) ?_
  refine sq_ev rfl (ev_eql (lr _) (lr _)) ?_
  refine sq_nil ?_
  refine aw_cond (lr _) (fun c2 => ?_) (fun c2 => ?_)
  ·
   have c2' := c2
   try simp only [qq] at c2'
   refine aw_seq (aw_region ?_)
   refine mvr (lr _) rfl ?_
   refine asr (lr _) rfl ?_
   refine sq_nil (aw_ret ?_)
   exact retQ_pure (v := .raw _) rfl rfl (Less.eq (by rw [List.findIdx?_eq_some_iff_getElem.2 ⟨hk', by simp [c2'], fun j hj => by simpa using hno j (by omega) hj⟩]))
  ·
   have c2' := c2
   try simp only [qq] at c2'
   refine aw_skip (aw_region ?_)
   refine sq_ev rfl (ev_add (lr _) (lr _) (wr (by omega) (by omega))) ?_
   refine mvr (lr _) rfl ?_
   refine sq_nil ?_
   have hne : ¬ l[k] = v := fun e => c2' e.symm
   exact ⟨⟨k + 1, by omega, fun i h hi => (by by_cases e : i = k; (subst e; exact hne); exact hno i h (by omega))⟩, by simp only; omega, Sub.slots ⟨lr _, lr _, lr _, lr _, trivial⟩⟩
 ·
  have c1' := c1
  try simp only [qq] at c1'
  obtain rfl : k = l.length := by omega
  refine aw_exit (aw_seq (aw_region ?_))
  refine asr (lr _) rfl ?_
  refine sq_nil (aw_ret ?_)
  exact retQ_pure (v := .raw _) rfl rfl (Less.eq (by rw [List.findIdx?_eq_none_iff.2 (fun x hx => by obtain ⟨i, hi, rfl⟩ := List.getElem_of_mem hx; simpa using hno i hi hi)]))

set_option maxHeartbeats 400000 in
/-- slices.Contains[[]int,int] -/
theorem ncontains_pure (l : List Int) (v : Int) (hl : l.length ≤ 1000000) : APure Tryz.prog 106 [ints l, I v] (B (decide (v ∈ l))) := by
 refine apure_of (rs := [.tmp 4]) Tryz.func106 rfl rfl (Nat.le_of_ble_eq_true rfl) (by simp [AV.pureL, AV.pureB, AV.pureE, pureE_map]) (rfl) fun e0 he0 => ?_
 refine aw_seq (aw_region ?_)
 refine asr (lr _) rfl ?_
 refine sq_nil (aw_seq (aw_region ?_))
 refine sq_ev rfl (ev_mv (v := .sl _ _) (lr _)) ?_
 refine mvr (lr _) rfl ?_
 refine sq_ev rfl (ev_call en147 (lr _) (nindex_pure l v hl) ⟨lr _, lr _, trivial⟩) ?_
 refine sq_ev rfl (ev_geq (lr _) (lr _)) ?_
 refine asr (lr _) rfl ?_
 refine sq_nil (aw_ret ?_)
 exact retQ_pure (v := .raw _) rfl rfl (Less.eq (by rw [idx_mem]))


end Go.Proofs.YtjghdbdiejaacaaGreatDoor

namespace Go.Proofs.YtjghdbdiejaacaaGreatDoor
open Go Go.Ab Ni
theorem en140 : Ent Tryz.prog 140 := Ent.of Tryz.func140 (by kernel_rfl) rfl
theorem en156 : Ent Tryz.prog 156 := Ent.of Tryz.func156 (by kernel_rfl) rfl
theorem en157 : Ent Tryz.prog 157 := Ent.of Tryz.func157 (by kernel_rfl) rfl
theorem ty182 : tySz Tryz.prog 182 = some (false, 1) := by kernel_rfl
theorem ty62 : tySz Tryz.prog 62 = some (false, 1) := by kernel_rfl
theorem z182 : zeroOf Tryz.prog 182 = some [.raw .nilFunc] := by kernel_rfl
theorem z34 : zeroOf Tryz.prog 34 = some [.raw (.slice none 0 0)] := by kernel_rfl

/-- the list that is made, in its box -/
def NowIs (N : Nat) (G : List AObj) (a : AV) (now : List Nat) : Prop :=
  (a = .raw (.slice none 0 0) ∧ now = []) ∨ ∃ j cap rs, a = .msl (N + (3 + j)) 0 now.length cap ∧ G[j]? = some (.cells ((now.map fun (x : Nat) => [I x]).flatten ++ rs)) ∧ rs.length = (cap - now.length) * 1 ∧ now.length ≤ cap

abbrev fromV (p : Pl) (N : Nat) : AV := .fn (.func 156) [] [.iptr (planC p), .ptr (N + 1) 0, .ptr (N + 0) 0, .ptr (N + 2) 0]
abbrev locs (p : Pl) (l N : Nat) (a : AV) (G : List AObj) : List AObj := .cells [.fn (.yield l) [] []] :: .cells [a] :: .cells [fromV p N] :: G
def LX (p : Pl) (l N : Nat) (X : List AObj) (now : List Nat) : Prop := ∃ a G, X = locs p l N a G ∧ NowIs N G a now

theorem now_obj {p : Pl} {l N : Nat} {b : AV} {G T : List AObj} {now : List Nat} {j : Nat} {rs : List AV} (hT : T.length = N) (h : G[j]? = some (.cells ((now.map fun (x : Nat) => [I x]).flatten ++ rs))) :
    (T ++ locs p l N b G)[N + (3 + j)]? = some (.cells ((now.map fun (x : Nat) => [I x]).flatten ++ rs)) := by
  subst hT
  refine lookP ?_
  rw [show 3 + j = j + 1 + 1 + 1 by omega]
  simpa using h

theorem sz1 (now : List Nat) : ∀ q ∈ now.map (fun (x : Nat) => [I (x : Int)]), q.length = 1 := fun q hq => by obtain ⟨x, _, rfl⟩ := List.mem_map.1 hq; rfl
theorem up_map (now : List Nat) : (up now).map (fun x => [I x]) = now.map fun (x : Nat) => [I (x : Int)] := by simp [up]

/-- whether the list is a choice -/
theorem now_isc {p : Pl} {l N : Nat} {a b : AV} {G T : List AObj} {now : List Nat} (gp : GP p) (cv : CV p now) (hT : T.length = N) (h : NowIs N G a now) :
    AQuiet Tryz.prog 140 [plan p, a] (T ++ locs p l N b G) (B (isC p now)) := by
  have hp := gp.len
  have hc := cv.len
  have base : APure Tryz.prog 140 [plan p, nats now] (B (isC p now)) := by
    have := nischoice_pure p (up now) (by omega) (by simp [up]; omega)
    rwa [← nats_ints] at this
  rcases h with ⟨rfl, rfl⟩ | ⟨j, cap, rs, rfl, hj, hrs, hle⟩
  · exact (AQuiet.of_pure base _).less ⟨lr _, less_nil 1, trivial⟩
  · exact AQuiet.lend (sz := 1) base rfl (.cons (Fz.same _) (.cons Fz.frozen .nil)) (now_obj hT hj) (by simp) (sz1 now)

theorem nclone_nil (H : List AObj) : AQuiet Tryz.prog 157 [.raw (.slice none 0 0)] H (nats []) := by
  refine aquiet_of Tryz.func157 rfl rfl (Nat.le_of_ble_eq_true rfl) fun e0 he0 => ?_
  refine qw_seq ?_
  refine qw_region ?_
  refine qs_ev rfl (ev_as (v := .raw _) (lr _)) ?_
  refine qs_nil ?_
  refine qw_seq ?_
  refine qw_seq ?_
  refine qw_region ?_
  refine qs_ev rfl (ev_mv (v := .raw _) (lr _)) ?_
  refine qs_ev rfl (ev_slnil sl34 (lr _) (lr _)) ?_
  refine qs_nil ?_
  refine qw_cond (b := true) (lr _) (fun _ => ?_) (fun h => by cases h)
  refine qw_seq ?_
  refine qw_region ?_
  refine qs_ev rfl (ev_as (v := .raw _) (lr _)) ?_
  refine qs_nil ?_
  refine qw_ret ?_
  exact ⟨.inr rfl, rfl, less_nil 1⟩

/-- a copy of the list -/
theorem now_clone {p : Pl} {l N : Nat} {a b : AV} {G T : List AObj} {now : List Nat} (cv : CV p now) (hT : T.length = N) (h : NowIs N G a now) :
    AQuiet Tryz.prog 157 [a] (T ++ locs p l N b G) (nats now) := by
  have hc := cv.len
  rcases h with ⟨rfl, rfl⟩ | ⟨j, cap, rs, rfl, hj, hrs, hle⟩
  · exact nclone_nil _
  · have := nclone_quiet (j := N + (3 + j)) (n := now.length) (cap := cap) (es := up now) (rs := rs) (H := T ++ locs p l N b G) (by rw [up_map]; exact now_obj hT hj) (by simp [up]) (by simp [up]; omega)
    rwa [← nats_ints] at this

section app
variable {c : Ctx} {ops : Array Oper} {Q : AExit → St → Prop} {rest : List Oper} {i : Nat} {sl : List (Nat × AV)} {df : List ADef}
variable {d : Option Tmp} {t : TypeId} {pp : String} {af : Array Edge}
/-- one number more at the list's end -/
theorem sq_now_append {p : Pl} {l N : Nat} {a b : AV} {G T : List AObj} {now : List Nat} {x y : Operand} {n : Nat} (hP : c.P = Tryz.prog) (hd : dOK c.nt d = true) (cv : CV p now) (hT : T.length = N) (h : NowIs N G a now)
    (hx : Less ((⟨sl, T ++ locs p l N b G, df⟩ : St).op x) a) (hy : Less ((⟨sl, T ++ locs p l N b G, df⟩ : St).op y) (.sl 1 [[I n]]))
    (k : ∀ a' G', NowIs N G' a' (now ++ [n]) → SeqWP c ops Q (i + 1) rest (St.put ⟨sl, T ++ locs p l N b G', df⟩ d a')) :
    SeqWP c ops Q i (⟨d, .call ⟨.builtin .append, #[x, y], #[34, 34]⟩, t, pp, af, none⟩ :: rest) ⟨sl, T ++ locs p l N b G, df⟩ := by
  have hc := cv.len
  have hlen : (T ++ locs p l N b G).length = N + (3 + G.length) := by rw [List.length_append, hT]; simp; omega
  rcases h with ⟨rfl, rfl⟩ | ⟨j, cap, rs, rfl, hj, hrs, hle⟩
  · refine sq_append_msl (xs := [[I n]]) hd (by rw [hP]; exact sf34) (by rw [hP]; exact Tryz.underlying34) (hx.trans (less_nilx 1)) hy (by simp) (by simp) (by simp) fun cap hcap => ?_
    rw [hlen]
    have e1 : T ++ locs p l N b G ++ [.cells ([[I (n : Int)]].flatten ++ List.replicate ((cap - [[I (n : Int)]].length) * 1) .any)] = T ++ locs p l N b (G ++ [.cells ([[I (n : Int)]].flatten ++ List.replicate ((cap - [[I (n : Int)]].length) * 1) .any)]) := by simp
    rw [e1]
    refine k _ _ (.inr ⟨G.length, cap, List.replicate ((cap - 1) * 1) .any, rfl, ?_, ?_, ?_⟩)
    · simp
    · simp
    · simpa using hcap
  · have ho := now_obj (p := p) (l := l) (b := b) hT hj
    refine sq_append_m (es := now.map fun (x : Nat) => [I (x : Int)]) (xs := [[I n]]) (rs := rs) hd (by rw [hP]; exact sf34) (by rw [hP]; exact Tryz.underlying34) hx ho (by simp) (sz1 now) hrs hy (by simp; omega) (by simp; omega) (fun hfit => ?_) (fun cap' hcap => ?_)
    · have e1 : (T ++ locs p l N b G).set (N + (3 + j)) (.cells ((now.map (fun (x : Nat) => [I (x : Int)]) ++ [[I (n : Int)]]).flatten ++ rs.drop ([[I (n : Int)]].length * 1))) =
          T ++ locs p l N b (G.set j (.cells ((now.map (fun (x : Nat) => [I (x : Int)]) ++ [[I (n : Int)]]).flatten ++ rs.drop ([[I (n : Int)]].length * 1)))) := by
        subst hT
        rw [setP, show 3 + j = j + 1 + 1 + 1 by omega]; rfl
      simp only [e1]
      refine k _ _ (.inr ⟨j, cap, rs.drop 1, ?_, ?_, ?_, ?_⟩)
      · simp
      · rw [List.getElem?_set_self (lt_of_get? hj)]; simp
      · simp only [List.length_drop, List.length_append, List.length_singleton, hrs]; omega
      · simpa using hfit
    · rw [hlen]
      have e1 : T ++ locs p l N b G ++ [.cells ((now.map (fun (x : Nat) => [I (x : Int)]) ++ [[I (n : Int)]]).flatten ++ List.replicate ((cap' - (now.length + [[I (n : Int)]].length)) * 1) .any)] =
          T ++ locs p l N b (G ++ [.cells ((now.map (fun (x : Nat) => [I (x : Int)]) ++ [[I (n : Int)]]).flatten ++ List.replicate ((cap' - (now.length + [[I (n : Int)]].length)) * 1) .any)]) := by simp
      rw [e1]
      refine k _ _ (.inr ⟨G.length, cap', List.replicate ((cap' - (now.length + 1)) * 1) .any, ?_, ?_, ?_, ?_⟩)
      · simp
      · simp
      · simp
      · simpa using hcap
end app


end Go.Proofs.YtjghdbdiejaacaaGreatDoor

namespace Go.Proofs.YtjghdbdiejaacaaGreatDoor
open Go Go.Ab Ni
theorem en124 : Ent Tryz.prog 124 := Ent.of Tryz.func124 (by kernel_rfl) rfl
theorem en155 : Ent Tryz.prog 155 := Ent.of Tryz.func155 (by kernel_rfl) rfl

theorem box0 {p : Pl} {l N : Nat} {a : AV} {G T : List AObj} (hT : T.length = N) : (T ++ locs p l N a G)[N + 0]? = some (.cells [.fn (.yield l) [] []]) := by subst hT; exact lookP rfl
theorem box1 {p : Pl} {l N : Nat} {a : AV} {G T : List AObj} (hT : T.length = N) : (T ++ locs p l N a G)[N + 1]? = some (.cells [a]) := by subst hT; exact lookP rfl
theorem box2 {p : Pl} {l N : Nat} {a : AV} {G T : List AObj} (hT : T.length = N) : (T ++ locs p l N a G)[N + 2]? = some (.cells [fromV p N]) := by subst hT; exact lookP rfl
theorem now_cells {N : Nat} {G : List AObj} {a : AV} {now : List Nat} (h : NowIs N G a now) : a.cells = some [a] := by
  rcases h with ⟨rfl, _⟩ | ⟨_, _, _, rfl, _⟩ <;> rfl
theorem fm_len_le {α : Type} (f : Nat → List α) {a : Nat} : ∀ {b : Nat}, a ≤ b → (fm a f).length ≤ (fm b f).length
  | 0, h => by have : a = 0 := by omega
               subst this; exact Nat.le_refl _
  | b + 1, h => by
    by_cases e : a = b + 1
    · rw [e]; exact Nat.le_refl _
    · have := fm_len_le f (a := a) (b := b) (by omega)
      rw [fm_succ, List.length_append]; omega

/-- what an iteration is given -/
structure ItOK (p : Pl) (e : Env) (l m : Nat) (st : Bool) (T : Nat → List AObj) (N : Nat) (xs : List AV) : Prop where
  gp : GP p
  hT : ∀ i, (T i).length = N
  hm : m ≤ xs.length
  all : st = false → m = xs.length
  hy : ∀ i x, i < m → xs[i]? = some x → ∀ X, AYieldAt e Tryz.prog l x (T i ++ X) (goes m st i) (T (i + 1) ++ X)

def FromR (p : Pl) (l m : Nat) (st : Bool) (T : Nat → List AObj) (N : Nat) (many k : Nat) (now : List Nat) : ARes → List AObj → Prop := fun x H' =>
  ∃ X', if st = true ∧ m ≤ k + (seg p many now).length then x = .ret (B false) ∧ H' = T m ++ X' else x = .ret (B true) ∧ H' = T (k + (seg p many now).length) ++ X' ∧ LX p l N X' now

set_option maxHeartbeats 4000000 in
/-- kelir/night.choices$1$1 -/
theorem nfrom_call {p : Pl} {e : Env} {l m : Nat} {st : Bool} {T : Nat → List AObj} {N : Nat} {xs : List AV} (it : ItOK p e l m st T N xs) : ∀ (many : Nat) (now : List Nat) (k : Nat) (X : List AObj), (∀ x ∈ now, x < p.scenes.length) → now.length + many ≤ 16 →
  LX p l N X now → (st = true → k < m) → (∀ i y, (seg p many now)[i]? = some y → xs[k + i]? = some (nats y)) →
  ACallE e Tryz.prog 156 [I (nxt now), I many, .iptr (planC p), .ptr (N + 1) 0, .ptr (N + 0) 0, .ptr (N + 2) 0] (T k ++ X) (FromR p l m st T N many k now) := by
 intro many
 induction many with
 | zero =>
  rintro now k _ hmem hlen ⟨a, G, rfl, hnow⟩ hkm hseg
  have cv : CV p now := mem_cv hmem (by omega)
  refine acallE_of_marks (rs := [.tmp 8]) Tryz.func156 rfl rfl (Nat.le_of_ble_eq_true rfl) fun e0 hle he0 => ?_
  refine aw_seq (aw_region ?_)
  refine asr (lr _) rfl ?_
  refine sq_nil (aw_seq (aw_seq (aw_region ?_)))
  refine mvr (lr _) rfl ?_
  refine sq_ev rfl (ev_eql (lr _) (lr _)) ?_
  refine sq_nil ?_
  refine aw_true (less_b (by decide)) ?_
  refine aw_seq ?_
  refine aw_draw 8 mo (by kernel_rfl) ?_
  refine dr_ev rfl (ev_load_agg_i (lr _) ty27 (Nat.le_of_ble_eq_true rfl)) ?_
  refine dr_ev rfl (ev_load (lr _) (box1 (it.hT k)) ty34 rfl) ?_
  refine dr_ev rfl (ev_callQ en140 (lr _) (now_isc it.gp cv (it.hT k) hnow) ⟨lr _, lr _, trivial⟩) ?_
  refine dr_ev rfl (ev_not (lr _)) ?_
  refine dr_ev rfl (ev_mv (v := .raw _) (lr _)) ?_
  refine dr_split 16 (lr _) (fun g => ?_) (fun g => ?_)
  ·
   have hc : ¬ isC p now = true := by simpa using g
   have hs : seg p 0 now = [] := by rw [seg_zero, if_neg hc]
   refine dr_no rfl rfl (less_b g) rfl rfl ?_
   refine dr_no rfl rfl (less_b g) rfl rfl ?_
   refine dr_no rfl rfl (less_b g) rfl rfl ?_
   refine dr_end ?_
   refine sq_no rfl rfl (less_b g) rfl rfl ?_
   refine sq_ev rfl (ev_pickT (v := .raw _) (less_b g) (lr _)) ?_
   refine asr (lr _) rfl ?_
   refine sq_nil (aw_ret ?_)
   refine ⟨_, B true, rfl, rfl, locs p l N a G, ?_⟩
   rw [hs]
   rw [if_neg (fun h => by have := hkm h.1; have := h.2; simp only [List.length_nil] at this; omega)]
   exact ⟨rfl, rfl, a, G, rfl, hnow⟩
  ·
   have hc : isC p now = true := by simpa using g
   have hs : seg p 0 now = [now] := by rw [seg_zero, if_pos hc]
   have hx : xs[k]? = some (nats now) := hseg 0 now (by rw [hs]; rfl)
   have hk : k < m := by
    cases hst : st with
    | true => exact hkm hst
    | false => have := it.all hst; have := (List.getElem?_eq_some_iff.1 hx).1; omega
   refine dr_yes rfl rfl (less_b g) rfl (ev_load (lr _) (box0 (it.hT k)) ty62 rfl) ?_
   refine dr_yes rfl rfl (less_b g) rfl (ev_load (lr _) (box1 (it.hT k)) ty34 rfl) ?_
   refine dr_yes rfl rfl (less_b g) rfl (ev_callQ en157 (lr _) (now_clone cv (it.hT k) hnow) ⟨lr _, trivial⟩) ?_
   refine dr_end ?_
   refine sq_yield_yes rfl rfl (less_b g) hle rfl (lr _) (lr _) (it.hy k _ hk hx _) ?_
   refine sq_ev rfl (ev_pickF (v := .raw _) (less_b g) (lr _)) ?_
   refine asr (lr _) rfl ?_
   refine sq_nil (aw_ret ?_)
   refine ⟨_, B (goes m st k), rfl, rfl, locs p l N a G, ?_⟩
   rw [hs]
   by_cases hstop : st = true ∧ m ≤ k + [now].length
   ·
    rw [if_pos hstop]
    have hm : m = k + 1 := by have := hstop.2; simp only [List.length_singleton] at this; omega
    have hg : goes m st k = false := by unfold goes; rw [hstop.1, hm]; simp
    rw [hg, hm]; exact ⟨rfl, rfl⟩
   ·
    rw [if_neg hstop]
    have hg : goes m st k = true := by
     unfold goes
     cases hst : st with
     | false => rfl
     | true =>
      have hne : k + 1 ≠ m := fun h => hstop ⟨hst, by simp only [List.length_singleton]; omega⟩
      have : Nat.beq (k + 1) m = false := by cases hb : Nat.beq (k + 1) m with | false => rfl | true => exact absurd (Nat.eq_of_beq_eq_true hb) hne
      rw [this]; rfl
    rw [hg]; exact ⟨rfl, rfl, a, G, rfl, hnow⟩
 | succ mm ih =>
  rintro now k _ hmem hlen ⟨a, G, rfl, hnow⟩ hkm hseg
  have cv : CV p now := mem_cv hmem (by omega)
  have hnx := nxt_le hmem
  have hgl := it.gp.len
  refine acallE_of_marks (rs := [.tmp 8]) Tryz.func156 rfl rfl (Nat.le_of_ble_eq_true rfl) fun e0 hle he0 => ?_
  refine aw_seq (aw_region ?_)
  refine asr (lr _) rfl ?_
  refine sq_nil (aw_seq (aw_seq (aw_region ?_)))
  refine mvr (lr _) rfl ?_
  refine sq_ev rfl (ev_eql (lr _) (lr _)) ?_
  refine sq_nil ?_
  refine aw_false (less_b (by simp; omega)) ?_
  refine aw_skip (aw_seq (aw_seq (aw_region ?_)))
  refine mvr (lr _) rfl ?_
  refine asr (lr _) rfl ?_
  refine sq_nil (aw_block ?_)
  refine aw_loopk (ι := { g : Nat × List AObj // g.1 ≤ p.scenes.length - nxt now ∧ LX p l N g.2 now ∧ (st = true → k + (fm g.1 (segF p mm now)).length < m) }) [1, 2, 3, 5] (fun g => [(9, I (nxt now + g.1.1))])
   (fun _ g => T (k + (fm g.1.1 (segF p mm now)).length) ++ g.1.2) (fun g => p.scenes.length - nxt now - g.1.1) ⟨(0, locs p l N a G), Nat.zero_le _, ⟨a, G, rfl, hnow⟩, fun h => by simpa [fm] using hkm h⟩
   ⟨(by exact less_int (by simp)), lr _, lr _, lr _, lr _, trivial⟩ rfl ?_
  clear hnow
  rintro ⟨⟨d, Y⟩, hd, hX, hkd⟩
  dsimp only [keepS, St.put, sget, slotsOf, List.map_cons, List.map_nil, List.cons_append, List.nil_append, List.length_cons, List.length_nil, Nat.reduceBEq, Nat.reduceAdd, cond_true, cond_false]
  dsimp only at hd hX hkd
  obtain ⟨a, G, hY, hnow⟩ := hX
  subst hY
  have hTk := it.hT (k + (fm d (segF p mm now)).length)
  refine aw_seq (aw_seq (aw_region ?_))
  refine mvr (lr _) rfl ?_
  refine mvr (lr _) rfl ?_
  refine sq_ev rfl (ev_add (lr _) (lr _) (wr (by omega) (by omega))) ?_
  refine sq_ev rfl (ev_fieldAddr_i fo27_3 (lr _)) ?_
  refine sq_ev rfl (ev_load_i (lr _) ty25 rfl) ?_
  refine sq_ev rfl (ev_len_map sl25 (lr _)) ?_
  refine sq_ev rfl (ev_leq (lr _) (lr _)) ?_
  refine sq_nil ?_
  refine aw_cond (lr _) (fun c2 => ?_) (fun c2 => ?_)
  ·
   have c2' : nxt now + d + (mm + 1) ≤ p.scenes.length := by simp at c2; omega
   have hdl : d < p.scenes.length - nxt now := by omega
   have hmem' : ∀ x ∈ now ++ [nxt now + d], x < p.scenes.length := fun x hx => by
    rcases List.mem_append.1 hx with h | h
    ·
     exact hmem x h
    ·
     simp at h; omega
   refine aw_skip (aw_seq (aw_block (aw_seq (aw_region ?_))))
   refine sq_ev rfl (ev_load (lr _) (box1 hTk) ty34 rfl) ?_
   refine mvr (lr _) rfl ?_
   refine sq_ev rfl (ev_buildSlice (es := [[_]]) sf34 rfl rfl rfl rfl) ?_
   refine sq_now_append (n := nxt now + d) rfl rfl cv hTk hnow (lr _) ((less_slx 1 [[I ((nxt now : Int) + d)]]).trans (Less.eq (by simp))) fun a' G' hnow' => ?_
   refine sq_storeP (H0 := T (k + (fm d (segF p mm now)).length)) (X := locs p l N a G') (j := 1) rfl (Less.eq (by rw [hTk]; rfl)) (lr _) (now_cells hnow') rfl ty34 rfl rfl ?_
   refine sq_nil (aw_seq (aw_seq (aw_region ?_)))
   refine sq_ev rfl (ev_load (lr _) (box2 (a := a') hTk) ty182 rfl) ?_
   refine mvr (lr _) rfl ?_
   refine sq_ev rfl (ev_add (lr _) (lr _) (wr (by omega) (by omega))) ?_
   refine mvr (lr _) rfl ?_
   refine sq_ev rfl (ev_sub (lr _) (lr _) (wr (by omega) (by omega))) ?_
   refine sq_callE (es := e) hle rfl en156 (lr _) (args := [I (nxt (now ++ [nxt now + d])), I mm, .iptr (planC p), .ptr (N + 1) 0, .ptr (N + 0) 0, .ptr (N + 2) 0])
    ⟨less_int (by rw [nxt_app]; simp), less_int (by omega), lr _, lr _, lr _, lr _, trivial⟩
    (ih (now ++ [nxt now + d]) (k + (fm d (segF p mm now)).length) (locs p l N a' G') hmem' (by simp; omega) ⟨a', G', rfl, hnow'⟩ hkd (fun i y hi => by
     have := hseg ((fm d (segF p mm now)).length + i) y (by rw [seg_succ]; exact fm_get _ hdl hi)
     rwa [← Nat.add_assoc] at this)) ?_ (fun v H' ⟨X', h⟩ => by split at h <;> cases h.1)
   rintro v H' ⟨X', hR⟩
   split at hR
   ·
    rename_i hstop
    obtain ⟨h1, rfl⟩ := hR
    cases h1
    refine sq_ev rfl (ev_not (lr _)) ?_
    refine sq_nil ?_
    refine aw_true (lr _) ?_
    refine aw_seq (aw_region ?_)
    refine asr (lr _) rfl ?_
    refine sq_nil (aw_ret ?_)
    refine ⟨_, B false, rfl, rfl, X', ?_⟩
    have hle2 := fm_len_le (segF p mm now) (a := d + 1) (b := p.scenes.length - nxt now) (by omega)
    rw [fm_succ, List.length_append] at hle2
    have e1 : (segF p mm now d).length = (seg p mm (now ++ [nxt now + d])).length := rfl
    have hst2 := hstop.2
    rw [if_pos ⟨hstop.1, by rw [seg_succ]; omega⟩]
    exact ⟨rfl, rfl⟩
   ·
    rename_i hstop
    obtain ⟨h1, h2, a2, G2, rfl, hnow2⟩ := hR
    cases h1
    have hq : k + (fm d (segF p mm now)).length + (seg p mm (now ++ [nxt now + d])).length = k + (fm (d + 1) (segF p mm now)).length := by
     rw [fm_succ, List.length_append]; unfold segF; omega
    rw [hq] at h2 hstop
    subst h2
    have hTk2 := it.hT (k + (fm (d + 1) (segF p mm now)).length)
    refine sq_ev rfl (ev_not (lr _)) ?_
    refine sq_nil ?_
    refine aw_false (lr _) ?_
    refine aw_skip ?_
    rcases hnow2 with ⟨_, h0⟩ | ⟨j, cap, rs, rfl, hj, hrs, hcap⟩
    ·
     simp at h0
    rw [List.length_append, List.length_singleton] at hrs hcap
    refine aw_region ?_
    refine sq_ev rfl (ev_load (lr _) (box1 hTk2) ty34 rfl) ?_
    refine sq_ev rfl (ev_load (lr _) (box1 hTk2) ty34 rfl) ?_
    refine sq_ev rfl (ev_len_msl sl34 (lr _)) ?_
    refine sq_ev rfl (ev_sub (q := (now.length : Int)) (lr _) (lr _) (by rw [wr (by simp <;> omega) (by simp <;> omega)]; simp)) ?_
    refine sq_ev rfl (ev_slice_msl (hi := now.length) sl34 (lr _) (lr _) (by omega)) ?_
    refine sq_storeP (H0 := T (k + (fm (d + 1) (segF p mm now)).length)) (X := locs p l N _ G2) (j := 1) rfl (Less.eq (by rw [hTk2]; rfl)) (lr _) rfl rfl ty34 rfl rfl ?_
    refine sq_nil (aw_region ?_)
    refine mvr (lr _) rfl ?_
    refine sq_ev rfl (ev_add (lr _) (lr _) (wr (by omega) (by omega))) ?_
    refine asr (lr _) rfl ?_
    refine sq_nil ?_
    refine ⟨⟨(d + 1, locs p l N (.msl (N + (3 + j)) 0 now.length cap) G2), by simp only; omega, ⟨_, G2, rfl, .inr ⟨j, cap, I ((nxt now + d : Nat) : Int) :: rs, rfl, ?_, ?_, by omega⟩⟩, fun h => ?_⟩, by simp only; omega, Sub.slots ⟨(by exact less_int (by simp <;> omega)), lr _, lr _, lr _, lr _, trivial⟩⟩
    ·
     rw [hj]; simp
    ·
     simp only [List.length_cons, hrs]; omega
    ·
     simp only
     have : ¬ m ≤ k + (fm (d + 1) (segF p mm now)).length := fun h' => hstop ⟨h, h'⟩
     omega
  ·
   have c2' : p.scenes.length < nxt now + d + (mm + 1) := by simp at c2; omega
   have hsc := seg_cut (p := p) (m := mm) (now := now) hd c2'
   refine aw_exit (aw_seq (aw_region ?_))
   refine asr (lr _) rfl ?_
   refine sq_nil (aw_ret ?_)
   refine ⟨_, B true, rfl, rfl, locs p l N a G, ?_⟩
   rw [hsc, if_neg (fun h => by have := hkd h.1; have := h.2; omega)]
   exact ⟨rfl, rfl, a, G, rfl, hnow⟩


end Go.Proofs.YtjghdbdiejaacaaGreatDoor
