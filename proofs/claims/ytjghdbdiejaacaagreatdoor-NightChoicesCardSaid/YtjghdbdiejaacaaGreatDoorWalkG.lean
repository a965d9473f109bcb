/-
  Conditions: none.
-/
import Derived.Test.YtjghdbdiejaacaaGreatDoorWalkF
import Derived.Test.YtjghdbdiejaacaaGreatDoorSpec
import Derived.Test.YtjghdbdiejaacaaGreatDoorLogicD
import Derived.Test.YtjghdbdiejaacaaGreatDoorShelf
set_option linter.all false
namespace Go.Proofs.YtjghdbdiejaacaaGreatDoor
open Go Go.Ab Ni
theorem en145 : Ent Tryz.prog 145 := Ent.of Tryz.func145 (by kernel_rfl) rfl
theorem en146 : Ent Tryz.prog 146 := Ent.of Tryz.func146 (by kernel_rfl) rfl
theorem en94 : Ent Tryz.prog 94 := Ent.of Tryz.func94 (by kernel_rfl) rfl
theorem en95 : Ent Tryz.prog 95 := Ent.of Tryz.func95 (by kernel_rfl) rfl
theorem en96 : Ent Tryz.prog 96 := Ent.of Tryz.func96 (by kernel_rfl) rfl

def begC (p : Pl) (n : Nat) (l : List Nat) : Int × Int :=
  (max ((fw p l (scn p n).part.toNat).1 + lsum p (befP p l n)) ((bw p l (2 - (scn p n).part.toNat)).1 - hsum p (n :: behP p l n)),
   min ((fw p l (scn p n).part.toNat).2 + hsum p (befP p l n)) ((bw p l (2 - (scn p n).part.toNat)).2 - lsum p (n :: behP p l n)))
def longC (p : Pl) (n : Nat) (l : List Nat) : Int × Int :=
  (max (scn p n).least ((bw p l (2 - (scn p n).part.toNat)).1 - (fw p l (scn p n).part.toNat).2 - hsum p (befP p l n ++ behP p l n)),
   min (scn p n).most ((bw p l (2 - (scn p n).part.toNat)).2 - (fw p l (scn p n).part.toNat).1 - lsum p (befP p l n ++ behP p l n)))
theorem beh_lt {p : Pl} {l : List Nat} {n : Nat} (h : n ∈ l) : (behP p l n).length < l.length := by
  have h1 : (behP p l n).length ≤ (l.filter fun x => decide (n < x)).length := by
    unfold behP ofP; rw [List.filter_filter]
    have : (l.filter fun a => decide (n < a) && inPart p (scn p n).part a) = (l.filter fun x => decide (n < x)).filter (inPart p (scn p n).part) := by rw [List.filter_filter]; congr 1; funext a; rw [Bool.and_comm]
    rw [this]; exact List.length_filter_le _ _
  have h2 : (l.filter fun x => decide (n < x)).length < l.length := by
    rw [List.length_filter_lt_length_iff_exists]
    exact ⟨n, h, by simp⟩
  omega
theorem beh_cv {p : Pl} {l : List Nat} {n : Nat} (cv : CV p l) (h : n ∈ l) : CV p (n :: behP p l n) := by
  have h1 := beh_lt (p := p) h
  have h2 := cv.len
  refine ⟨by simp; omega, fun x hx => ?_⟩
  rcases List.mem_cons.1 hx with rfl | hx
  · exact cv.rng _ h
  · exact (filter_cv (ofP_cv cv _) _).rng x hx
theorem bef_cv {p : Pl} {l : List Nat} {n : Nat} (cv : CV p l) : CV p (befP p l n) := filter_cv (ofP_cv cv _) _
theorem bb_len {p : Pl} {l : List Nat} {n : Nat} : (befP p l n).length + (behP p l n).length ≤ l.length := by
  have key : ∀ (L : List Nat), (L.filter fun x => decide (x < n)).length + (L.filter fun x => decide (n < x)).length ≤ L.length := by
    intro L
    induction L with
    | nil => simp
    | cons a L ih =>
      simp only [List.filter_cons, List.length_cons]
      by_cases h1 : a < n
      · have h2 : ¬ n < a := by omega
        simp only [h1, h2, decide_true, decide_false, if_true, List.length_cons]; simp only [Bool.false_eq_true, if_false]; omega
      · by_cases h2 : n < a
        · simp only [h1, h2, decide_true, decide_false, if_true, List.length_cons]; simp only [Bool.false_eq_true, if_false]; omega
        · simp only [h1, h2, decide_false]; simp only [Bool.false_eq_true, if_false]; omega
  have := key (ofP p l (scn p n).part)
  have := List.length_filter_le (inPart p (scn p n).part) l
  unfold befP behP; unfold ofP at *; omega
theorem bb_cv {p : Pl} {l : List Nat} {n : Nat} (cv : CV p l) : CV p (befP p l n ++ behP p l n) := by
  have h1 := bb_len (p := p) (l := l) (n := n)
  have h2 := cv.len
  refine ⟨by rw [List.length_append]; omega, fun x hx => ?_⟩
  rcases List.mem_append.1 hx with hx | hx
  · exact (bef_cv cv).rng x hx
  · exact (filter_cv (ofP_cv cv _) _).rng x hx
/-- the choices with a scene -/
def selT (p : Pl) (n i : Nat) : List (List Nat) := ((choicesC p).take i).filter fun l => decide (n ∈ l)
def ovT (p : Pl) (n : Nat) (F : List Nat → Int × Int) (i : Nat) : Int × Int := wd ((selT p n i).map F)
def overR (p : Pl) (n : Int) (F : Nat → List Nat → Int × Int) : (Int × Int) × Int :=
  if PlOK p = true ∧ isSc p n = true then (if (choicesC p).length = 0 then ((0, 0), 7) else if (selT p n.toNat (choicesC p).length).length = 0 then ((0, 0), 5)
    else (ovT p n.toNat (F n.toNat) (choicesC p).length, 0)) else ((0, 0), 2)
abbrev overAV (p : Pl) (n : Int) (F : Nat → List Nat → Int × Int) : AV := .tup [.agg [I (overR p n F).1.1, I (overR p n F).1.2], I (overR p n F).2]
theorem sel_yes {p : Pl} {n j : Nat} (h : j < (choicesC p).length) (k : n ∈ (choicesC p)[j]) : selT p n (j + 1) = selT p n j ++ [(choicesC p)[j]] := by
  unfold selT; rw [filter_take_succ _ h, if_pos (by simpa using k)]
theorem sel_no {p : Pl} {n j : Nat} (h : j < (choicesC p).length) (k : ¬ n ∈ (choicesC p)[j]) : selT p n (j + 1) = selT p n j := by
  unfold selT; rw [filter_take_succ _ h, if_neg (by simpa using k), List.append_nil]
theorem ov_yes {p : Pl} {n j : Nat} (F : List Nat → Int × Int) (h : j < (choicesC p).length) (k : n ∈ (choicesC p)[j]) : ovT p n F (j + 1) = if decide (0 < (selT p n j).length) = true then (min (ovT p n F j).1 (F (choicesC p)[j]).1, max (ovT p n F j).2 (F (choicesC p)[j]).2) else F (choicesC p)[j] := by
  unfold ovT; rw [sel_yes h k, List.map_append]
  by_cases h0 : 0 < (selT p n j).length
  · rw [if_pos (by simpa using h0)]
    exact wd_app (by intro he; have := congrArg List.length he; rw [List.length_map, List.length_nil] at this; omega) _
  · rw [if_neg (by simpa using h0)]
    have : selT p n j = [] := List.length_eq_zero_iff.1 (by omega)
    rw [this]; rfl
theorem cells3 {x y : AObj} {a a' b b' : Int} (h : a = a') (k : b = b') : [x, y, AObj.cells [I a, I b]] = [x, y, .cells [I a', I b']] := by rw [h, k]
theorem partOf_ok {p : Pl} (h : PlOK p = true) {n : Nat} (hn : n < p.scenes.length) : ∃ k : Nat, (scn p n).part = (k : Int) ∧ k < 3 := by
  simp only [PlOK, wnd, inn, Bool.and_eq_true, decide_eq_true_eq] at h
  have := h.2.1 n hn
  simp only [scBad, inn, Bool.or_eq_false_iff, Bool.not_eq_false', Bool.and_eq_true, decide_eq_true_eq] at this
  refine ⟨(p.scenes[n]).part.toNat, by rw [scn_eq hn]; omega, by omega⟩
set_option maxHeartbeats 1000000 in
/-- (kelir/night.played).begins -/
theorem nbegins_pure {p : Pl} {l : List Nat} {n k : Nat} (gp : GP p) (cv : CV p l) (hm : n ∈ l) (hk : (scn p n).part = (k : Int)) (hk3 : k < 3) (hff : ffail p l = none) : APure Tryz.prog 95 [played p l, I n] (.agg [I (begC p n l).1, I (begC p n l).2]) := by
  refine apure_of (rs := [.cell 4 23]) Tryz.func95 rfl rfl (Nat.le_of_ble_eq_true rfl) (by simp [AV.pureL, AV.pureB, AV.pureE, pureE_map]) (rfl) fun e0 he0 => ?_
  refine aw_seq (aw_region ?_)
  refine sq_box rfl (lr _) rfl ?_
  refine sq_alloc rfl z23 ?_
  refine sq_nil (aw_seq ?_)
  have hn := cv.rng n hm
  have he := scn_eq hn
  have hk1 : (p.scenes[n]).part = (k : Int) := he ▸ hk
  have hkt : (scn p n).part.toNat = k := by omega
  have b1 := fw_bd gp cv k
  have b2 := bw_bd gp cv (2 - k)
  have b3 := lsum_bd gp (bef_cv (n := n) cv)
  have b4 := hsum_bd gp (bef_cv (n := n) cv)
  have b5 := lsum_bd gp (beh_cv cv hm)
  have b6 := hsum_bd gp (beh_cv cv hm)
  have hbl := beh_lt (p := p) hm
  have hcl := cv.len
  refine aw_region ?_
  refine sq_ev rfl (ev_fieldAddr fo110_0 (lr _)) ?_
  refine sq_ev rfl (ev_fieldAddr fo27_3 (lr _)) ?_
  refine sq_ev rfl (ev_load (lr _) rfl ty25 rfl) ?_
  refine sq_ev rfl (ev_mv (v := .raw _) (lr _)) ?_
  refine sq_ev rfl (ev_index_map sl25 (lr _) (lr _) rfl (by omega)) ?_
  refine sq_ev rfl (ev_fieldAddr_i fo84_0 (lr _)) ?_
  refine sq_ev rfl (ev_less (ev_load_i (lr _) ty3 rfl) (less_int hk1)) ?_
  refine sq_ev rfl (ev_as (v := .raw _) (lr _)) ?_
  refine sq_nil (aw_seq ?_)
  refine aw_drawc [8, 9] [10, 11] _ mo (by kernel_rfl) (HSub.refl _) ?_
  refine dc_ev rfl (ev_load_agg (lr _) rfl ty110 rfl) ?_
  refine dc_ev rfl (ev_call en99 (lr _) (nforward_pure p l gp cv hff) ⟨lr _, trivial⟩) ?_
  refine dc_ev rfl (ev_mv (v := .raw _) (lr _)) ?_
  refine dc_ev rfl (ev_less (ev_indexv_agg (k := k) ar118 ty23 (lr _) (lr _) rfl (by omega)) (Less.eq (b := .agg [I (fw p l k).1, I (fw p l k).2]) (by rcases k with _ | _ | _ | k <;> first | rfl | omega))) ?_
  refine dc_ev rfl (ev_load_agg (lr _) rfl ty110 rfl) ?_
  refine dc_ev rfl (ev_call en100 (lr _) (nbackward_pure p l gp cv) ⟨lr _, trivial⟩) ?_
  refine dc_ev rfl (ev_mv (v := .raw _) (lr _)) ?_
  refine dc_ev rfl (ev_less (ev_indexv_agg (k := k) ar120 ty23 (lr _) (lr _) rfl (by omega)) (Less.eq (b := .agg [I (bw p l (2 - k)).1, I (bw p l (2 - k)).2]) (by rcases k with _ | _ | _ | k <;> first | rfl | omega))) ?_
  refine dc_alloc rfl rfl z23 ?_
  refine dc_alloc rfl rfl z23 ?_
  refine dc_eff rfl rfl (eff_store rfl (lr _) (lr _) rfl rfl ty23 rfl rfl) (by apply HL.sub; repeat' (first | exact HL.nil _ | apply HL.same | apply HL.tok)) ?_
  refine dc_eff rfl rfl (eff_store rfl (lr _) (lr _) rfl rfl ty23 rfl rfl) (by apply HL.sub; repeat' (first | exact HL.nil _ | apply HL.same | apply HL.tok)) ?_
  refine dc_nil (aw_seq (aw_region ?_))
  refine sq_ev rfl (ev_load_agg (lr _) rfl ty110 rfl) ?_
  refine sq_ev rfl (ev_mv (v := .raw _) (lr _)) ?_
  refine sq_ev rfl (ev_call en145 (lr _) (nothers_pure p l n gp cv hn) ⟨lr _, lr _, trivial⟩) ?_
  refine sq_ev rfl (ev_mv (v := .tup _) (lr _)) ?_
  refine sq_ev rfl (ev_extract (lr _) rfl) ?_
  refine sq_ev rfl (ev_extract (lr _) rfl) ?_
  refine sq_ev rfl (ev_as (v := .sl _ _) (lr _)) ?_
  refine sq_ev rfl (ev_as (v := .sl _ _) (lr _)) ?_
  refine sq_nil (aw_seq ?_)
  refine aw_drawc [9, 10] [11, 12] _ mo (by kernel_rfl) (HSub.refl _) ?_
  refine dc_ev rfl (ev_load_agg (lr _) rfl ty110 rfl) ?_
  refine dc_ev rfl (ev_mv (v := .sl _ _) (lr _)) ?_
  refine dc_ev rfl (ev_call en135 (lr _) (nlasts_pure p l _ gp (bef_cv cv)) ⟨lr _, lr _, trivial⟩) ?_
  refine dc_ev rfl (ev_load_agg (lr _) rfl ty110 rfl) ?_
  refine dc_ev rfl (ev_mv (v := .raw _) (lr _)) ?_
  refine dc_ev rfl (ev_buildSlice (es := [[_]]) sf34 rfl rfl rfl rfl) ?_
  refine dc_ev rfl (ev_mv (v := .sl _ _) (lr _)) ?_
  refine dc_ev rfl (ev_append sf34 Tryz.underlying34 (lr _) (lr _) (by simp; omega) (by simp; omega)) ?_
  refine dc_ev rfl (ev_call en135 (lr _) (nlasts_pure p l (n :: behP p l n) gp (beh_cv cv hm)) ⟨lr _, lr _, trivial⟩) ?_
  refine dc_alloc rfl rfl z23 ?_
  refine dc_alloc rfl rfl z23 ?_
  refine dc_eff rfl rfl (eff_store rfl (lr _) (lr _) rfl rfl ty23 rfl rfl) (by apply HL.sub; repeat' (first | exact HL.nil _ | apply HL.same | apply HL.tok)) ?_
  refine dc_eff rfl rfl (eff_store rfl (lr _) (lr _) rfl rfl ty23 rfl rfl) (by apply HL.sub; repeat' (first | exact HL.nil _ | apply HL.same | apply HL.tok)) ?_
  refine dc_nil (aw_seq (aw_region ?_))
  refine sq_ev rfl (ev_fieldAddr fo23_0 (lr _)) ?_
  refine sq_ev rfl (ev_load (lr _) rfl ty3 rfl) ?_
  refine sq_ev rfl (ev_fieldAddr fo23_0 (lr _)) ?_
  refine sq_ev rfl (ev_load (lr _) rfl ty3 rfl) ?_
  refine sq_ev rfl (ev_add (lr _) (lr _) (wr (by omega) (by omega))) ?_
  refine sq_ev rfl (ev_fieldAddr fo23_1 (lr _)) ?_
  refine sq_ev rfl (ev_load (lr _) rfl ty3 rfl) ?_
  refine sq_ev rfl (ev_fieldAddr fo23_1 (lr _)) ?_
  refine sq_ev rfl (ev_load (lr _) rfl ty3 rfl) ?_
  refine sq_ev rfl (ev_add (lr _) (lr _) (wr (by omega) (by omega))) ?_
  refine sq_ev rfl (ev_build bi23 rfl) ?_
  refine sq_ev rfl (ev_fieldAddr fo23_0 (lr _)) ?_
  refine sq_ev rfl (ev_load (lr _) rfl ty3 rfl) ?_
  refine sq_ev rfl (ev_fieldAddr fo23_1 (lr _)) ?_
  refine sq_ev rfl (ev_load (lr _) rfl ty3 rfl) ?_
  refine sq_ev rfl (ev_sub (lr _) (lr _) (wr (by omega) (by omega))) ?_
  refine sq_ev rfl (ev_fieldAddr fo23_1 (lr _)) ?_
  refine sq_ev rfl (ev_load (lr _) rfl ty3 rfl) ?_
  refine sq_ev rfl (ev_fieldAddr fo23_0 (lr _)) ?_
  refine sq_ev rfl (ev_load (lr _) rfl ty3 rfl) ?_
  refine sq_ev rfl (ev_sub (lr _) (lr _) (wr (by omega) (by omega))) ?_
  refine sq_ev rfl (ev_build bi23 rfl) ?_
  refine sq_ev rfl (ev_call en98 (lr _) (nboth_pure _ _ _ _) ⟨lr _, lr _, trivial⟩) ?_
  refine sq_store rfl (lr _) (lr _) rfl rfl ty23 rfl rfl ?_
  refine sq_nil (aw_ret ?_)
  exact retQ_res (vs := [.agg _]) rfl rfl ⟨resVar_cell rfl rfl ty23 rfl, trivial⟩ (Less.eq (by simp [begC, hkt]))

set_option maxHeartbeats 1000000 in
/-- (kelir/night.played).long -/
theorem nlong_pure {p : Pl} {l : List Nat} {n k : Nat} (gp : GP p) (cv : CV p l) (hm : n ∈ l) (hk : (scn p n).part = (k : Int)) (hk3 : k < 3) (hff : ffail p l = none) : APure Tryz.prog 96 [played p l, I n] (.agg [I (longC p n l).1, I (longC p n l).2]) := by
 refine apure_of (rs := [.cell 4 23]) Tryz.func96 rfl rfl (Nat.le_of_ble_eq_true rfl) (by simp [AV.pureL, AV.pureB, AV.pureE, pureE_map]) (rfl) fun e0 he0 => ?_
 refine aw_seq (aw_region ?_)
 refine sq_box rfl (lr _) rfl ?_
 refine sq_alloc rfl z23 ?_
 refine sq_nil (aw_seq ?_)
 have hn := cv.rng n hm
 have he := scn_eq hn
 have hk1 : (p.scenes[n]).part = (k : Int) := he ▸ hk
 have hkt : (scn p n).part.toNat = k := by omega
 have b1 := fw_bd gp cv k
 have b2 := bw_bd gp cv (2 - k)
 have b3 := lsum_bd gp (bb_cv (n := n) cv)
 have b4 := hsum_bd gp (bb_cv (n := n) cv)
 have hbl := bb_len (p := p) (l := l) (n := n)
 have hcl := cv.len
 have hfe : [befP p l n, behP p l n].flatten = befP p l n ++ behP p l n := by simp
 refine aw_region ?_
 refine sq_ev rfl (ev_fieldAddr fo110_0 (lr _)) ?_
 refine sq_ev rfl (ev_fieldAddr fo27_3 (lr _)) ?_
 refine sq_ev rfl (ev_load (lr _) rfl ty25 rfl) ?_
 refine sq_ev rfl (ev_mv (v := .raw _) (lr _)) ?_
 refine sq_ev rfl (ev_index_map sl25 (lr _) (lr _) rfl (by omega)) ?_
 refine sq_ev rfl (ev_load_agg_i (lr _) ty84 (Nat.le_of_ble_eq_true rfl)) ?_
 refine sq_alloc rfl z84 ?_
 refine sq_store rfl (lr _) (lr _) rfl rfl ty84 rfl rfl ?_
 refine sq_nil (aw_seq ?_)
 refine aw_drawc [10, 11] [12, 13] _ mo (by kernel_rfl) (HSub.refl _) ?_
 refine dc_ev rfl (ev_load_agg (lr _) rfl ty110 rfl) ?_
 refine dc_ev rfl (ev_call en99 (lr _) (nforward_pure p l gp cv hff) ⟨lr _, trivial⟩) ?_
 refine dc_ev rfl (ev_fieldAddr fo84_0 (lr _)) ?_
 refine dc_ev rfl (ev_less (ev_load (lr _) rfl ty3 rfl) (less_int hk1)) ?_
 refine dc_ev rfl (ev_less (ev_indexv_agg (k := k) ar118 ty23 (lr _) (lr _) rfl (by omega)) (Less.eq (b := .agg [I (fw p l k).1, I (fw p l k).2]) (by rcases k with _ | _ | _ | k <;> first | rfl | omega))) ?_
 refine dc_ev rfl (ev_load_agg (lr _) rfl ty110 rfl) ?_
 refine dc_ev rfl (ev_call en100 (lr _) (nbackward_pure p l gp cv) ⟨lr _, trivial⟩) ?_
 refine dc_ev rfl (ev_fieldAddr fo84_0 (lr _)) ?_
 refine dc_ev rfl (ev_less (ev_load (lr _) rfl ty3 rfl) (less_int hk1)) ?_
 refine dc_ev rfl (ev_less (ev_indexv_agg (k := k) ar120 ty23 (lr _) (lr _) rfl (by omega)) (Less.eq (b := .agg [I (bw p l (2 - k)).1, I (bw p l (2 - k)).2]) (by rcases k with _ | _ | _ | k <;> first | rfl | omega))) ?_
 refine dc_alloc rfl rfl z23 ?_
 refine dc_alloc rfl rfl z23 ?_
 refine dc_eff rfl rfl (eff_store rfl (lr _) (lr _) rfl rfl ty23 rfl rfl) (by apply HL.sub; repeat' (first | exact HL.nil _ | apply HL.same | apply HL.tok)) ?_
 refine dc_eff rfl rfl (eff_store rfl (lr _) (lr _) rfl rfl ty23 rfl rfl) (by apply HL.sub; repeat' (first | exact HL.nil _ | apply HL.same | apply HL.tok)) ?_
 refine dc_nil (aw_seq (aw_region ?_))
 refine sq_ev rfl (ev_load_agg (lr _) rfl ty110 rfl) ?_
 refine sq_ev rfl (ev_mv (v := .raw _) (lr _)) ?_
 refine sq_ev rfl (ev_call en145 (lr _) (nothers_pure p l n gp cv hn) ⟨lr _, lr _, trivial⟩) ?_
 refine sq_ev rfl (ev_mv (v := .tup _) (lr _)) ?_
 refine sq_ev rfl (ev_extract (lr _) rfl) ?_
 refine sq_ev rfl (ev_extract (lr _) rfl) ?_
 refine sq_ev rfl (ev_as (v := .sl _ _) (lr _)) ?_
 refine sq_ev rfl (ev_as (v := .sl _ _) (lr _)) ?_
 refine sq_nil (aw_seq ?_)
 refine aw_draw 7 mo (by kernel_rfl) ?_
 refine dr_ev rfl (ev_load_agg (lr _) rfl ty110 rfl) ?_
 refine dr_ev rfl (ev_mv (v := .sl _ _) (lr _)) ?_
 refine dr_ev rfl (ev_mv (v := .sl _ _) (lr _)) ?_
 refine dr_ev rfl (ev_buildSlice (es := [[_], [_]]) sf30 rfl rfl rfl rfl) ?_
 refine dr_ev rfl (ev_call en146 (lr _) (nconcat_pure [befP p l n, behP p l n] (by rw [hfe, List.length_append]; omega) (by simp)) ⟨less_slx _ _, trivial⟩) ?_
 refine dr_ev rfl (ev_call en135 (lr _) (nlasts_pure p l (befP p l n ++ behP p l n) gp (bb_cv cv)) ⟨lr _, Less.eq (b := nats (befP p l n ++ behP p l n)) (congrArg (fun x => nats x) hfe), trivial⟩) ?_
 refine dr_alloc rfl z23 ?_
 refine dr_end ?_
 refine sq_store rfl (lr _) (lr _) rfl rfl ty23 rfl rfl ?_
 refine sq_nil (aw_seq (aw_region ?_))
 refine sq_ev rfl (ev_fieldAddr fo84_1 (lr _)) ?_
 refine sq_ev rfl (ev_load (lr _) rfl ty3 rfl) ?_
 refine sq_ev rfl (ev_fieldAddr fo84_2 (lr _)) ?_
 refine sq_ev rfl (ev_load (lr _) rfl ty3 rfl) ?_
 refine sq_ev rfl (ev_build bi23 rfl) ?_
 refine sq_ev rfl (ev_fieldAddr fo23_0 (lr _)) ?_
 refine sq_ev rfl (ev_load (lr _) rfl ty3 rfl) ?_
 refine sq_ev rfl (ev_fieldAddr fo23_1 (lr _)) ?_
 refine sq_ev rfl (ev_load (lr _) rfl ty3 rfl) ?_
 refine sq_ev rfl (ev_sub (lr _) (lr _) (wr (by omega) (by omega))) ?_
 refine sq_ev rfl (ev_fieldAddr fo23_1 (lr _)) ?_
 refine sq_ev rfl (ev_load (lr _) rfl ty3 rfl) ?_
 refine sq_ev rfl (ev_sub (lr _) (lr _) (wr (by omega) (by omega))) ?_
 refine sq_ev rfl (ev_fieldAddr fo23_1 (lr _)) ?_
 refine sq_ev rfl (ev_load (lr _) rfl ty3 rfl) ?_
 refine sq_ev rfl (ev_fieldAddr fo23_0 (lr _)) ?_
 refine sq_ev rfl (ev_load (lr _) rfl ty3 rfl) ?_
 refine sq_ev rfl (ev_sub (lr _) (lr _) (wr (by omega) (by omega))) ?_
 refine sq_ev rfl (ev_fieldAddr fo23_0 (lr _)) ?_
 refine sq_ev rfl (ev_load (lr _) rfl ty3 rfl) ?_
 refine sq_ev rfl (ev_sub (lr _) (lr _) (wr (by omega) (by omega))) ?_
 refine sq_ev rfl (ev_build bi23 rfl) ?_
 refine sq_ev rfl (ev_call en98 (lr _) (nboth_pure _ _ _ _) ⟨lr _, lr _, trivial⟩) ?_
 refine sq_store rfl (lr _) (lr _) rfl rfl ty23 rfl rfl ?_
 refine sq_nil (aw_ret ?_)
 exact retQ_res (vs := [.agg _]) rfl rfl ⟨resVar_cell rfl rfl ty23 rfl, trivial⟩ (Less.eq (by simp [longC, hkt]; exact ⟨by rw [he], by rw [he]⟩))

set_option maxHeartbeats 2000000 in
/-- kelir/night.over -/
theorem nover95_pure (p : Pl) (n' : Int) (hl0 : p.scenes.length ≤ 1000000) : APure Tryz.prog 94 [plan p, I n', .fn (.func 95) [] []] (overAV p n' (begC p)) := by
 refine apure_of (rs := [.cell 6 23, .tmp 7]) Tryz.func94 rfl rfl (Nat.le_of_ble_eq_true rfl) (by simp [AV.pureL, AV.pureB, AV.pureE, pureE_map]) (rfl) fun e0 he0 => ?_
 refine aw_seq (aw_region ?_)
 refine sq_box rfl (lr _) rfl ?_
 refine sq_alloc rfl z23 ?_
 refine sq_ev rfl (ev_as (v := .raw _) (lr _)) ?_
 refine sq_nil (aw_seq (aw_seq (aw_region ?_)))
 refine sq_ev rfl (ev_load_agg (lr _) rfl ty27 rfl) ?_
 refine sq_ev rfl (ev_call en85 (lr _) (isplan_pure p hl0) ⟨lr _, trivial⟩) ?_
 refine sq_ev rfl (ev_not (lr _)) ?_
 refine sq_ev rfl (ev_mv (v := .raw _) (lr _)) ?_
 refine sq_split 16 (lr _) (fun g1 => ?_) (fun g1 => ?_)
 ·
  have g1' := g1
  try simp only [qq1, qq2, qq3, qq4, qq5, qq6, qq7, qq8, qq9, qq10, qq11, qq12, qq13] at g1'
  refine sq_no rfl rfl (less_b g1) rfl rfl ?_
  refine sq_no rfl rfl (less_b g1) rfl rfl ?_
  refine sq_no rfl rfl (less_b g1) rfl rfl ?_
  refine sq_no rfl rfl (less_b g1) rfl rfl ?_
  refine sq_ev rfl (ev_pickT (v := .raw _) (less_b g1) (lr _)) ?_
  refine sq_nil ?_
  refine aw_true (lr _) ?_
  refine aw_seq (aw_region ?_)
  refine sq_ev rfl (ev_build bi23 rfl) ?_
  refine sq_store rfl (lr _) (lr _) rfl rfl ty23 rfl rfl ?_
  refine sq_ev rfl (ev_as (v := .raw _) (lr _)) ?_
  refine sq_nil (aw_ret ?_)
  exact retQ_res (vs := [.agg _, .raw _]) rfl rfl ⟨resVar_cell rfl rfl ty23 rfl, resVar_tmp _ _ _, trivial⟩ (Less.eq (by simp [overR, g1']))
 ·
  have g1' := g1
  try simp only [qq1, qq2, qq3, qq4, qq5, qq6, qq7, qq8, qq9, qq10, qq11, qq12, qq13] at g1'
  refine sq_yes rfl rfl (less_b g1) rfl (ev_load_agg (lr _) rfl ty27 rfl) ?_
  refine sq_yes rfl rfl (less_b g1) rfl (ev_mv (v := .raw _) (lr _)) ?_
  refine sq_yes rfl rfl (less_b g1) rfl (ev_call en133 (lr _) (nisscene_pure p n' hl0) ⟨lr _, lr _, trivial⟩) ?_
  refine sq_yes rfl rfl (less_b g1) rfl (ev_not (lr _)) ?_
  refine sq_ev rfl (ev_pickF (v := .raw _) (less_b g1) (lr _)) ?_
  refine sq_nil ?_
  refine aw_cond (lr _) (fun c2 => ?_) (fun c2 => ?_)
  ·
   have c2' := c2
   try simp only [qq1, qq2, qq3, qq4, qq5, qq6, qq7, qq8, qq9, qq10, qq11, qq12, qq13] at c2'
   refine aw_seq (aw_region ?_)
   refine sq_ev rfl (ev_build bi23 rfl) ?_
   refine sq_store rfl (lr _) (lr _) rfl rfl ty23 rfl rfl ?_
   refine sq_ev rfl (ev_as (v := .raw _) (lr _)) ?_
   refine sq_nil (aw_ret ?_)
   exact retQ_res (vs := [.agg _, .raw _]) rfl rfl ⟨resVar_cell rfl rfl ty23 rfl, resVar_tmp _ _ _, trivial⟩ (Less.eq (by simp [overR, c2']))
  ·
   have c2' := c2
   try simp only [qq1, qq2, qq3, qq4, qq5, qq6, qq7, qq8, qq9, qq10, qq11, qq12, qq13] at c2'
   have hn1 : 0 ≤ n' ∧ n' < p.scenes.length := by simp only [isSc, inn, Bool.and_eq_true, decide_eq_true_eq] at c2'; omega
   obtain ⟨n, rfl⟩ : ∃ n : Nat, n' = (n : Int) := ⟨n'.toNat, by omega⟩
   obtain ⟨gp, wp⟩ := gp_of_ok g1'
   have hn : n < p.scenes.length := by omega
   obtain ⟨kp, hkp, hkp3⟩ := partOf_ok g1' hn
   have hcl := choicesC_len gp
   refine aw_skip (aw_seq (aw_region ?_))
   refine sq_ev rfl (ev_load_agg (lr _) rfl ty27 rfl) ?_
   refine sq_ev rfl (ev_call en86 (lr _) (nplayablew_pure gp wp) ⟨lr _, trivial⟩) ?_
   refine sq_ev rfl (ev_as (v := .sl _ _) (lr _)) ?_
   refine sq_nil (aw_seq (aw_seq (aw_region ?_)))
   refine sq_ev rfl (ev_mv (v := .sl _ _) (lr _)) ?_
   refine sq_ev rfl (ev_len_map sl107 (lr _)) ?_
   refine sq_ev rfl (ev_eql (lr _) (lr _)) ?_
   refine sq_nil ?_
   refine aw_cond (lr _) (fun c3 => ?_) (fun c3 => ?_)
   ·
    have c3' := c3
    try simp only [qq1, qq2, qq3, qq4, qq5, qq6, qq7, qq8, qq9, qq10, qq11, qq12, qq13] at c3'
    refine aw_seq (aw_region ?_)
    refine sq_ev rfl (ev_build bi23 rfl) ?_
    refine sq_store rfl (lr _) (lr _) rfl rfl ty23 rfl rfl ?_
    refine sq_ev rfl (ev_as (v := .raw _) (lr _)) ?_
    refine sq_nil (aw_ret ?_)
    exact retQ_res (vs := [.agg _, .raw _]) rfl rfl ⟨resVar_cell rfl rfl ty23 rfl, resVar_tmp _ _ _, trivial⟩ (Less.eq (by rw [overAV, overR, if_pos ⟨g1', by simpa using c2'⟩, if_pos (by omega)] <;> rfl))
   ·
    have c3' := c3
    try simp only [qq1, qq2, qq3, qq4, qq5, qq6, qq7, qq8, qq9, qq10, qq11, qq12, qq13] at c3'
    refine aw_skip (aw_seq (aw_region ?_))
    refine sq_alloc rfl z23 ?_
    refine sq_nil (aw_seq (aw_region ?_))
    refine sq_ev rfl (ev_as (v := .raw _) (lr _)) ?_
    refine sq_nil (aw_seq (aw_seq (aw_region ?_)))
    refine sq_ev rfl (ev_mv (v := .sl _ _) (lr _)) ?_
    refine sq_ev rfl (ev_len_map sl107 (lr _)) ?_
    refine sq_ev rfl (ev_mv (v := .raw _) (lr _)) ?_
    refine sq_nil (aw_block ?_)
    refine aw_loopk (ι := { j : Nat // j ≤ (choicesC p).length }) [1, 2, 6, 9, 29, 30] (fun i => [(31, I i.1), (10, B (decide (0 < (selT p n i.1).length)))]) (fun H i => H.set 2 (.cells [I (ovT p n (begC p n) i.1).1, I (ovT p n (begC p n) i.1).2])) (fun i => (choicesC p).length - i.1) (⟨0, Nat.zero_le _⟩) ⟨lr _, lr _, lr _, lr _, lr _, lr _, lr _, lr _, trivial⟩ rfl ?_
    rintro ⟨j, hj⟩
    dsimp only [keepS, St.put, sget, slotsOf, List.map_cons, List.map_nil, List.cons_append, List.nil_append, List.length_cons, List.length_nil, Nat.reduceBEq, Nat.reduceAdd, cond_true, cond_false]
    refine aw_seq (aw_region ?_)
    refine sq_ev rfl (ev_lss (lr _) (lr _)) ?_
    refine sq_nil (aw_seq ?_)
    refine aw_cond (lr _) (fun c4 => ?_) (fun c4 => ?_)
    ·
     have c4' := c4
     try simp only [qq1, qq2, qq3, qq4, qq5, qq6, qq7, qq8, qq9, qq10, qq11, qq12, qq13] at c4'
     have hj' : j < (choicesC p).length := by omega
     have hmm := List.getElem_mem hj'
     have cv := choicesC_mem gp _ hmm
     have hff := can_fwd gp wp hmm
     refine aw_skip (aw_seq (aw_block (aw_seq (aw_region ?_))))
     refine sq_ev rfl (ev_index_map sl107 (lr _) (lr _) rfl (by omega)) ?_
     refine sq_ev rfl (ev_load_agg_i (lr _) ty110 (Nat.le_of_ble_eq_true rfl)) ?_
     refine sq_alloc rfl z110 ?_
     refine sq_store rfl (lr _) (lr _) rfl rfl ty110 rfl rfl ?_
     refine sq_nil (aw_seq (aw_region ?_))
     refine sq_ev rfl (ev_fieldAddr fo110_1 (lr _)) ?_
     refine sq_ev rfl (ev_load (lr _) rfl ty34 rfl) ?_
     refine sq_ev rfl (ev_mv (v := .raw _) (lr _)) ?_
     refine sq_ev rfl (ev_call en106 (lr _) (ncontains_nats (choicesC p)[j] n (by have := (choicesC_mem gp _ (List.getElem_mem hj')).len; omega)) ⟨lr _, lr _, trivial⟩) ?_
     refine sq_nil ?_
     refine aw_cond (lr _) (fun c5 => ?_) (fun c5 => ?_)
     ·
      have c5' := c5
      try simp only [qq1, qq2, qq3, qq4, qq5, qq6, qq7, qq8, qq9, qq10, qq11, qq12, qq13] at c5'
      have hm : n ∈ (choicesC p)[j] := by simpa using c5'
      have eW := ov_yes (begC p n) hj' hm
      have eF : true = decide (0 < (selT p n (j + 1)).length) := by rw [sel_yes hj' hm]; simp
      have eW1 : (if decide (0 < (selT p n j).length) = true then min (ovT p n (begC p n) j).1 ((begC p n) (choicesC p)[j]).1 else ((begC p n) (choicesC p)[j]).1) = (ovT p n (begC p n) (j + 1)).1 := by rw [eW]; split <;> rfl
      have eW2 : (if decide (0 < (selT p n j).length) = true then max (ovT p n (begC p n) j).2 ((begC p n) (choicesC p)[j]).2 else ((begC p n) (choicesC p)[j]).2) = (ovT p n (begC p n) (j + 1)).2 := by rw [eW]; split <;> rfl
      refine aw_draw 7 mo (by kernel_rfl) ?_
      refine dr_ev rfl (ev_load_agg (lr _) rfl ty23 rfl) ?_
      refine dr_ev rfl (ev_mv (v := .raw _) (lr _)) ?_
      refine dr_ev rfl (ev_mv (v := .fn _ _ _) (lr _)) ?_
      refine dr_ev rfl (ev_load_agg (lr _) rfl ty110 rfl) ?_
      refine dr_ev rfl (ev_mv (v := .raw _) (lr _)) ?_
      refine dr_ev rfl (ev_call en95 (lr _) (nbegins_pure gp cv hm hkp hkp3 hff) ⟨lr _, lr _, trivial⟩) ?_
      refine dr_ev rfl (ev_call en97 (lr _) (nwiders_pure _ _ _ _ _) ⟨lr _, lr _, lr _, trivial⟩) ?_
      refine dr_end ?_
      refine sq_store rfl (lr _) (lr _) rfl rfl ty23 rfl rfl ?_
      refine sq_ev rfl (ev_as (v := .raw _) (lr _)) ?_
      refine sq_nil (aw_region ?_)
      refine sq_ev rfl (ev_add (lr _) (lr _) (wr (by omega) (by omega))) ?_
      refine sq_ev rfl (ev_mv (v := .raw _) (lr _)) ?_
      refine sq_nil ?_
      exact ⟨⟨j + 1, by omega⟩, by simp only; omega, Sub.fin 3 ⟨lr _, less_b eF, lr _, lr _, lr _, lr _, lr _, lr _, trivial⟩ (cells3 eW1 eW2) (by simp [slotsIn, objsIn, sget, keepS, AObj.inB, AV.inB, AV.inL, AV.inE, inE_map, inE_ints, inE_sc, -List.map_append, -List.map_take, -List.map_map]) (by simp [slotsIn, objsIn, sget, keepS, AObj.inB, AV.inB, AV.inL, AV.inE, inE_map, inE_ints, inE_sc, -List.map_append, -List.map_take, -List.map_map]) (by simp [he0])⟩
     ·
      have c5' := c5
      try simp only [qq1, qq2, qq3, qq4, qq5, qq6, qq7, qq8, qq9, qq10, qq11, qq12, qq13] at c5'
      have hm : ¬ n ∈ (choicesC p)[j] := by simpa using c5'
      have eF : decide (0 < (selT p n j).length) = decide (0 < (selT p n (j + 1)).length) := by rw [sel_no hj' hm]
      have eW1 : (ovT p n (begC p n) j).1 = (ovT p n (begC p n) (j + 1)).1 := by unfold ovT; rw [sel_no hj' hm]
      have eW2 : (ovT p n (begC p n) j).2 = (ovT p n (begC p n) (j + 1)).2 := by unfold ovT; rw [sel_no hj' hm]
      refine aw_skip (aw_region ?_)
      refine sq_ev rfl (ev_add (lr _) (lr _) (wr (by omega) (by omega))) ?_
      refine sq_ev rfl (ev_mv (v := .raw _) (lr _)) ?_
      refine sq_nil ?_
      exact ⟨⟨j + 1, by omega⟩, by simp only; omega, Sub.fin 3 ⟨lr _, less_b eF, lr _, lr _, lr _, lr _, lr _, lr _, trivial⟩ (cells3 eW1 eW2) (by simp [slotsIn, objsIn, sget, keepS, AObj.inB, AV.inB, AV.inL, AV.inE, inE_map, inE_ints, inE_sc, -List.map_append, -List.map_take, -List.map_map]) (by simp [slotsIn, objsIn, sget, keepS, AObj.inB, AV.inB, AV.inL, AV.inE, inE_map, inE_ints, inE_sc, -List.map_append, -List.map_take, -List.map_map]) (by simp [he0])⟩
    ·
     have c4' := c4
     try simp only [qq1, qq2, qq3, qq4, qq5, qq6, qq7, qq8, qq9, qq10, qq11, qq12, qq13] at c4'
     obtain rfl : j = (choicesC p).length := by omega
     refine aw_exit (aw_seq (aw_seq (aw_region ?_)))
     refine sq_ev rfl (ev_mv (v := .raw _) (lr _)) ?_
     refine sq_ev rfl (ev_not (lr _)) ?_
     refine sq_nil ?_
     refine aw_cond (lr _) (fun c6 => ?_) (fun c6 => ?_)
     ·
      have c6' := c6
      try simp only [qq1, qq2, qq3, qq4, qq5, qq6, qq7, qq8, qq9, qq10, qq11, qq12, qq13] at c6'
      refine aw_seq (aw_region ?_)
      refine sq_ev rfl (ev_build bi23 rfl) ?_
      refine sq_store rfl (lr _) (lr _) rfl rfl ty23 rfl rfl ?_
      refine sq_ev rfl (ev_as (v := .raw _) (lr _)) ?_
      refine sq_nil (aw_ret ?_)
      exact retQ_res (vs := [.agg _, .raw _]) rfl rfl ⟨resVar_cell rfl rfl ty23 rfl, resVar_tmp _ _ _, trivial⟩ (Less.eq (by rw [overAV, overR, if_pos ⟨g1', by simpa using c2'⟩, if_neg (by omega), if_pos (by show (selT p n _).length = 0; omega)] <;> rfl))
     ·
      have c6' := c6
      try simp only [qq1, qq2, qq3, qq4, qq5, qq6, qq7, qq8, qq9, qq10, qq11, qq12, qq13] at c6'
      refine aw_skip (aw_seq (aw_region ?_))
      refine sq_ev rfl (ev_load_agg (lr _) rfl ty23 rfl) ?_
      refine sq_store rfl (lr _) (lr _) rfl rfl ty23 rfl rfl ?_
      refine sq_ev rfl (ev_as (v := .raw _) (lr _)) ?_
      refine sq_nil (aw_ret ?_)
      exact retQ_res (vs := [.agg _, .raw _]) rfl rfl ⟨resVar_cell rfl rfl ty23 rfl, resVar_tmp _ _ _, trivial⟩ (Less.eq (by rw [overAV, overR, if_pos ⟨g1', by simpa using c2'⟩, if_neg (by omega), if_neg (by show ¬ (selT p n _).length = 0; omega)] <;> rfl))

set_option maxHeartbeats 2000000 in
/-- kelir/night.over -/
theorem nover96_pure (p : Pl) (n' : Int) (hl0 : p.scenes.length ≤ 1000000) : APure Tryz.prog 94 [plan p, I n', .fn (.func 96) [] []] (overAV p n' (longC p)) := by
 refine apure_of (rs := [.cell 6 23, .tmp 7]) Tryz.func94 rfl rfl (Nat.le_of_ble_eq_true rfl) (by simp [AV.pureL, AV.pureB, AV.pureE, pureE_map]) (rfl) fun e0 he0 => ?_
 refine aw_seq (aw_region ?_)
 refine sq_box rfl (lr _) rfl ?_
 refine sq_alloc rfl z23 ?_
 refine sq_ev rfl (ev_as (v := .raw _) (lr _)) ?_
 refine sq_nil (aw_seq (aw_seq (aw_region ?_)))
 refine sq_ev rfl (ev_load_agg (lr _) rfl ty27 rfl) ?_
 refine sq_ev rfl (ev_call en85 (lr _) (isplan_pure p hl0) ⟨lr _, trivial⟩) ?_
 refine sq_ev rfl (ev_not (lr _)) ?_
 refine sq_ev rfl (ev_mv (v := .raw _) (lr _)) ?_
 refine sq_split 16 (lr _) (fun g1 => ?_) (fun g1 => ?_)
 ·
  have g1' := g1
  try simp only [qq1, qq2, qq3, qq4, qq5, qq6, qq7, qq8, qq9, qq10, qq11, qq12, qq13] at g1'
  refine sq_no rfl rfl (less_b g1) rfl rfl ?_
  refine sq_no rfl rfl (less_b g1) rfl rfl ?_
  refine sq_no rfl rfl (less_b g1) rfl rfl ?_
  refine sq_no rfl rfl (less_b g1) rfl rfl ?_
  refine sq_ev rfl (ev_pickT (v := .raw _) (less_b g1) (lr _)) ?_
  refine sq_nil ?_
  refine aw_true (lr _) ?_
  refine aw_seq (aw_region ?_)
  refine sq_ev rfl (ev_build bi23 rfl) ?_
  refine sq_store rfl (lr _) (lr _) rfl rfl ty23 rfl rfl ?_
  refine sq_ev rfl (ev_as (v := .raw _) (lr _)) ?_
  refine sq_nil (aw_ret ?_)
  exact retQ_res (vs := [.agg _, .raw _]) rfl rfl ⟨resVar_cell rfl rfl ty23 rfl, resVar_tmp _ _ _, trivial⟩ (Less.eq (by simp [overR, g1']))
 ·
  have g1' := g1
  try simp only [qq1, qq2, qq3, qq4, qq5, qq6, qq7, qq8, qq9, qq10, qq11, qq12, qq13] at g1'
  refine sq_yes rfl rfl (less_b g1) rfl (ev_load_agg (lr _) rfl ty27 rfl) ?_
  refine sq_yes rfl rfl (less_b g1) rfl (ev_mv (v := .raw _) (lr _)) ?_
  refine sq_yes rfl rfl (less_b g1) rfl (ev_call en133 (lr _) (nisscene_pure p n' hl0) ⟨lr _, lr _, trivial⟩) ?_
  refine sq_yes rfl rfl (less_b g1) rfl (ev_not (lr _)) ?_
  refine sq_ev rfl (ev_pickF (v := .raw _) (less_b g1) (lr _)) ?_
  refine sq_nil ?_
  refine aw_cond (lr _) (fun c2 => ?_) (fun c2 => ?_)
  ·
   have c2' := c2
   try simp only [qq1, qq2, qq3, qq4, qq5, qq6, qq7, qq8, qq9, qq10, qq11, qq12, qq13] at c2'
   refine aw_seq (aw_region ?_)
   refine sq_ev rfl (ev_build bi23 rfl) ?_
   refine sq_store rfl (lr _) (lr _) rfl rfl ty23 rfl rfl ?_
   refine sq_ev rfl (ev_as (v := .raw _) (lr _)) ?_
   refine sq_nil (aw_ret ?_)
   exact retQ_res (vs := [.agg _, .raw _]) rfl rfl ⟨resVar_cell rfl rfl ty23 rfl, resVar_tmp _ _ _, trivial⟩ (Less.eq (by simp [overR, c2']))
  ·
   have c2' := c2
   try simp only [qq1, qq2, qq3, qq4, qq5, qq6, qq7, qq8, qq9, qq10, qq11, qq12, qq13] at c2'
   have hn1 : 0 ≤ n' ∧ n' < p.scenes.length := by simp only [isSc, inn, Bool.and_eq_true, decide_eq_true_eq] at c2'; omega
   obtain ⟨n, rfl⟩ : ∃ n : Nat, n' = (n : Int) := ⟨n'.toNat, by omega⟩
   obtain ⟨gp, wp⟩ := gp_of_ok g1'
   have hn : n < p.scenes.length := by omega
   obtain ⟨kp, hkp, hkp3⟩ := partOf_ok g1' hn
   have hcl := choicesC_len gp
   refine aw_skip (aw_seq (aw_region ?_))
   refine sq_ev rfl (ev_load_agg (lr _) rfl ty27 rfl) ?_
   refine sq_ev rfl (ev_call en86 (lr _) (nplayablew_pure gp wp) ⟨lr _, trivial⟩) ?_
   refine sq_ev rfl (ev_as (v := .sl _ _) (lr _)) ?_
   refine sq_nil (aw_seq (aw_seq (aw_region ?_)))
   refine sq_ev rfl (ev_mv (v := .sl _ _) (lr _)) ?_
   refine sq_ev rfl (ev_len_map sl107 (lr _)) ?_
   refine sq_ev rfl (ev_eql (lr _) (lr _)) ?_
   refine sq_nil ?_
   refine aw_cond (lr _) (fun c3 => ?_) (fun c3 => ?_)
   ·
    have c3' := c3
    try simp only [qq1, qq2, qq3, qq4, qq5, qq6, qq7, qq8, qq9, qq10, qq11, qq12, qq13] at c3'
    refine aw_seq (aw_region ?_)
    refine sq_ev rfl (ev_build bi23 rfl) ?_
    refine sq_store rfl (lr _) (lr _) rfl rfl ty23 rfl rfl ?_
    refine sq_ev rfl (ev_as (v := .raw _) (lr _)) ?_
    refine sq_nil (aw_ret ?_)
    exact retQ_res (vs := [.agg _, .raw _]) rfl rfl ⟨resVar_cell rfl rfl ty23 rfl, resVar_tmp _ _ _, trivial⟩ (Less.eq (by rw [overAV, overR, if_pos ⟨g1', by simpa using c2'⟩, if_pos (by omega)] <;> rfl))
   ·
    have c3' := c3
    try simp only [qq1, qq2, qq3, qq4, qq5, qq6, qq7, qq8, qq9, qq10, qq11, qq12, qq13] at c3'
    refine aw_skip (aw_seq (aw_region ?_))
    refine sq_alloc rfl z23 ?_
    refine sq_nil (aw_seq (aw_region ?_))
    refine sq_ev rfl (ev_as (v := .raw _) (lr _)) ?_
    refine sq_nil (aw_seq (aw_seq (aw_region ?_)))
    refine sq_ev rfl (ev_mv (v := .sl _ _) (lr _)) ?_
    refine sq_ev rfl (ev_len_map sl107 (lr _)) ?_
    refine sq_ev rfl (ev_mv (v := .raw _) (lr _)) ?_
    refine sq_nil (aw_block ?_)
    refine aw_loopk (ι := { j : Nat // j ≤ (choicesC p).length }) [1, 2, 6, 9, 29, 30] (fun i => [(31, I i.1), (10, B (decide (0 < (selT p n i.1).length)))]) (fun H i => H.set 2 (.cells [I (ovT p n (longC p n) i.1).1, I (ovT p n (longC p n) i.1).2])) (fun i => (choicesC p).length - i.1) (⟨0, Nat.zero_le _⟩) ⟨lr _, lr _, lr _, lr _, lr _, lr _, lr _, lr _, trivial⟩ rfl ?_
    rintro ⟨j, hj⟩
    dsimp only [keepS, St.put, sget, slotsOf, List.map_cons, List.map_nil, List.cons_append, List.nil_append, List.length_cons, List.length_nil, Nat.reduceBEq, Nat.reduceAdd, cond_true, cond_false]
    refine aw_seq (aw_region ?_)
    refine sq_ev rfl (ev_lss (lr _) (lr _)) ?_
    refine sq_nil (aw_seq ?_)
    refine aw_cond (lr _) (fun c4 => ?_) (fun c4 => ?_)
    ·
     have c4' := c4
     try simp only [qq1, qq2, qq3, qq4, qq5, qq6, qq7, qq8, qq9, qq10, qq11, qq12, qq13] at c4'
     have hj' : j < (choicesC p).length := by omega
     have hmm := List.getElem_mem hj'
     have cv := choicesC_mem gp _ hmm
     have hff := can_fwd gp wp hmm
     refine aw_skip (aw_seq (aw_block (aw_seq (aw_region ?_))))
     refine sq_ev rfl (ev_index_map sl107 (lr _) (lr _) rfl (by omega)) ?_
     refine sq_ev rfl (ev_load_agg_i (lr _) ty110 (Nat.le_of_ble_eq_true rfl)) ?_
     refine sq_alloc rfl z110 ?_
     refine sq_store rfl (lr _) (lr _) rfl rfl ty110 rfl rfl ?_
     refine sq_nil (aw_seq (aw_region ?_))
     refine sq_ev rfl (ev_fieldAddr fo110_1 (lr _)) ?_
     refine sq_ev rfl (ev_load (lr _) rfl ty34 rfl) ?_
     refine sq_ev rfl (ev_mv (v := .raw _) (lr _)) ?_
     refine sq_ev rfl (ev_call en106 (lr _) (ncontains_nats (choicesC p)[j] n (by have := (choicesC_mem gp _ (List.getElem_mem hj')).len; omega)) ⟨lr _, lr _, trivial⟩) ?_
     refine sq_nil ?_
     refine aw_cond (lr _) (fun c5 => ?_) (fun c5 => ?_)
     ·
      have c5' := c5
      try simp only [qq1, qq2, qq3, qq4, qq5, qq6, qq7, qq8, qq9, qq10, qq11, qq12, qq13] at c5'
      have hm : n ∈ (choicesC p)[j] := by simpa using c5'
      have eW := ov_yes (longC p n) hj' hm
      have eF : true = decide (0 < (selT p n (j + 1)).length) := by rw [sel_yes hj' hm]; simp
      have eW1 : (if decide (0 < (selT p n j).length) = true then min (ovT p n (longC p n) j).1 ((longC p n) (choicesC p)[j]).1 else ((longC p n) (choicesC p)[j]).1) = (ovT p n (longC p n) (j + 1)).1 := by rw [eW]; split <;> rfl
      have eW2 : (if decide (0 < (selT p n j).length) = true then max (ovT p n (longC p n) j).2 ((longC p n) (choicesC p)[j]).2 else ((longC p n) (choicesC p)[j]).2) = (ovT p n (longC p n) (j + 1)).2 := by rw [eW]; split <;> rfl
      refine aw_draw 7 mo (by kernel_rfl) ?_
      refine dr_ev rfl (ev_load_agg (lr _) rfl ty23 rfl) ?_
      refine dr_ev rfl (ev_mv (v := .raw _) (lr _)) ?_
      refine dr_ev rfl (ev_mv (v := .fn _ _ _) (lr _)) ?_
      refine dr_ev rfl (ev_load_agg (lr _) rfl ty110 rfl) ?_
      refine dr_ev rfl (ev_mv (v := .raw _) (lr _)) ?_
      refine dr_ev rfl (ev_call en96 (lr _) (nlong_pure gp cv hm hkp hkp3 hff) ⟨lr _, lr _, trivial⟩) ?_
      refine dr_ev rfl (ev_call en97 (lr _) (nwiders_pure _ _ _ _ _) ⟨lr _, lr _, lr _, trivial⟩) ?_
      refine dr_end ?_
      refine sq_store rfl (lr _) (lr _) rfl rfl ty23 rfl rfl ?_
      refine sq_ev rfl (ev_as (v := .raw _) (lr _)) ?_
      refine sq_nil (aw_region ?_)
      refine sq_ev rfl (ev_add (lr _) (lr _) (wr (by omega) (by omega))) ?_
      refine sq_ev rfl (ev_mv (v := .raw _) (lr _)) ?_
      refine sq_nil ?_
      exact ⟨⟨j + 1, by omega⟩, by simp only; omega, Sub.fin 3 ⟨lr _, less_b eF, lr _, lr _, lr _, lr _, lr _, lr _, trivial⟩ (cells3 eW1 eW2) (by simp [slotsIn, objsIn, sget, keepS, AObj.inB, AV.inB, AV.inL, AV.inE, inE_map, inE_ints, inE_sc, -List.map_append, -List.map_take, -List.map_map]) (by simp [slotsIn, objsIn, sget, keepS, AObj.inB, AV.inB, AV.inL, AV.inE, inE_map, inE_ints, inE_sc, -List.map_append, -List.map_take, -List.map_map]) (by simp [he0])⟩
     ·
      have c5' := c5
      try simp only [qq1, qq2, qq3, qq4, qq5, qq6, qq7, qq8, qq9, qq10, qq11, qq12, qq13] at c5'
      have hm : ¬ n ∈ (choicesC p)[j] := by simpa using c5'
      have eF : decide (0 < (selT p n j).length) = decide (0 < (selT p n (j + 1)).length) := by rw [sel_no hj' hm]
      have eW1 : (ovT p n (longC p n) j).1 = (ovT p n (longC p n) (j + 1)).1 := by unfold ovT; rw [sel_no hj' hm]
      have eW2 : (ovT p n (longC p n) j).2 = (ovT p n (longC p n) (j + 1)).2 := by unfold ovT; rw [sel_no hj' hm]
      refine aw_skip (aw_region ?_)
      refine sq_ev rfl (ev_add (lr _) (lr _) (wr (by omega) (by omega))) ?_
      refine sq_ev rfl (ev_mv (v := .raw _) (lr _)) ?_
      refine sq_nil ?_
      exact ⟨⟨j + 1, by omega⟩, by simp only; omega, Sub.fin 3 ⟨lr _, less_b eF, lr _, lr _, lr _, lr _, lr _, lr _, trivial⟩ (cells3 eW1 eW2) (by simp [slotsIn, objsIn, sget, keepS, AObj.inB, AV.inB, AV.inL, AV.inE, inE_map, inE_ints, inE_sc, -List.map_append, -List.map_take, -List.map_map]) (by simp [slotsIn, objsIn, sget, keepS, AObj.inB, AV.inB, AV.inL, AV.inE, inE_map, inE_ints, inE_sc, -List.map_append, -List.map_take, -List.map_map]) (by simp [he0])⟩
    ·
     have c4' := c4
     try simp only [qq1, qq2, qq3, qq4, qq5, qq6, qq7, qq8, qq9, qq10, qq11, qq12, qq13] at c4'
     obtain rfl : j = (choicesC p).length := by omega
     refine aw_exit (aw_seq (aw_seq (aw_region ?_)))
     refine sq_ev rfl (ev_mv (v := .raw _) (lr _)) ?_
     refine sq_ev rfl (ev_not (lr _)) ?_
     refine sq_nil ?_
     refine aw_cond (lr _) (fun c6 => ?_) (fun c6 => ?_)
     ·
      have c6' := c6
      try simp only [qq1, qq2, qq3, qq4, qq5, qq6, qq7, qq8, qq9, qq10, qq11, qq12, qq13] at c6'
      refine aw_seq (aw_region ?_)
      refine sq_ev rfl (ev_build bi23 rfl) ?_
      refine sq_store rfl (lr _) (lr _) rfl rfl ty23 rfl rfl ?_
      refine sq_ev rfl (ev_as (v := .raw _) (lr _)) ?_
      refine sq_nil (aw_ret ?_)
      exact retQ_res (vs := [.agg _, .raw _]) rfl rfl ⟨resVar_cell rfl rfl ty23 rfl, resVar_tmp _ _ _, trivial⟩ (Less.eq (by rw [overAV, overR, if_pos ⟨g1', by simpa using c2'⟩, if_neg (by omega), if_pos (by show (selT p n _).length = 0; omega)] <;> rfl))
     ·
      have c6' := c6
      try simp only [qq1, qq2, qq3, qq4, qq5, qq6, qq7, qq8, qq9, qq10, qq11, qq12, qq13] at c6'
      refine aw_skip (aw_seq (aw_region ?_))
      refine sq_ev rfl (ev_load_agg (lr _) rfl ty23 rfl) ?_
      refine sq_store rfl (lr _) (lr _) rfl rfl ty23 rfl rfl ?_
      refine sq_ev rfl (ev_as (v := .raw _) (lr _)) ?_
      refine sq_nil (aw_ret ?_)
      exact retQ_res (vs := [.agg _, .raw _]) rfl rfl ⟨resVar_cell rfl rfl ty23 rfl, resVar_tmp _ _ _, trivial⟩ (Less.eq (by rw [overAV, overR, if_pos ⟨g1', by simpa using c2'⟩, if_neg (by omega), if_neg (by show ¬ (selT p n _).length = 0; omega)] <;> rfl))

set_option maxHeartbeats 400000 in
/-- kelir/night.Times -/
theorem nTimes_pure (p : Pl) (n : Int) (hl0 : p.scenes.length ≤ 1000000) : APure Tryz.prog 29 [plan p, I n] (overAV p n (begC p)) := by
 refine apure_of (rs := [.cell 4 23, .tmp 5]) Tryz.func29 rfl rfl (Nat.le_of_ble_eq_true rfl) (by simp [AV.pureL, AV.pureB, AV.pureE, pureE_map]) (rfl) fun e0 he0 => ?_
 refine aw_seq (aw_region ?_)
 refine sq_box rfl (lr _) rfl ?_
 refine sq_alloc rfl z23 ?_
 refine sq_ev rfl (ev_as (v := .raw _) (lr _)) ?_
 refine sq_nil (aw_seq (aw_region ?_))
 refine sq_ev rfl (ev_load_agg (lr _) rfl ty27 rfl) ?_
 refine sq_ev rfl (ev_mv (v := .raw _) (lr _)) ?_
 refine sq_ev rfl (ev_call en94 (lr _) (nover95_pure p n hl0) ⟨lr _, lr _, lr _, trivial⟩) ?_
 refine sq_ev rfl (ev_extract (lr _) rfl) ?_
 refine sq_ev rfl (ev_extract (lr _) rfl) ?_
 refine sq_store rfl (lr _) (lr _) rfl rfl ty23 rfl rfl ?_
 refine sq_ev rfl (ev_as (v := .raw _) (lr _)) ?_
 refine sq_nil (aw_ret ?_)
 exact retQ_res (vs := [.agg _, .raw _]) rfl rfl ⟨resVar_cell rfl rfl ty23 rfl, resVar_tmp _ _ _, trivial⟩ (Less.eq (by simp))

set_option maxHeartbeats 400000 in
/-- kelir/night.Lengths -/
theorem nLengths_pure (p : Pl) (n : Int) (hl0 : p.scenes.length ≤ 1000000) : APure Tryz.prog 30 [plan p, I n] (overAV p n (longC p)) := by
 refine apure_of (rs := [.cell 4 23, .tmp 5]) Tryz.func30 rfl rfl (Nat.le_of_ble_eq_true rfl) (by simp [AV.pureL, AV.pureB, AV.pureE, pureE_map]) (rfl) fun e0 he0 => ?_
 refine aw_seq (aw_region ?_)
 refine sq_box rfl (lr _) rfl ?_
 refine sq_alloc rfl z23 ?_
 refine sq_ev rfl (ev_as (v := .raw _) (lr _)) ?_
 refine sq_nil (aw_seq (aw_region ?_))
 refine sq_ev rfl (ev_load_agg (lr _) rfl ty27 rfl) ?_
 refine sq_ev rfl (ev_mv (v := .raw _) (lr _)) ?_
 refine sq_ev rfl (ev_call en94 (lr _) (nover96_pure p n hl0) ⟨lr _, lr _, lr _, trivial⟩) ?_
 refine sq_ev rfl (ev_extract (lr _) rfl) ?_
 refine sq_ev rfl (ev_extract (lr _) rfl) ?_
 refine sq_store rfl (lr _) (lr _) rfl rfl ty23 rfl rfl ?_
 refine sq_ev rfl (ev_as (v := .raw _) (lr _)) ?_
 refine sq_nil (aw_ret ?_)
 exact retQ_res (vs := [.agg _, .raw _]) rfl rfl ⟨resVar_cell rfl rfl ty23 rfl, resVar_tmp _ _ _, trivial⟩ (Less.eq (by simp))


end Go.Proofs.YtjghdbdiejaacaaGreatDoor

namespace Go.Proofs.YtjghdbdiejaacaaGreatDoor
open Go Go.Ab Ni
theorem en137 : Ent Tryz.prog 137 := Ent.of Tryz.func137 (by kernel_rfl) rfl

def minL : List Int → Int
  | [] => 0
  | x :: l => l.foldl min x
theorem minL_take {l : List Int} {k : Nat} (h : k < l.length) (h0 : 0 < k) : minL (l.take (k + 1)) = min (minL (l.take k)) l[k] := by
  rw [List.take_succ_eq_append_getElem h]
  cases l with
  | nil => simp at h
  | cons x l =>
    obtain ⟨k, rfl⟩ : ∃ j, k = j + 1 := ⟨k - 1, by omega⟩
    simp only [List.take_succ_cons, List.cons_append, minL, List.foldl_append, List.foldl_cons, List.foldl_nil]
def freeS (x : Sc) : Sc := { x with most := x.most + 1800 }
def freeP (p : Pl) (n : Nat) : Pl := { p with scenes := p.scenes.set n (freeS (scn p n)) }
theorem freeP_len (p : Pl) (n : Nat) : (freeP p n).scenes.length = p.scenes.length := by simp [freeP]
theorem freeP_gp {p : Pl} (gp : GP p) {n : Nat} (h : n < p.scenes.length) (hm : (scn p n).most ≤ 1000) : GP (freeP p n) := by
  refine ⟨by rw [freeP_len]; exact gp.len, fun x hx => ?_, gp.beg, gp.s0l, gp.s0h, gp.s1l, gp.s1h, gp.dl, gp.dh⟩
  rcases List.mem_or_eq_of_mem_set hx with h1 | h1
  · exact gp.vals x h1
  · have h2 := gp.least h; have h3 := gp.most h
    subst h1; simp only [freeS]; omega
theorem freeP_wp {p : Pl} (wp : WP p) {n : Nat} (h : n < p.scenes.length) : WP (freeP p n) := ⟨by rw [freeP_len]; exact wp.len, wp.s0, wp.s1, wp.d, fun x hx => by
  rcases List.mem_or_eq_of_mem_set hx with h1 | h1
  · exact wp.lm x h1
  · have := wp.lm _ (scn_mem h); subst h1; simp only [freeS]; omega⟩
theorem most_ok {p : Pl} (h : PlOK p = true) {n : Nat} (hn : n < p.scenes.length) : (scn p n).most ≤ 240 := by
  simp only [PlOK, wnd, inn, Bool.and_eq_true, decide_eq_true_eq] at h
  have := h.2.1 n hn
  simp only [scBad, inn, Bool.or_eq_false_iff, Bool.not_eq_false', Bool.and_eq_true, decide_eq_true_eq] at this
  rw [scn_eq hn]; omega
theorem splice1 (v : Int) : ∀ (L : List Sc) (k : Nat) (h : k < L.length) (R : List AV) (l : List AV), l = (L.map sc).flatten ++ R →
    l.take (k * 5 + 2) ++ [I v] ++ l.drop (k * 5 + 2 + 1) = ((L.set k { L[k] with most := v }).map sc).flatten ++ R
  | x :: L, 0, h, R, l, hl => by subst hl; simp
  | x :: L, k + 1, h, R, l, hl => by
    have ih := splice1 v L k (by simpa using h) R _ rfl
    subst hl
    have e2 : (k + 1) * 5 + 2 = k * 5 + 2 + 1 + 1 + 1 + 1 + 1 := by omega
    rw [e2]
    simp only [List.map_cons, List.flatten_cons, List.cons_append, List.nil_append, List.take_succ_cons, List.drop_succ_cons, List.set_cons_succ, List.getElem_cons_succ]
    rw [← ih]
theorem most_at : ∀ (L : List Sc) (k : Nat) (h : k < L.length) (R : List AV), ((L.map sc).flatten ++ R)[k * 5 + 2]? = some (I L[k].most)
  | x :: L, 0, h, R => by simp
  | x :: L, k + 1, h, R => by
    have ih := most_at L k (by simpa using h) R
    have e2 : (k + 1) * 5 + 2 = k * 5 + 2 + 1 + 1 + 1 + 1 + 1 := by omega
    rw [e2]
    simp only [List.map_cons, List.flatten_cons, List.cons_append, List.nil_append, List.getElem?_cons_succ, List.getElem_cons_succ]
    exact ih
def lgV (p : Pl) (n : Nat) (x : List Nat) : Int := (bw (freeP p n) x (2 - (scn p n).part.toNat)).1 - (fw (freeP p n) x (scn p n).part.toNat).2 - hsum p (ofP (freeP p n) x (scn p n).part)
def lgL (p : Pl) (n : Nat) : List Int := (selT (freeP p n) n (choicesC (freeP p n)).length).map (lgV p n)
def lgR (p : Pl) (n : Int) : Int × Int :=
  if PlOK p = true ∧ isSc p n = true then (if 0 < (choicesC p).length then (0, 0) else if (lgL p n.toNat).length = 0 then (0, 5) else (minL (lgL p n.toNat), 0)) else (0, 2)
theorem sel_len (p : Pl) (n i : Nat) : (selT p n i).length ≤ (choicesC p).length := by
  unfold selT; exact ft_len _ _ _
set_option maxHeartbeats 400000 in
/-- slices.Min[[]int,int] -/
theorem nmin_pure (l : List Int) (h0 : 0 < l.length) (hl : l.length ≤ 2000000) : APure Tryz.prog 137 [ints l] (I (minL l)) := by
  refine apure_of (rs := [.tmp 2]) Tryz.func137 rfl rfl (Nat.le_of_ble_eq_true rfl) (by simp [AV.pureL, AV.pureB, AV.pureE, pureE_map]) (rfl) fun e0 he0 => ?_
  refine aw_seq (aw_region ?_)
  refine sq_ev rfl (ev_as (v := .raw _) (lr _)) ?_
  refine sq_nil (aw_seq (aw_seq ?_))
  have e1 : l[0] = minL (l.take 1) := by cases l with | nil => simp at h0 | cons x l => rfl
  refine aw_region ?_
  refine sq_ev rfl (ev_mv (v := .sl _ _) (lr _)) ?_
  refine sq_ev rfl (ev_len_map sl34 (lr _)) ?_
  refine sq_ev rfl (ev_lss (lr _) (lr _)) ?_
  refine sq_nil ?_
  refine aw_cond (lr _) (fun c1 => ?_) (fun c1 => ?_)
  · skip
    have c1' := c1
    try simp only [qq1, qq2, qq3, qq4, qq5, qq6, qq7, qq8, qq9, qq10, qq11, qq12, qq13] at c1'
    exfalso
    omega
  · skip
    have c1' := c1
    try simp only [qq1, qq2, qq3, qq4, qq5, qq6, qq7, qq8, qq9, qq10, qq11, qq12, qq13] at c1'
    refine aw_skip (aw_seq (aw_region ?_))
    refine sq_ev rfl (ev_mv (v := .sl _ _) (lr _)) ?_
    refine sq_ev rfl (ev_index_map (k := 0) sl34 (lr _) (lr _) rfl h0) ?_
    refine sq_ev rfl (ev_load_i (lr _) ty3 rfl) ?_
    refine sq_ev rfl (ev_as (v := .raw _) (lr _)) ?_
    refine sq_nil (aw_seq (aw_seq (aw_region ?_)))
    refine sq_ev rfl (ev_as (v := .raw _) (lr _)) ?_
    refine sq_nil (aw_block ?_)
    refine aw_loopk (ι := { k : Nat // k ≤ l.length ∧ 0 < k }) [0] (fun i => [(4, I i.1), (3, I (minL (l.take i.1)))]) (fun H i => H) (fun i => l.length - i.1) (⟨1, by omega, by omega⟩) ⟨lr _, (by exact less_int e1), lr _, trivial⟩ rfl ?_
    rintro ⟨k, hk, hk0⟩
    dsimp only [keepS, St.put, sget, slotsOf, List.map_cons, List.map_nil, List.cons_append, List.nil_append, List.length_cons, List.length_nil, Nat.reduceBEq, Nat.reduceAdd, cond_true, cond_false]
    refine aw_seq (aw_seq (aw_region ?_))
    refine sq_ev rfl (ev_mv (v := .raw _) (lr _)) ?_
    refine sq_ev rfl (ev_mv (v := .sl _ _) (lr _)) ?_
    refine sq_ev rfl (ev_len_map sl34 (lr _)) ?_
    refine sq_ev rfl (ev_lss (lr _) (lr _)) ?_
    refine sq_nil ?_
    refine aw_cond (lr _) (fun c2 => ?_) (fun c2 => ?_)
    · skip
      have c2' := c2
      try simp only [qq1, qq2, qq3, qq4, qq5, qq6, qq7, qq8, qq9, qq10, qq11, qq12, qq13] at c2'
      have hk' : k < l.length := by omega
      refine aw_skip (aw_seq (aw_block (aw_region ?_)))
      refine sq_ev rfl (ev_mv (v := .raw _) (lr _)) ?_
      refine sq_ev rfl (ev_mv (v := .sl _ _) (lr _)) ?_
      refine sq_ev rfl (ev_mv (v := .raw _) (lr _)) ?_
      refine sq_ev rfl (ev_index_map sl34 (lr _) (lr _) rfl (by omega)) ?_
      refine sq_ev rfl (ev_load_i (lr _) ty3 rfl) ?_
      refine sq_ev rfl (ev_min2 (lr _) (lr _)) ?_
      refine sq_ev rfl (ev_as (v := .raw _) (lr _)) ?_
      refine sq_nil (aw_region ?_)
      refine sq_ev rfl (ev_mv (v := .raw _) (lr _)) ?_
      refine sq_ev rfl (ev_add (lr _) (lr _) (wr (by omega) (by omega))) ?_
      refine sq_ev rfl (ev_as (v := .raw _) (lr _)) ?_
      refine sq_nil ?_
      exact ⟨⟨k + 1, by omega, by omega⟩, by simp only; omega, Sub.slots ⟨lr _, (by exact less_int (minL_take hk' hk0).symm), lr _, trivial⟩⟩
    · skip
      have c2' := c2
      try simp only [qq1, qq2, qq3, qq4, qq5, qq6, qq7, qq8, qq9, qq10, qq11, qq12, qq13] at c2'
      obtain rfl : k = l.length := by omega
      refine aw_exit (aw_seq (aw_region ?_))
      refine sq_ev rfl (ev_mv (v := .raw _) (lr _)) ?_
      refine sq_ev rfl (ev_as (v := .raw _) (lr _)) ?_
      refine sq_nil (aw_ret ?_)
      exact retQ_pure (v := .raw _) rfl rfl (Less.eq (by simp))

set_option maxHeartbeats 4000000 in
/-- kelir/night.Longer -/
theorem nLonger_pure (p : Pl) (n' : Int) (hl0 : p.scenes.length ≤ 1000000) : APure Tryz.prog 70 [plan p, I n'] (.tup [I (lgR p n').1, I (lgR p n').2]) := by
 refine apure_of (rs := [.tmp 4, .tmp 5]) Tryz.func70 rfl rfl (Nat.le_of_ble_eq_true rfl) (by simp [AV.pureL, AV.pureB, AV.pureE, pureE_map]) (rfl) fun e0 he0 => ?_
 refine aw_seq (aw_region ?_)
 refine sq_box rfl (lr _) rfl ?_
 refine sq_ev rfl (ev_as (v := .raw _) (lr _)) ?_
 refine sq_ev rfl (ev_as (v := .raw _) (lr _)) ?_
 refine sq_nil (aw_seq (aw_seq (aw_region ?_)))
 refine sq_ev rfl (ev_load_agg (lr _) rfl ty27 rfl) ?_
 refine sq_ev rfl (ev_call en85 (lr _) (isplan_pure p hl0) ⟨lr _, trivial⟩) ?_
 refine sq_ev rfl (ev_not (lr _)) ?_
 refine sq_ev rfl (ev_mv (v := .raw _) (lr _)) ?_
 refine sq_split 15 (lr _) (fun g1 => ?_) (fun g1 => ?_)
 ·
  have g1' := g1
  try simp only [qq1, qq2, qq3, qq4, qq5, qq6, qq7, qq8, qq9, qq10, qq11, qq12, qq13] at g1'
  refine sq_no rfl rfl (less_b g1) rfl rfl ?_
  refine sq_no rfl rfl (less_b g1) rfl rfl ?_
  refine sq_no rfl rfl (less_b g1) rfl rfl ?_
  refine sq_no rfl rfl (less_b g1) rfl rfl ?_
  refine sq_ev rfl (ev_pickT (v := .raw _) (less_b g1) (lr _)) ?_
  refine sq_nil ?_
  refine aw_true (lr _) ?_
  refine aw_seq (aw_region ?_)
  refine sq_ev rfl (ev_as (v := .raw _) (lr _)) ?_
  refine sq_ev rfl (ev_as (v := .raw _) (lr _)) ?_
  refine sq_nil (aw_ret ?_)
  exact retQ_pure (v := .tup [.raw _, .raw _]) rfl rfl (Less.eq (by simp [lgR, g1']))
 ·
  have g1' := g1
  try simp only [qq1, qq2, qq3, qq4, qq5, qq6, qq7, qq8, qq9, qq10, qq11, qq12, qq13] at g1'
  refine sq_yes rfl rfl (less_b g1) rfl (ev_load_agg (lr _) rfl ty27 rfl) ?_
  refine sq_yes rfl rfl (less_b g1) rfl (ev_mv (v := .raw _) (lr _)) ?_
  refine sq_yes rfl rfl (less_b g1) rfl (ev_call en133 (lr _) (nisscene_pure p n' hl0) ⟨lr _, lr _, trivial⟩) ?_
  refine sq_yes rfl rfl (less_b g1) rfl (ev_not (lr _)) ?_
  refine sq_ev rfl (ev_pickF (v := .raw _) (less_b g1) (lr _)) ?_
  refine sq_nil ?_
  refine aw_cond (lr _) (fun c2 => ?_) (fun c2 => ?_)
  ·
   have c2' := c2
   try simp only [qq1, qq2, qq3, qq4, qq5, qq6, qq7, qq8, qq9, qq10, qq11, qq12, qq13] at c2'
   refine aw_seq (aw_region ?_)
   refine sq_ev rfl (ev_as (v := .raw _) (lr _)) ?_
   refine sq_ev rfl (ev_as (v := .raw _) (lr _)) ?_
   refine sq_nil (aw_ret ?_)
   exact retQ_pure (v := .tup [.raw _, .raw _]) rfl rfl (Less.eq (by simp [lgR, c2']))
  ·
   have c2' := c2
   try simp only [qq1, qq2, qq3, qq4, qq5, qq6, qq7, qq8, qq9, qq10, qq11, qq12, qq13] at c2'
   have hn1 : 0 ≤ n' ∧ n' < p.scenes.length := by simp only [isSc, inn, Bool.and_eq_true, decide_eq_true_eq] at c2'; omega
   obtain ⟨n, rfl⟩ : ∃ n : Nat, n' = (n : Int) := ⟨n'.toNat, by omega⟩
   obtain ⟨gp, wp⟩ := gp_of_ok g1'
   have hn : n < p.scenes.length := by omega
   obtain ⟨k, hk, hk3⟩ := partOf_ok g1' hn
   have hcl := choicesC_len gp
   have he := scn_eq hn
   have hk1 : (p.scenes[n]).part = (k : Int) := he ▸ hk
   have hmo := most_ok g1' hn
   have hle0 := (gp.most hn).1
   have gpF := freeP_gp gp hn (by omega)
   have wpF := freeP_wp wp hn
   have hclF := choicesC_len gpF
   have hkt : (scn p n).part.toNat = k := by omega
   have hmo1 : (p.scenes[n]).most ≤ 240 := he ▸ hmo
   have hle1 : 0 ≤ (p.scenes[n]).most := he ▸ hle0
   refine aw_skip (aw_seq (aw_seq (aw_region ?_)))
   refine sq_ev rfl (ev_load_agg (lr _) rfl ty27 rfl) ?_
   refine sq_ev rfl (ev_call en86 (lr _) (nplayablew_pure gp wp) ⟨lr _, trivial⟩) ?_
   refine sq_ev rfl (ev_len_map sl107 (lr _)) ?_
   refine sq_ev rfl (ev_gtr (lr _) (lr _)) ?_
   refine sq_nil ?_
   refine aw_cond (lr _) (fun c3 => ?_) (fun c3 => ?_)
   ·
    have c3' := c3
    try simp only [qq1, qq2, qq3, qq4, qq5, qq6, qq7, qq8, qq9, qq10, qq11, qq12, qq13] at c3'
    refine aw_seq (aw_region ?_)
    refine sq_ev rfl (ev_as (v := .raw _) (lr _)) ?_
    refine sq_ev rfl (ev_as (v := .raw _) (lr _)) ?_
    refine sq_nil (aw_ret ?_)
    exact retQ_pure (v := .tup [.raw _, .raw _]) rfl rfl (Less.eq (by rw [lgR, if_pos ⟨g1', by simpa using c2'⟩, if_pos (by omega)] <;> rfl))
   ·
    have c3' := c3
    try simp only [qq1, qq2, qq3, qq4, qq5, qq6, qq7, qq8, qq9, qq10, qq11, qq12, qq13] at c3'
    refine aw_skip (aw_seq (aw_region ?_))
    refine sq_ev rfl (ev_fieldAddr fo27_3 (lr _)) ?_
    refine sq_ev rfl (ev_load (lr _) rfl ty25 rfl) ?_
    refine sq_ev rfl (ev_mv (v := .raw _) (lr _)) ?_
    refine sq_ev rfl (ev_index_map sl25 (lr _) (lr _) rfl (by omega)) ?_
    refine sq_ev rfl (ev_fieldAddr_i fo84_0 (lr _)) ?_
    refine sq_ev rfl (ev_less (ev_load_i (lr _) ty3 rfl) (less_int hk1)) ?_
    refine sq_ev rfl (ev_as (v := .raw _) (lr _)) ?_
    refine sq_nil (aw_seq (aw_region ?_))
    refine sq_ev rfl (ev_load_agg (lr _) rfl ty27 rfl) ?_
    refine sq_alloc rfl z27 ?_
    refine sq_store rfl (lr _) (lr _) rfl rfl ty27 rfl rfl ?_
    refine sq_nil (aw_seq (aw_region ?_))
    refine sq_ev rfl (ev_fieldAddr fo27_3 (lr _)) ?_
    refine sq_ev rfl (ev_load (lr _) rfl ty25 rfl) ?_
    refine sq_call (first := []) (cap := []) (args := [.sl 5 (p.scenes.map sc)]) rfl en134 (lr _) ⟨lr _, trivial⟩ (nclonesc_call (l := p.scenes) (by omega) hl0) ?_ (by rintro v H' ⟨_, _, h, _⟩; cases h)
    rintro _ _ ⟨cap, hcap, h, rfl⟩; cases h
    refine sq_ev rfl (ev_fieldAddr fo27_3 (lr _)) ?_
    refine sq_store rfl (lr _) (lr _) rfl rfl ty25 rfl rfl ?_
    refine sq_nil (aw_seq ?_)
    have hfl := flat_len p.scenes
    have hat := most_at p.scenes n hn (List.replicate ((cap - (p.scenes.map sc).length) * 5) .any)
    have hsp := splice1 (p.scenes[n].most + 1800) p.scenes n hn (List.replicate ((cap - (p.scenes.map sc).length) * 5) .any) _ rfl
    have hble : Nat.ble (n * 5 + 2 + 1) ((p.scenes.map sc).flatten ++ List.replicate ((cap - (p.scenes.map sc).length) * 5) AV.any).length = true := Nat.ble_eq_true_of_le (by rw [List.length_append, hfl, List.length_replicate]; omega)
    refine aw_region ?_
    refine sq_ev rfl (ev_fieldAddr fo27_3 (lr _)) ?_
    refine sq_ev rfl (ev_load (lr _) rfl ty25 rfl) ?_
    refine sq_ev rfl (ev_mv (v := .raw _) (lr _)) ?_
    refine sq_ev rfl (ev_less (v' := .ptr 2 (n * 5)) (ev_index_msl sl25 (lr _) (lr _) rfl (by simp; omega)) (Less.eq (congrArg (AV.ptr 2) (Nat.zero_add (n * 5))))) ?_
    refine sq_ev rfl (ev_fieldAddr fo84_2 (lr _)) ?_
    refine sq_ev rfl (ev_load (lr _) rfl ty3 hat) ?_
    refine sq_ev rfl (ev_add (lr _) (lr _) (wr (by omega) (by omega))) ?_
    refine sq_ev rfl (ev_less (v' := .ptr 2 (n * 5)) (ev_index_msl sl25 (lr _) (lr _) rfl (by simp; omega)) (Less.eq (congrArg (AV.ptr 2) (Nat.zero_add (n * 5))))) ?_
    refine sq_ev rfl (ev_fieldAddr fo84_2 (lr _)) ?_
    refine sq_store rfl (lr _) (lr _) rfl rfl ty3 rfl hble ?_
    refine sq_nil (aw_seq ?_)
    have hsc : (freeP p n).scenes = p.scenes.set n { p.scenes[n] with most := p.scenes[n].most + 1800 } := by rw [freeP, he]; rfl
    refine aw_sub (sub_freeze (j := 2) (n := (p.scenes.map sc).length) (cap := cap) (sz := 5) (es := (freeP p n).scenes.map sc) (rest := List.replicate ((cap - (p.scenes.map sc).length) * 5) .any) (sl' := [(1, I n), (2, .ptr 0 0), (6, I k), (7, .ptr 1 0)]) (by rw [hsc]; exact congrArg (fun l => some (AObj.cells l)) hsp) (by simp [freeP]) (fun q hq => by obtain ⟨x, _, rfl⟩ := List.mem_map.1 hq; rfl) (fun q hq => by rcases List.mem_cons.1 hq with rfl | hq; exact Fz.same (I n); rcases List.mem_cons.1 hq with rfl | hq; exact Fz.same (AV.ptr 0 0); rcases List.mem_cons.1 hq with rfl | hq; exact Fz.same (I k); rw [List.mem_singleton] at hq; subst hq; exact Fz.same (AV.ptr 1 0)) (FzH.same _ (by decide) (FzH.cells (by decide) (FzL.cons (Fz.same _) (FzL.cons (Fz.same _) (FzL.cons (Fz.same _) (FzL.cons (Fz.same _) (FzL.cons (Fz.same _) (FzL.cons (Fz.same _) (FzL.cons (Fz.same _) (FzL.cons Fz.frozen FzL.nil)))))))) (FzH.dead _ rfl (FzH.nil _))))) ?_
    refine aw_region ?_
    refine sq_ev rfl (ev_as (v := .raw _) (lr _)) ?_
    refine sq_nil (aw_seq (aw_seq (aw_region ?_)))
    refine sq_ev rfl (ev_load_agg (lr _) rfl ty27 rfl) ?_
    refine sq_ev rfl (ev_call en86 (lr _) (nplayablew_pure gpF wpF) ⟨lr _, trivial⟩) ?_
    refine sq_ev rfl (ev_len_map sl107 (lr _)) ?_
    refine sq_ev rfl (ev_mv (v := .raw _) (lr _)) ?_
    refine sq_nil (aw_block ?_)
    refine aw_sub (sub_token 8 1 (lr _)) ?_
    refine aw_loopk (ι := { k : Nat // k ≤ (choicesC (freeP p n)).length }) [1, 2, 6, 46, 47] (fun i => [(48, I i.1), (8, .own 3 1 (((selT (freeP p n) n i.1).map (lgV p n)).map fun x => [I x]))]) (fun H i => H.set 3 (.tok (((selT (freeP p n) n i.1).map (lgV p n)).map fun x => [I x]).length)) (fun i => (choicesC (freeP p n)).length - i.1) (⟨0, Nat.zero_le _⟩) ⟨lr _, lr _, lr _, lr _, lr _, lr _, lr _, trivial⟩ rfl ?_
    rintro ⟨j, hj⟩
    dsimp only [keepS, St.put, sget, slotsOf, List.map_cons, List.map_nil, List.cons_append, List.nil_append, List.length_cons, List.length_nil, Nat.reduceBEq, Nat.reduceAdd, cond_true, cond_false]
    have hse := sel_len (freeP p n) n j
    refine aw_seq (aw_region ?_)
    refine sq_ev rfl (ev_lss (lr _) (lr _)) ?_
    refine sq_nil (aw_seq ?_)
    refine aw_cond (lr _) (fun c4 => ?_) (fun c4 => ?_)
    ·
     have c4' := c4
     try simp only [qq1, qq2, qq3, qq4, qq5, qq6, qq7, qq8, qq9, qq10, qq11, qq12, qq13] at c4'
     have hj' : j < (choicesC (freeP p n)).length := by omega
     refine aw_skip (aw_seq (aw_block (aw_seq (aw_region ?_))))
     refine sq_ev rfl (ev_index_map sl107 (lr _) (lr _) rfl (by omega)) ?_
     refine sq_ev rfl (ev_load_agg_i (lr _) ty110 (Nat.le_of_ble_eq_true rfl)) ?_
     refine sq_alloc rfl z110 ?_
     refine sq_store rfl (lr _) (lr _) rfl rfl ty110 rfl rfl ?_
     refine sq_nil (aw_seq ?_)
     generalize hx : (choicesC (freeP p n))[j] = x
     have hmm : x ∈ choicesC (freeP p n) := hx ▸ List.getElem_mem hj'
     have cv := choicesC_mem gpF _ hmm
     have hff := can_fwd gpF wpF hmm
     have b1 := fw_bd gpF cv k
     have b2 := bw_bd gpF cv (2 - k)
     have cvp : CV p x := ⟨cv.len, fun y hy => by have := cv.rng y hy; rwa [freeP_len] at this⟩
     have cvO : CV p (ofP (freeP p n) x (k : Int)) := ⟨(ofP_cv cv _).len, fun y hy => by have := (ofP_cv cv _).rng y hy; rwa [freeP_len] at this⟩
     have b3 := hsum_bd gp cvO
     refine aw_region ?_
     refine sq_ev rfl (ev_fieldAddr fo110_1 (lr _)) ?_
     refine sq_ev rfl (ev_load (lr _) rfl ty34 rfl) ?_
     refine sq_ev rfl (ev_mv (v := .raw _) (lr _)) ?_
     refine sq_ev rfl (ev_call en106 (lr _) (ncontains_nats x n (by have := cv.len; omega)) ⟨lr _, lr _, trivial⟩) ?_
     refine sq_nil ?_
     refine aw_cond (lr _) (fun c5 => ?_) (fun c5 => ?_)
     ·
      have c5' := c5
      try simp only [qq1, qq2, qq3, qq4, qq5, qq6, qq7, qq8, qq9, qq10, qq11, qq12, qq13] at c5'
      have hm : n ∈ (choicesC (freeP p n))[j] := by rw [hx]; simpa using c5'
      have eS : ((selT (freeP p n) n (j + 1)).map (lgV p n)).map (fun x => [I x]) = ((selT (freeP p n) n j).map (lgV p n)).map (fun x => [I x]) ++ [[I ((bw (freeP p n) x (2 - k)).1 - (fw (freeP p n) x k).2 - hsum p (ofP (freeP p n) x (k : Int)))]] := by rw [sel_yes hj' hm, hx, List.map_append, List.map_append]; simp only [List.map_cons, List.map_nil, lgV, hk, Int.toNat_natCast]
      refine aw_seq ?_
      refine aw_draw 10 mo (by kernel_rfl) ?_
      refine dr_ev rfl (ev_load_agg (lr _) rfl ty27 rfl) ?_
      refine dr_ev rfl (ev_fieldAddr fo110_1 (lr _)) ?_
      refine dr_ev rfl (ev_load (lr _) rfl ty34 rfl) ?_
      refine dr_ev rfl (ev_build bi110 rfl) ?_
      refine dr_ev rfl (ev_load_agg (lr _) rfl ty110 rfl) ?_
      refine dr_ev rfl (ev_mv (v := .raw _) (lr _)) ?_
      refine dr_ev rfl (ev_call en136 (lr _) (nof_pure (freeP p n) x k gpF cv) ⟨lr _, lr _, trivial⟩) ?_
      refine dr_ev rfl (ev_call en135 (lr _) (nlasts_pure p x _ gp cvO) ⟨lr _, lr _, trivial⟩) ?_
      refine dr_ev rfl (ev_field fo23_1 ty3 (lr _) rfl) ?_
      refine dr_ev rfl (ev_as (v := .raw _) (lr _)) ?_
      refine dr_end (sq_nil ?_)
      refine aw_draw 15 mo (by kernel_rfl) ?_
      refine dr_ev rfl (ev_mv (v := .own _ _ _) (lr _)) ?_
      refine dr_ev rfl (ev_load_agg (lr _) rfl ty110 rfl) ?_
      refine dr_ev rfl (ev_call en100 (lr _) (nbackward_pure (freeP p n) x gpF cv) ⟨lr _, trivial⟩) ?_
      refine dr_ev rfl (ev_mv (v := .raw _) (lr _)) ?_
      refine dr_ev rfl (ev_less (ev_indexv_agg (k := k) ar120 ty23 (lr _) (lr _) rfl (by omega)) (Less.eq (b := .agg [I (bw (freeP p n) x (2 - k)).1, I (bw (freeP p n) x (2 - k)).2]) (by rcases k with _ | _ | _ | k <;> first | rfl | omega))) ?_
      refine dr_ev rfl (ev_field fo23_0 ty3 (lr _) rfl) ?_
      refine dr_ev rfl (ev_load_agg (lr _) rfl ty110 rfl) ?_
      refine dr_ev rfl (ev_call en99 (lr _) (nforward_pure (freeP p n) x gpF cv hff) ⟨lr _, trivial⟩) ?_
      refine dr_ev rfl (ev_mv (v := .raw _) (lr _)) ?_
      refine dr_ev rfl (ev_less (ev_indexv_agg (k := k) ar118 ty23 (lr _) (lr _) rfl (by omega)) (Less.eq (b := .agg [I (fw (freeP p n) x k).1, I (fw (freeP p n) x k).2]) (by rcases k with _ | _ | _ | k <;> first | rfl | omega))) ?_
      refine dr_ev rfl (ev_field fo23_1 ty3 (lr _) rfl) ?_
      refine dr_ev rfl (ev_sub (lr _) (lr _) (wr (by omega) (by omega))) ?_
      refine dr_ev rfl (ev_mv (v := .raw _) (lr _)) ?_
      refine dr_ev rfl (ev_sub (lr _) (lr _) (wr (by omega) (by omega))) ?_
      refine dr_ev rfl (ev_buildSlice (es := [[_]]) sf34 rfl rfl rfl rfl) ?_
      refine dr_end ?_
      refine sq_append rfl sf34 Tryz.underlying34 rfl rfl (less_slx _ _) (Nat.succ_pos _) (by simp; omega) (by simp; omega) ?_
      refine sq_ev rfl (ev_as (v := .own _ _ _) (lr _)) ?_
      refine sq_nil (aw_region ?_)
      refine sq_ev rfl (ev_add (lr _) (lr _) (wr (by omega) (by omega))) ?_
      refine sq_ev rfl (ev_mv (v := .raw _) (lr _)) ?_
      refine sq_nil ?_
      exact ⟨⟨j + 1, by omega⟩, by simp only; omega, Sub.fin 4 ⟨lr _, Less.eq (b := .own 3 1 (((selT (freeP p n) n (j + 1)).map (lgV p n)).map (fun x => [I x]))) (by rw [eS] <;> rfl), lr _, lr _, lr _, lr _, lr _, trivial⟩ (congrArg (fun n => [_, _, _, AObj.tok n]) (congrArg List.length eS.symm)) (by simp [slotsIn, objsIn, sget, keepS, AObj.inB, AV.inB, AV.inL, AV.inE, inE_map, inE_ints, inE_sc, -List.map_append, -List.map_take, -List.map_map]) (by simp [slotsIn, objsIn, sget, keepS, AObj.inB, AV.inB, AV.inL, AV.inE, inE_map, inE_ints, inE_sc, -List.map_append, -List.map_take, -List.map_map]) (by simp [he0])⟩
     ·
      have c5' := c5
      try simp only [qq1, qq2, qq3, qq4, qq5, qq6, qq7, qq8, qq9, qq10, qq11, qq12, qq13] at c5'
      have hm : ¬ n ∈ (choicesC (freeP p n))[j] := by rw [hx]; simpa using c5'
      have eS : ((selT (freeP p n) n (j + 1)).map (lgV p n)).map (fun x => [I x]) = ((selT (freeP p n) n j).map (lgV p n)).map (fun x => [I x]) := by rw [sel_no hj' hm]
      refine aw_skip (aw_region ?_)
      refine sq_ev rfl (ev_add (lr _) (lr _) (wr (by omega) (by omega))) ?_
      refine sq_ev rfl (ev_mv (v := .raw _) (lr _)) ?_
      refine sq_nil ?_
      exact ⟨⟨j + 1, by omega⟩, by simp only; omega, Sub.fin 4 ⟨lr _, Less.eq (b := .own 3 1 (((selT (freeP p n) n (j + 1)).map (lgV p n)).map (fun x => [I x]))) (by rw [eS] <;> rfl), lr _, lr _, lr _, lr _, lr _, trivial⟩ (congrArg (fun n => [_, _, _, AObj.tok n]) (congrArg List.length eS.symm)) (by simp [slotsIn, objsIn, sget, keepS, AObj.inB, AV.inB, AV.inL, AV.inE, inE_map, inE_ints, inE_sc, -List.map_append, -List.map_take, -List.map_map]) (by simp [slotsIn, objsIn, sget, keepS, AObj.inB, AV.inB, AV.inL, AV.inE, inE_map, inE_ints, inE_sc, -List.map_append, -List.map_take, -List.map_map]) (by simp [he0])⟩
    ·
     have c4' := c4
     try simp only [qq1, qq2, qq3, qq4, qq5, qq6, qq7, qq8, qq9, qq10, qq11, qq12, qq13] at c4'
     obtain rfl : j = (choicesC (freeP p n)).length := by omega
     have hlg : (lgL p n).length ≤ 1114112 := by unfold lgL; rw [List.length_map]; exact Nat.le_trans (sel_len _ _ _) hclF
     have hll : (selT (freeP p n) n (choicesC (freeP p n)).length).length = (lgL p n).length := by simp [lgL]
     refine aw_exit (aw_seq (aw_seq (aw_region ?_)))
     refine sq_ev rfl (ev_mv (v := .own _ _ _) (lr _)) ?_
     refine sq_ev rfl (ev_len_map sl34 (less_own _ _ _)) ?_
     refine sq_ev rfl (ev_eql (lr _) (lr _)) ?_
     refine sq_nil ?_
     refine aw_cond (lr _) (fun c6 => ?_) (fun c6 => ?_)
     ·
      have c6' := c6
      try simp only [qq1, qq2, qq3, qq4, qq5, qq6, qq7, qq8, qq9, qq10, qq11, qq12, qq13] at c6'
      refine aw_seq (aw_region ?_)
      refine sq_ev rfl (ev_as (v := .raw _) (lr _)) ?_
      refine sq_ev rfl (ev_as (v := .raw _) (lr _)) ?_
      refine sq_nil (aw_ret ?_)
      exact retQ_pure (v := .tup [.raw _, .raw _]) rfl rfl (Less.eq (by rw [lgR, if_pos ⟨g1', by simpa using c2'⟩, if_neg (by omega), if_pos (by show (lgL p n).length = 0; omega)] <;> rfl))
     ·
      have c6' := c6
      try simp only [qq1, qq2, qq3, qq4, qq5, qq6, qq7, qq8, qq9, qq10, qq11, qq12, qq13] at c6'
      refine aw_skip (aw_seq (aw_region ?_))
      refine sq_ev rfl (ev_mv (v := .own _ _ _) (lr _)) ?_
      refine sq_ev rfl (ev_call en137 (lr _) (nmin_pure (lgL p n) (by omega) (by omega)) ⟨less_own _ _ _, trivial⟩) ?_
      refine sq_ev rfl (ev_as (v := .raw _) (lr _)) ?_
      refine sq_ev rfl (ev_as (v := .raw _) (lr _)) ?_
      refine sq_nil (aw_ret ?_)
      exact retQ_pure (v := .tup [.raw _, .raw _]) rfl rfl (Less.eq (by rw [lgR, if_pos ⟨g1', by simpa using c2'⟩, if_neg (by omega), if_neg (by show ¬ (lgL p n).length = 0; omega)] <;> rfl))


end Go.Proofs.YtjghdbdiejaacaaGreatDoor

namespace Go.Proofs.YtjghdbdiejaacaaGreatDoor
open Go Go.Ab Ni
theorem bi167 : bldInfo Tryz.prog 167 = some ([.raw (.string ByteArray.empty)], true, [(0, 1)], 0) := by kernel_rfl
theorem en150 : Ent Tryz.prog 150 := Ent.of Tryz.func150 (by kernel_rfl) rfl
theorem en151 : Ent Tryz.prog 151 := Ent.of Tryz.func151 (by kernel_rfl) rfl
theorem en152 : Ent Tryz.prog 152 := Ent.of Tryz.func152 (by kernel_rfl) rfl

theorem wr32 {n : Int} (h1 : -2147483648 ≤ n) (h2 : n ≤ 2147483647) : IntKind.i32.wrap n = n := IntWalk.i32_in _ ⟨h1, h2⟩
theorem wr8 {n : Int} (h1 : 0 ≤ n) (h2 : n ≤ 255) : IntKind.u8.wrap n = n := IntWalk.u8_in _ ⟨h1, h2⟩
/-- strconv.Itoa -/
theorem nitoa_pure (n : Int) (h0 : -9223372036854775808 ≤ n) (h1 : n ≤ 9223372036854775807) : APure Tryz.prog 150 [I n] (S (Lib.itoa n)) :=
  apure_of_calls (vs := [.int .i64 n]) fun w hw => (Tryz.strconv_Itoa n h0 h1 w hw.2).mono fun _ _ ⟨h1, k, os, h2⟩ => ⟨h1, by rw [h2]; exact ⟨rfl, rfl⟩, os, by rw [h2]; rfl⟩
/-- strings.Split, at one byte -/
theorem nsplit_pure (s : List UInt8) (c : UInt8) (hs : s.length ≤ 1000000) : APure Tryz.prog 151 [S s, S [c]] (.sl 1 ((cut c s).map fun p => [S p])) := by
  have hc := splitB_cut c s
  have hlen : (Lib.splitB ⟨#[c]⟩ 0 (Lib.countB ⟨s.toArray⟩ ⟨#[c]⟩) ⟨s.toArray⟩).length = Lib.countB ⟨s.toArray⟩ ⟨#[c]⟩ + 1 := Lib.splitB_all ⟨#[c]⟩ (Nat.le_refl 1) 0 _ _ rfl
  have h := apure_of_row (P := Tryz.prog) (f := 151) (vs := [.string ⟨s.toArray⟩, .string ⟨#[c]⟩]) (us := (Lib.splitB ⟨#[c]⟩ 0 (Lib.countB ⟨s.toArray⟩ ⟨#[c]⟩) ⟨s.toArray⟩).map Value.string) (et := 9)
    (fun u hu => by obtain ⟨x, _, rfl⟩ := List.mem_map.1 hu; rfl) (fun w hw => by
      obtain ⟨m, hm⟩ := hw.1
      refine (Tryz.strings_Split ⟨s.toArray⟩ ⟨#[c]⟩ m w (by rw [bs_size]; omega) hm (Nat.le_refl 1)).mono ?_
      rintro x w' ⟨h1, h2⟩
      refine ⟨?_, by rw [h2]; exact ⟨rfl, rfl⟩, by rw [h2]; rfl⟩
      rw [h1, List.length_map, hlen])
  have e : ((Lib.splitB ⟨#[c]⟩ 0 (Lib.countB ⟨s.toArray⟩ ⟨#[c]⟩) ⟨s.toArray⟩).map Value.string).map (fun u => [AV.raw u]) = (cut c s).map fun p => [S p] := by
    rw [← hc, List.map_map, List.map_map]
    refine List.map_congr_left fun x _ => ?_
    simp [Function.comp]
  rw [e] at h; exact h
/-- whether something is sure -/
def SureR (b : Bool) (why : List UInt8) (x : ARes) : Prop := (b = true ∧ x = .ret (.tup [])) ∨ (b = false ∧ x = .pan (.ifc 167 (.agg [S why])))
def numR (w : List UInt8) (x : ARes) : Prop := match numOf w with | some n => x = .ret (I n) | none => x = .pan (.ifc 167 (.agg [S w]))
theorem numR_none {w : List UInt8} (h : numOf w = none) : numR w (.pan (.ifc 167 (.agg [S w]))) := by unfold numR; rw [h]
theorem numR_some {w : List UInt8} {n : Int} (h : numOf w = some n) : numR w (.ret (I n)) := by unfold numR; rw [h]
set_option maxHeartbeats 400000 in
/-- kelir/night.sure -/
theorem nsure_pan (b : Bool) (why : List UInt8) : APan Tryz.prog 152 [B b, S why] (SureR b why) := by
  refine APan.of_acall (by simp [AV.pureL, AV.pureB, AV.pureE, pureE_map]) (acall_of (rs := []) Tryz.func152 rfl rfl (Nat.le_of_ble_eq_true rfl) fun e0 he0 => ?_)
  refine aw_seq (aw_region ?_)
  refine sq_ev rfl (ev_mv (v := .raw _) (lr _)) ?_
  refine sq_ev rfl (ev_not (lr _)) ?_
  refine sq_nil ?_
  refine aw_cond (lr _) (fun c1 => ?_) (fun c1 => ?_)
  · skip
    have c1' := c1
    try simp only [qq1, qq2, qq3, qq4, qq5, qq6, qq7, qq8, qq9, qq10, qq11, qq12, qq13] at c1'
    refine aw_region ?_
    refine sq_ev rfl (ev_mv (v := .raw _) (lr _)) ?_
    refine sq_ev rfl (ev_build bi167 rfl) ?_
    refine sq_ev rfl (ev_makeIface ni167 (lr _)) ?_
    refine sq_panic (lr _) ?_
    exact ⟨rfl, .pan (.ifc 167 (.agg [S why])), .inr ⟨by simpa using c1', rfl⟩, rfl, lr _⟩
  · skip
    have c1' := c1
    try simp only [qq1, qq2, qq3, qq4, qq5, qq6, qq7, qq8, qq9, qq10, qq11, qq12, qq13] at c1'
    refine aw_skip ?_
    exact ⟨rfl, .tup [], rfl, .ret (.tup []), .inl ⟨by simpa using c1', rfl⟩, rfl, lr _⟩

set_option maxHeartbeats 1000000 in
/-- kelir/night.number -/
theorem nnumber_pan (w : List UInt8) (hw : w.length ≤ 1000000) : APan Tryz.prog 153 [S w] (numR w) := by
 refine APan.of_acall (by simp [AV.pureL, AV.pureB, AV.pureE, pureE_map]) (acall_of (rs := [.tmp 2]) Tryz.func153 rfl rfl (Nat.le_of_ble_eq_true rfl) fun e0 he0 => ?_)
 refine aw_seq (aw_region ?_)
 refine sq_ev rfl (ev_as (v := .raw _) (lr _)) ?_
 refine sq_nil (aw_seq (aw_region ?_))
 refine sq_ev rfl (ev_as (v := .raw _) (lr _)) ?_
 refine sq_nil (aw_seq (aw_seq (aw_region ?_)))
 refine sq_ev rfl (ev_mv (v := .raw _) (lr _)) ?_
 refine sq_rangeS rfl Tryz.underlying9 (lr _) ?_
 refine sq_nil (aw_block ?_)
 refine aw_loopk (ι := { k : Nat // k ≤ w.length ∧ (∀ i, (h : i < w.length) → i < k → isD w[i] = true) ∧ (0 < k → w.length ≤ 3) }) [0, 7] (fun i => [(3, I (valN (w.take i.1)))]) (fun H i => H.set 0 (.raw (.stringIter ⟨w.toArray⟩ i.1))) (fun i => w.length - i.1) (⟨0, Nat.zero_le _, by omega, by omega⟩) ⟨lr _, lr _, lr _, trivial⟩ rfl ?_
 rintro ⟨k, hk, hds, h3⟩
 dsimp only [keepS, St.put, sget, slotsOf, List.map_cons, List.map_nil, List.cons_append, List.nil_append, List.length_cons, List.length_nil, Nat.reduceBEq, Nat.reduceAdd, cond_true, cond_false]
 refine aw_seq (aw_region ?_)
 refine sq_nextS rfl (lr _) rfl (fun n1 => ?_) (fun n1 => ?_)
 ·
  have hk' : k < w.length := by rw [bs_size] at n1; exact n1
  have hdl := decode_le ⟨w.toArray⟩ k
  refine sq_ev rfl (ev_extract (lr _) rfl) ?_
  refine sq_nil (aw_seq ?_)
  refine aw_true (lr _) ?_
  refine aw_skip (aw_block (aw_seq (aw_region ?_)))
  refine sq_ev rfl (ev_extract (lr _) rfl) ?_
  refine sq_ev rfl (ev_as (v := .raw _) (lr _)) ?_
  refine sq_nil (aw_seq (aw_region ?_))
  refine sq_ev rfl (ev_mv (v := .raw _) (lr _)) ?_
  refine sq_ev rfl (ev_geq (lr _) (lr _)) ?_
  refine sq_ev rfl (ev_mv (v := .raw _) (lr _)) ?_
  refine sq_split 13 (lr _) (fun g2 => ?_) (fun g2 => ?_)
  ·
   have g2' := g2
   try simp only [qq1, qq2, qq3, qq4, qq5, qq6, qq7, qq8, qq9, qq10, qq11, qq12, qq13] at g2'
   refine sq_yes rfl rfl (less_b g2) rfl (ev_mv (v := .raw _) (lr _)) ?_
   refine sq_yes rfl rfl (less_b g2) rfl (ev_leq (lr _) (lr _)) ?_
   refine sq_ev rfl (ev_pickT (v := .raw _) (less_b g2) (lr _)) ?_
   refine sq_ev rfl (ev_mv (v := .raw _) (lr _)) ?_
   refine sq_split 17 (lr _) (fun g3 => ?_) (fun g3 => ?_)
   ·
    have g3' := g3
    try simp only [qq1, qq2, qq3, qq4, qq5, qq6, qq7, qq8, qq9, qq10, qq11, qq12, qq13] at g3'
    refine sq_yes rfl rfl (less_b g3) rfl (ev_mv (v := .raw _) (lr _)) ?_
    refine sq_yes rfl rfl (less_b g3) rfl (ev_lenS Tryz.underlying9 (lr _)) ?_
    refine sq_yes rfl rfl (less_b g3) rfl (ev_leq (lr _) (lr _)) ?_
    refine sq_ev rfl (ev_pickT (v := .raw _) (less_b g3) (lr _)) ?_
    refine sq_ev rfl (ev_mv (v := .raw _) (lr _)) ?_
    refine sq_call (args := [B _, S w]) rfl en152 (lr _) ⟨lr _, lr _, trivial⟩ (nsure_pan _ _ _) ?_ ?_
    rotate_left
    ·
     (rintro v _ ⟨rfl, (⟨_, h⟩ | ⟨hb, h⟩)⟩ <;> cases h; exact ⟨rfl, .pan (.ifc 167 (.agg [S w])), numR_none (numOf_len (by simp at hb; omega)), rfl, lr _⟩)
    rintro v _ ⟨rfl, (⟨hb, h⟩ | ⟨_, h⟩)⟩ <;> cases h
    refine sq_nil ?_
    have hlen : w.length ≤ 3 := by simp at hb; omega
    have hdec := dec_yes hk' (by omega) (by omega)
    have hv := valN_999 hk (by omega) hds
    have hb8 : (w[k]).toNat ≤ 57 := ((isD_iff _).1 hdec.2).2
    have eV : 10 * valN (w.take k) + (((Utf8.decode ⟨w.toArray⟩ k).1 : Int) - 48) = valN (w.take (k + 1)) := by rw [valN_take hk', hdec.1]
    refine aw_region ?_
    refine sq_ev rfl (ev_mv (v := .raw _) (lr _)) ?_
    refine sq_ev rfl (ev_mul (lr _) (lr _) (wr (by omega) (by omega))) ?_
    refine sq_ev rfl (ev_mv (v := .raw _) (lr _)) ?_
    refine sq_ev rfl (ev_sub (lr _) (lr _) (wr32 (by omega) (by omega))) ?_
    refine sq_ev rfl (ev_conv_int Tryz.underlying21 Tryz.underlying3 (lr _) (wr (by omega) (by omega))) ?_
    refine sq_ev rfl (ev_add (lr _) (lr _) (wr (by omega) (by omega))) ?_
    refine sq_ev rfl (ev_as (v := .raw _) (lr _)) ?_
    refine sq_nil ?_
    exact ⟨⟨k + 1, by omega, fun i h hi => (by by_cases e : i = k; (subst e; exact hdec.2); exact hds i h (by omega)), fun _ => hlen⟩, by simp only; omega, Sub.fin 1 ⟨(by exact less_int eV), lr _, lr _, trivial⟩ (by rw [hdec.1] <;> rfl) (by simp [slotsIn, objsIn, sget, keepS, AObj.inB, AV.inB, AV.inL, AV.inE, inE_map]) (by simp [slotsIn, objsIn, sget, keepS, AObj.inB, AV.inB, AV.inL, AV.inE, inE_map]) (by simp [he0])⟩
   ·
    have g3' := g3
    try simp only [qq1, qq2, qq3, qq4, qq5, qq6, qq7, qq8, qq9, qq10, qq11, qq12, qq13] at g3'
    have hnd : isD w[k] = false := dec_no hk' (by omega)
    refine sq_no rfl rfl (less_b g3) rfl rfl ?_
    refine sq_no rfl rfl (less_b g3) rfl rfl ?_
    refine sq_no rfl rfl (less_b g3) rfl rfl ?_
    refine sq_ev rfl (ev_pickF (v := .raw _) (less_b g3) (lr _)) ?_
    refine sq_ev rfl (ev_mv (v := .raw _) (lr _)) ?_
    refine sq_call (args := [B false, S w]) rfl en152 (lr _) ⟨lr _, lr _, trivial⟩ (nsure_pan _ _ _) ?_ ?_
    rotate_left
    ·
     (rintro v _ ⟨rfl, (⟨_, h⟩ | ⟨hb, h⟩)⟩ <;> cases h; exact ⟨rfl, .pan (.ifc 167 (.agg [S w])), numR_none (numOf_dig hk' hnd), rfl, lr _⟩)
    rintro v _ ⟨rfl, (⟨hb, _⟩ | ⟨_, h⟩)⟩
    ·
     cases hb
    ·
     cases h
  ·
   have g2' := g2
   try simp only [qq1, qq2, qq3, qq4, qq5, qq6, qq7, qq8, qq9, qq10, qq11, qq12, qq13] at g2'
   have hnd : isD w[k] = false := dec_no hk' (by omega)
   refine sq_no rfl rfl (less_b g2) rfl rfl ?_
   refine sq_no rfl rfl (less_b g2) rfl rfl ?_
   refine sq_ev rfl (ev_pickF (v := .raw _) (less_b g2) (lr _)) ?_
   refine sq_ev rfl (ev_mv (v := .raw _) (lr _)) ?_
   refine sq_no rfl rfl (lr _) rfl rfl ?_
   refine sq_no rfl rfl (lr _) rfl rfl ?_
   refine sq_no rfl rfl (lr _) rfl rfl ?_
   refine sq_ev rfl (ev_pickF (v := .raw _) (lr _) (lr _)) ?_
   refine sq_ev rfl (ev_mv (v := .raw _) (lr _)) ?_
   refine sq_call (args := [B false, S w]) rfl en152 (lr _) ⟨lr _, lr _, trivial⟩ (nsure_pan _ _ _) ?_ ?_
   rotate_left
   ·
    (rintro v _ ⟨rfl, (⟨_, h⟩ | ⟨hb, h⟩)⟩ <;> cases h; exact ⟨rfl, .pan (.ifc 167 (.agg [S w])), numR_none (numOf_dig hk' hnd), rfl, lr _⟩)
   rintro v _ ⟨rfl, (⟨hb, _⟩ | ⟨_, h⟩)⟩
   ·
    cases hb
   ·
    cases h
 ·
  obtain rfl : k = w.length := by rw [bs_size] at n1; omega
  have hv := valN_999 (Nat.le_refl w.length) (by rcases Nat.eq_zero_or_pos w.length with h | h; omega; exact h3 h) hds
  have htk : w.take w.length = w := List.take_length
  have hv2 := hv
  rw [htk] at hv2
  refine sq_ev rfl (ev_extract (lr _) rfl) ?_
  refine sq_nil (aw_seq ?_)
  refine aw_false (lr _) ?_
  refine aw_exit (aw_seq (aw_region ?_))
  refine sq_ev rfl (ev_mv (v := .raw _) (lr _)) ?_
  refine sq_ev rfl (ev_sneS (lr _) (lr _)) ?_
  refine sq_ev rfl (ev_mv (v := .raw _) (lr _)) ?_
  refine sq_split 32 (lr _) (fun g4 => ?_) (fun g4 => ?_)
  ·
   have g4' := g4
   try simp only [qq1, qq2, qq3, qq4, qq5, qq6, qq7, qq8, qq9, qq10, qq11, qq12, qq13] at g4'
   have hwe : w ≠ [] := by simpa using g4
   refine sq_yes rfl rfl (less_b g4) rfl (ev_mv (v := .raw _) (lr _)) ?_
   refine sq_yes rfl rfl (less_b g4) rfl (ev_call en150 (lr _) (nitoa_pure _ (by omega) (by omega)) ⟨lr _, trivial⟩) ?_
   refine sq_yes rfl rfl (less_b g4) rfl (ev_mv (v := .raw _) (lr _)) ?_
   refine sq_yes rfl rfl (less_b g4) rfl (ev_seqS (lr _) (lr _)) ?_
   refine sq_ev rfl (ev_pickT (v := .raw _) (less_b g4) (lr _)) ?_
   refine sq_ev rfl (ev_mv (v := .raw _) (lr _)) ?_
   refine sq_call (args := [B _, S w]) rfl en152 (lr _) ⟨lr _, lr _, trivial⟩ (nsure_pan _ _ _) ?_ ?_
   rotate_left
   ·
    (rintro v _ ⟨rfl, (⟨_, h⟩ | ⟨hb, h⟩)⟩ <;> cases h; exact ⟨rfl, .pan (.ifc 167 (.agg [S w])), numR_none (numOf_itoa (by simpa [htk] using hb)), rfl, lr _⟩)
   rintro v _ ⟨rfl, (⟨hb, h⟩ | ⟨_, h⟩)⟩ <;> cases h
   refine sq_nil (aw_seq (aw_region ?_))
   refine sq_ev rfl (ev_mv (v := .raw _) (lr _)) ?_
   refine sq_ev rfl (ev_as (v := .raw _) (lr _)) ?_
   refine sq_nil (aw_ret ?_)
   exact retQ_any (vs := [.raw _]) rfl rfl ⟨resVar_tmp _ _ _, trivial⟩ (⟨.ret (I (valN w)), numR_some (numOf_some (fun i h => hds i h h) (h3 (List.length_pos_iff.2 hwe)) hwe (by simpa [htk] using hb)), rfl, Less.eq (by simp)⟩)
  ·
   have g4' := g4
   try simp only [qq1, qq2, qq3, qq4, qq5, qq6, qq7, qq8, qq9, qq10, qq11, qq12, qq13] at g4'
   have hwe : w = [] := by simpa using g4
   refine sq_no rfl rfl (less_b g4) rfl rfl ?_
   refine sq_no rfl rfl (less_b g4) rfl rfl ?_
   refine sq_no rfl rfl (less_b g4) rfl rfl ?_
   refine sq_no rfl rfl (less_b g4) rfl rfl ?_
   refine sq_ev rfl (ev_pickF (v := .raw _) (less_b g4) (lr _)) ?_
   refine sq_ev rfl (ev_mv (v := .raw _) (lr _)) ?_
   refine sq_call (args := [B false, S w]) rfl en152 (lr _) ⟨lr _, lr _, trivial⟩ (nsure_pan _ _ _) ?_ ?_
   rotate_left
   ·
    (rintro v _ ⟨rfl, (⟨_, h⟩ | ⟨hb, h⟩)⟩ <;> cases h; exact ⟨rfl, .pan (.ifc 167 (.agg [S w])), numR_none (by subst hwe; exact numOf_nil), rfl, lr _⟩)
   rintro v _ ⟨rfl, (⟨hb, _⟩ | ⟨_, h⟩)⟩
   ·
    cases hb
   ·
    cases h


end Go.Proofs.YtjghdbdiejaacaaGreatDoor
