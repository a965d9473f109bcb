/-
  A part of the proof: conditions: none beyond each theorem's own.
-/
import Derived.Test.YtjghdbdiejaacaaGreatDoorWalkC
import Derived.Test.YtjghdbdiejaacaaGreatDoorLogicD
set_option linter.all false
namespace Go.Proofs.YtjghdbdiejaacaaGreatDoor
open Go Go.Ab Ni
theorem en100 : Ent Tryz.prog 100 := Ent.of Tryz.func100 (by kernel_rfl) rfl
theorem en97 : Ent Tryz.prog 97 := Ent.of Tryz.func97 (by kernel_rfl) rfl
theorem sf43 : SlFact Tryz.prog 43 23 2 16 := SlFact.of (by kernel_rfl)

theorem cells2 {x y : AObj} {a a' b b' : Int} (h : a = a') (k : b = b') : [x, y, AObj.cells [I a, I b]] = [x, y, .cells [I a', I b']] := by rw [h, k]
set_option maxHeartbeats 2000000 in
/-- kelir/night.Ends -/
theorem nEnds_pure (p : Pl) (hl0 : p.scenes.length ≤ 1000000) : APure Tryz.prog 31 [plan p] (endsAV p) := by
  refine apure_of (rs := [.tmp 2, .tmp 3]) Tryz.func31 rfl rfl (Nat.le_of_ble_eq_true rfl) (by simp [AV.pureL, AV.pureB, AV.pureE, pureE_map]) (endsAV_pure p) fun e0 he0 => ?_
  refine aw_seq (aw_region ?_)
  refine sq_box rfl (lr _) rfl ?_
  refine asr (lr _) rfl ?_
  refine asr (lr _) rfl ?_
  refine sq_nil (aw_seq (aw_seq (aw_region ?_)))
  refine sq_ev rfl (ev_load_agg (lr _) rfl ty27 rfl) ?_
  refine sq_ev rfl (ev_call en85 (lr _) (isplan_pure p hl0) ⟨lr _, trivial⟩) ?_
  refine sq_ev rfl (ev_not (lr _)) ?_
  refine sq_nil ?_
  refine aw_cond (lr _) (fun c1 => ?_) (fun c1 => ?_)
  · skip
    have c1' := c1
    try simp only [qq] at c1'
    refine aw_seq (aw_region ?_)
    refine asr (lr _) rfl ?_
    refine asr (lr _) rfl ?_
    refine sq_nil (aw_ret ?_)
    exact retQ_pure (v := .tup [.raw _, .raw _]) rfl rfl (Less.trans (b := .tup [.sl 2 [], I 2]) (less_tup ⟨less_nil 2, lr _, trivial⟩) (Less.eq (by simp [endsAV, c1'])))
  · skip
    have c1' := c1
    try simp only [qq] at c1'
    obtain ⟨gp, wp⟩ := gp_of_ok c1'
    refine aw_skip (aw_seq (aw_region ?_))
    refine sq_ev rfl (ev_load_agg (lr _) rfl ty27 rfl) ?_
    refine sq_ev rfl (ev_call en86 (lr _) (nplayablew_pure gp wp) ⟨lr _, trivial⟩) ?_
    refine sq_ev rfl (ev_as (v := .sl _ _) (lr _)) ?_
    refine sq_nil (aw_seq (aw_seq (aw_region ?_)))
    refine sq_ev rfl (ev_mv (v := .sl _ _) (lr _)) ?_
    refine sq_ev rfl (ev_len_map sl107 (lr _)) ?_
    refine sq_ev rfl (ev_eql (lr _) (lr _)) ?_
    refine sq_nil ?_
    refine aw_cond (lr _) (fun c2 => ?_) (fun c2 => ?_)
    · skip
      have c2' := c2
      try simp only [qq] at c2'
      refine aw_seq (aw_region ?_)
      refine asr (lr _) rfl ?_
      refine asr (lr _) rfl ?_
      refine sq_nil (aw_ret ?_)
      exact retQ_pure (v := .tup [.raw _, .raw _]) rfl rfl (Less.trans (b := .tup [.sl 2 [], I 7]) (less_tup ⟨less_nil 2, lr _, trivial⟩) (Less.eq (by rw [endsAV, if_pos c1', if_pos (by omega)])))
    · skip
      have c2' := c2
      try simp only [qq] at c2'
      refine aw_skip (aw_seq (aw_region ?_))
      refine asr (lr _) rfl ?_
      refine sq_nil (aw_seq (aw_seq (aw_region ?_)))
      refine mvr (lr _) rfl ?_
      refine sq_nil (aw_block ?_)
      refine aw_sub (sub_token 5 2 (lr _)) ?_
      refine aw_loopk (ι := { k : Nat // k ≤ 3 }) [4] (fun i => [(18, I i.1), (5, .own 1 2 ((endsT p i.1).map fun (x : Int × Int) => [I x.1, I x.2]))]) (fun H i => H.set 1 (.tok ((endsT p i.1).map fun (x : Int × Int) => [I x.1, I x.2]).length)) (fun i => 3 - i.1) (⟨0, Nat.zero_le _⟩) ⟨lr _, lr _, lr _, trivial⟩ rfl ?_
      rintro ⟨k, hk⟩
      dsimp only [keepS, St.put, sget, slotsOf, List.map_cons, List.map_nil, List.cons_append, List.nil_append, List.length_cons, List.length_nil, Nat.reduceBEq, Nat.reduceAdd, cond_true, cond_false]
      have hcl := choicesC_len gp
      have hwl := endsT_len p k
      refine aw_seq (aw_region ?_)
      refine sq_ev rfl (ev_lss (lr _) (lr _)) ?_
      refine sq_nil (aw_seq ?_)
      refine aw_cond (lr _) (fun c3 => ?_) (fun c3 => ?_)
      · skip
        have c3' := c3
        try simp only [qq] at c3'
        have hk3 : k < 3 := by omega
        refine aw_skip (aw_seq (aw_block (aw_seq (aw_region ?_))))
        refine mvr (lr _) rfl ?_
        refine asr (lr _) rfl ?_
        refine sq_nil (aw_seq (aw_region ?_))
        refine sq_alloc rfl z23 ?_
        refine sq_nil (aw_seq (aw_seq (aw_region ?_)))
        refine sq_ev rfl (ev_mv (v := .sl _ _) (lr _)) ?_
        refine sq_ev rfl (ev_len_map sl107 (lr _)) ?_
        refine mvr (lr _) rfl ?_
        refine sq_nil (aw_block ?_)
        refine aw_loopk (ι := { j : Nat // j ≤ (choicesC p).length }) [4, 5, 6, 7, 18, 21, 22] (fun i => [(23, I i.1)]) (fun H i => H.set 2 (.cells [I (endT p k i.1).1, I (endT p k i.1).2])) (fun i => (choicesC p).length - i.1) (⟨0, Nat.zero_le _⟩) ⟨lr _, lr _, lr _, lr _, lr _, lr _, lr _, lr _, trivial⟩ rfl ?_
        rintro ⟨j, hj⟩
        dsimp only [keepS, St.put, sget, slotsOf, List.map_cons, List.map_nil, List.cons_append, List.nil_append, List.length_cons, List.length_nil, Nat.reduceBEq, Nat.reduceAdd, cond_true, cond_false]
        refine aw_seq (aw_region ?_)
        refine sq_ev rfl (ev_lss (lr _) (lr _)) ?_
        refine sq_nil (aw_seq ?_)
        refine aw_cond (lr _) (fun c4 => ?_) (fun c4 => ?_)
        · skip
          have c4' := c4
          try simp only [qq] at c4'
          have hj' : j < (choicesC p).length := by omega
          have hm := List.getElem_mem hj'
          have cv := choicesC_mem gp _ hm
          have hff := can_fwd gp wp hm
          have eW := wdT_succ (endV p k) hj'
          rw [show wd (((choicesC p).take (j + 1)).map (endV p k)) = endT p k (j + 1) from rfl, show wd (((choicesC p).take j).map (endV p k)) = endT p k j from rfl] at eW
          have eW1 : (if decide ((j : Int) > 0) = true then min (endT p k j).1 (endV p k (choicesC p)[j]).1 else (endV p k (choicesC p)[j]).1) = (endT p k (j + 1)).1 := by rw [eW]; by_cases h : 0 < j <;> simp [h]
          have eW2 : (if decide ((j : Int) > 0) = true then max (endT p k j).2 (endV p k (choicesC p)[j]).2 else (endV p k (choicesC p)[j]).2) = (endT p k (j + 1)).2 := by rw [eW]; by_cases h : 0 < j <;> simp [h]
          refine aw_skip (aw_seq (aw_block (aw_seq (aw_region ?_))))
          refine mvr (lr _) rfl ?_
          refine sq_ev rfl (ev_index_map sl107 (lr _) (lr _) rfl (by omega)) ?_
          refine sq_ev rfl (ev_load_agg_i (lr _) ty110 (Nat.le_of_ble_eq_true rfl)) ?_
          refine sq_alloc rfl z110 ?_
          refine asr (lr _) rfl ?_
          refine sq_store rfl (lr _) (lr _) rfl rfl ty110 rfl rfl ?_
          refine sq_nil ?_
          refine aw_draw 14 mo (by kernel_rfl) ?_
          refine dr_ev rfl (ev_load_agg (lr _) rfl ty23 rfl) ?_
          refine dr_ev rfl (ev_mv (v := .raw _) (lr _)) ?_
          refine dr_ev rfl (ev_gtr (lr _) (lr _)) ?_
          refine dr_ev rfl (ev_load_agg (lr _) rfl ty110 rfl) ?_
          refine dr_ev rfl (ev_call en99 (lr _) (nforward_pure p _ gp cv hff) ⟨lr _, trivial⟩) ?_
          refine dr_ev rfl (ev_mv (v := .raw _) (lr _)) ?_
          refine dr_ev rfl (ev_add (lr _) (lr _) (wr (by omega) (by omega))) ?_
          refine dr_ev rfl (ev_less (ev_indexv_agg (k := k + 1) ar118 ty23 (lr _) (lr _) (by omega) (by omega)) (Less.eq (b := .agg [I (fw p (choicesC p)[j] (k + 1)).1, I (fw p (choicesC p)[j] (k + 1)).2]) (by rcases k with _ | _ | _ | k <;> first | rfl | omega))) ?_
          refine dr_ev rfl (ev_load_agg (lr _) rfl ty110 rfl) ?_
          refine dr_ev rfl (ev_call en100 (lr _) (nbackward_pure p _ gp cv) ⟨lr _, trivial⟩) ?_
          refine dr_ev rfl (ev_mv (v := .raw _) (lr _)) ?_
          refine dr_ev rfl (ev_less (ev_indexv_agg (k := k) ar120 ty23 (lr _) (lr _) (by omega) (by omega)) (Less.eq (b := .agg [I (bw p (choicesC p)[j] (2 - k)).1, I (bw p (choicesC p)[j] (2 - k)).2]) (by rcases k with _ | _ | _ | k <;> first | rfl | omega))) ?_
          refine dr_ev rfl (ev_call en98 (lr _) (nboth_pure _ _ _ _) ⟨lr _, lr _, trivial⟩) ?_
          refine dr_ev rfl (ev_call en97 (lr _) (nwiders_pure _ _ _ _ _) ⟨lr _, lr _, lr _, trivial⟩) ?_
          refine dr_end ?_
          refine sq_store rfl (lr _) (lr _) rfl rfl ty23 rfl rfl ?_
          refine sq_nil (aw_region ?_)
          refine sq_ev rfl (ev_add (lr _) (lr _) (wr (by omega) (by omega))) ?_
          refine mvr (lr _) rfl ?_
          refine sq_nil ?_
          exact ⟨⟨j + 1, by omega⟩, by simp only; omega, Sub.fin 3 ⟨lr _, lr _, lr _, lr _, lr _, lr _, lr _, lr _, trivial⟩ (cells2 eW1 eW2) (by simp [slotsIn, objsIn, sget, keepS, AObj.inB, AV.inB, AV.inL, AV.inE, inE_map, inE_ints, inE_sc, -List.map_append, -List.map_take, -List.map_map]) (by simp [slotsIn, objsIn, sget, keepS, AObj.inB, AV.inB, AV.inL, AV.inE, inE_map, inE_ints, inE_sc, -List.map_append, -List.map_take, -List.map_map]) (by simp [he0])⟩
        · skip
          have c4' := c4
          try simp only [qq] at c4'
          obtain rfl : j = (choicesC p).length := by omega
          have eS : (endsT p (k + 1)).map (fun (x : Int × Int) => [I x.1, I x.2]) = (endsT p k).map (fun (x : Int × Int) => [I x.1, I x.2]) ++ [[I (endT p k (choicesC p).length).1, I (endT p k (choicesC p).length).2]] := by rw [endsT_succ, List.map_append]; rfl
          refine aw_exit (aw_region ?_)
          refine sq_ev rfl (ev_mv (v := .own _ _ _) (lr _)) ?_
          refine sq_ev rfl (ev_load_agg (lr _) rfl ty23 rfl) ?_
          refine sq_ev rfl (ev_buildSlice (es := [[_, _]]) sf43 rfl rfl rfl rfl) ?_
          refine sq_append rfl sf43 Tryz.underlying43 rfl rfl (less_slx _ _) (Nat.succ_pos _) (by simp; omega) (by simp; omega) ?_
          refine sq_ev rfl (ev_as (v := .own _ _ _) (lr _)) ?_
          refine sq_nil (aw_region ?_)
          refine sq_ev rfl (ev_add (lr _) (lr _) (wr (by omega) (by omega))) ?_
          refine mvr (lr _) rfl ?_
          refine sq_nil ?_
          exact ⟨⟨k + 1, by omega⟩, by simp only; omega, Sub.fin 2 ⟨lr _, Less.eq (b := .own 1 2 ((endsT p (k + 1)).map fun (x : Int × Int) => [I x.1, I x.2])) (by rw [eS] <;> rfl), lr _, trivial⟩ (congrArg (fun n => [_, AObj.tok n]) (congrArg List.length eS.symm)) (by simp [slotsIn, objsIn, sget, keepS, AObj.inB, AV.inB, AV.inL, AV.inE, inE_map, inE_ints, inE_sc, -List.map_append, -List.map_take, -List.map_map]) (by simp [slotsIn, objsIn, sget, keepS, AObj.inB, AV.inB, AV.inL, AV.inE, inE_map, inE_ints, inE_sc, -List.map_append, -List.map_take, -List.map_map]) (by simp [he0])⟩
      · skip
        have c3' := c3
        try simp only [qq] at c3'
        obtain rfl : k = 3 := by omega
        refine aw_exit (aw_seq (aw_region ?_))
        refine sq_ev rfl (ev_mv (v := .own _ _ _) (lr _)) ?_
        refine sq_ev rfl (ev_as (v := .own _ _ _) (lr _)) ?_
        refine asr (lr _) rfl ?_
        refine sq_nil (aw_ret ?_)
        exact retQ_pure (v := .tup [.own _ _ _, .raw _]) rfl rfl (Less.trans (b := .tup [spans (endsT p 3), I 0]) (less_tup ⟨Less.trans (less_own _ _ _) (Less.eq (by rfl)), lr _, trivial⟩) (Less.eq (by rw [endsAV, if_pos c1', if_neg (by omega)])))


end Go.Proofs.YtjghdbdiejaacaaGreatDoor

namespace Go.Proofs.YtjghdbdiejaacaaGreatDoor
open Go Go.Ab Ni
theorem en127 : Ent Tryz.prog 127 := Ent.of Tryz.func127 (by kernel_rfl) rfl
theorem en128 : Ent Tryz.prog 128 := Ent.of Tryz.func128 (by kernel_rfl) rfl
theorem en129 : Ent Tryz.prog 129 := Ent.of Tryz.func129 (by kernel_rfl) rfl
theorem en130 : Ent Tryz.prog 130 := Ent.of Tryz.func130 (by kernel_rfl) rfl
theorem en158 : Ent Tryz.prog 158 := Ent.of Tryz.func158 (by kernel_rfl) rfl
theorem en159 : Ent Tryz.prog 159 := Ent.of Tryz.func159 (by kernel_rfl) rfl
theorem ty30 : tySz Tryz.prog 30 = some (false, 1) := by kernel_rfl

def missAV (p : Pl) : AV := if PlOK p = true then (match missed p with | some h => .tup [ints h, I 0] | none => .tup [.sl 1 [], I 5]) else .tup [.sl 1 [], I 2]
theorem missAV_pure (p : Pl) : (missAV p).pureB = true := by unfold missAV; (repeat' split) <;> simp [AV.pureB, AV.pureL, AV.pureE, pureE_map]
theorem idx_any (L : List (List Nat)) (q : List Nat → Bool) : (AV.raw (Value.bool (decide ((0 : Int) ≤ (match L.findIdx? q with | some i => (i : Int) | none => -1))))) = B (L.any q) := by
  congr 2
  rw [Bool.eq_iff_iff, decide_eq_true_eq, List.any_eq_true]
  cases h : L.findIdx? q with
  | none =>
    rw [List.findIdx?_eq_none_iff] at h
    simp only
    constructor
    · intro k; omega
    · rintro ⟨x, hx, hq⟩; have := h x hx; rw [hq] at this; cases this
  | some i =>
    rw [List.findIdx?_eq_some_iff_getElem] at h
    obtain ⟨h1, h2, _⟩ := h
    simp only
    exact ⟨fun _ => ⟨_, List.getElem_mem h1, h2⟩, fun _ => by omega⟩
set_option maxHeartbeats 2000000 in
/-- slices.AppendSeq[[][]int,[]int] -/
theorem ncollect1_pure (p : Pl) (gp : GP p) : APure Tryz.prog 158 [.raw (.slice none 0 0), .fn (.func 155) [] [.iptr (planC p)]] (natss (allC p)) := by
  refine apure_of_marks (rs := [.tmp 4]) Tryz.func158 rfl rfl (Nat.le_of_ble_eq_true rfl) (by simp [AV.pureL, AV.pureB, AV.pureE, pureE_map]) (by simp [AV.pureL, AV.pureB, AV.pureE, pureE_map]) fun e0 he0 => ?_
  refine aw_seq (aw_region ?_)
  refine sq_box rfl (lr _) rfl ?_
  refine asr (lr _) rfl ?_
  refine sq_nil (aw_seq (aw_seq (aw_region ?_)))
  refine sq_ev rfl (ev_mv (v := .fn _ _ _) (lr _)) ?_
  refine sq_nil (aw_block ?_)
  refine aw_sub (sub_token_box 0 1 rfl) ?_
  refine aw_rangeFunc1 (xs := (allC p).map nats) (fun k => [.cells [.own 1 1 (((allC p).take k).map (fun x => [nats x]))], .tok (((allC p).take k).map (fun x => [nats x])).length]) ((allC p).map nats).length none (Nat.le_refl _) (fun _ => rfl) (fun h => absurd rfl h) rfl rfl (lr _) en155 (nchoices_iter gp) rfl (fun _ => rfl) (fun k hk => by show objsIn 2 _ = true; simp [objsIn, AObj.inB, AV.inB, AV.inL, AV.inE, inE_map, inE_nats, -List.map_take, -List.map_map, -List.map_append]) (fun x hx => by obtain ⟨y, _, rfl⟩ := List.mem_map.1 hx; simp [AV.pureB, AV.pureL, AV.pureE, pureE_map]) rfl rfl ?_ ?_
  · intro l i x e0 hi hx he0
    obtain ⟨y, hy, rfl⟩ := xs_get hx
    obtain ⟨hk', he'⟩ := get_eq hy
    have hal := allC_len gp
    have eS : ((allC p).take (i + 1)).map (fun x => [nats x]) = ((allC p).take i).map (fun x => [nats x]) ++ [[nats y]] := by rw [map_take_succ _ hk', he']
    dsimp only [keepS, St.put, sget, slotsOf, List.map_cons, List.map_nil, List.cons_append, List.nil_append, List.length_cons, List.length_nil, Nat.reduceBEq, Nat.reduceAdd, cond_true, cond_false]
    refine aw_block (aw_region ?_)
    refine sq_ev rfl (ev_load (lr _) rfl ty30 rfl) ?_
    refine sq_ev rfl (ev_mv (v := .sl _ _) (lr _)) ?_
    refine sq_ev rfl (ev_buildSlice (es := [[_]]) sf30 rfl rfl rfl rfl) ?_
    refine sq_append rfl sf30 Tryz.underlying30 rfl rfl (less_slx _ _) (Nat.succ_pos _) (by simp; omega) (by simp; omega) ?_
    refine sq_store rfl (lr _) (lr _) rfl rfl ty30 rfl rfl ?_
    refine sq_nil ?_
    exact ⟨⟨[], congrArg (fun L => [AObj.cells [.own 1 1 L], .tok L.length]) eS.symm⟩, rfl, by split <;> rfl⟩
  · rintro _ rfl
    refine aw_seq (aw_region ?_)
    refine sq_ev rfl (ev_load (lr _) rfl ty30 rfl) ?_
    refine sq_ev rfl (ev_as (v := .own _ _ _) (lr _)) ?_
    refine sq_nil (aw_ret ?_)
    exact retQM_pure (v := .own _ _ _) rfl rfl (Less.trans (less_own _ _ _) (Less.eq (by simp)))

set_option maxHeartbeats 400000 in
/-- slices.Collect[[]int] -/
theorem ncollect_pure (p : Pl) (gp : GP p) : APure Tryz.prog 127 [.fn (.func 155) [] [.iptr (planC p)]] (natss (allC p)) := by
 refine apure_of (rs := [.tmp 2]) Tryz.func127 rfl rfl (Nat.le_of_ble_eq_true rfl) (by simp [AV.pureL, AV.pureB, AV.pureE, pureE_map]) (by simp [AV.pureL, AV.pureB, AV.pureE, pureE_map]) fun e0 he0 => ?_
 refine aw_seq (aw_region ?_)
 refine asr (lr _) rfl ?_
 refine sq_nil (aw_seq (aw_region ?_))
 refine sq_ev rfl (ev_mv (v := .fn _ _ _) (lr _)) ?_
 refine sq_ev rfl (ev_call en158 (lr _) (ncollect1_pure p gp) ⟨lr _, lr _, trivial⟩) ?_
 refine sq_ev rfl (ev_as (v := .sl _ _) (lr _)) ?_
 refine sq_nil (aw_ret ?_)
 exact retQ_pure (v := .sl _ _) rfl rfl (lr _)

set_option maxHeartbeats 400000 in
/-- kelir/night.Misses$1 -/
theorem nmissf_pure (p : Pl) (l : List Nat) (hs : List Int) (gp : GP p) (cv : CV p l) (hb : ∀ x ∈ hs, -1000000000 ≤ x ∧ x ≤ 1000000000) (hl : hs.length ≤ 1000000) : APure Tryz.prog 129 [nats l, .iptr (planC p), .iptr [ints hs]] (B (fitsP p l hs)) := by
 refine apure_of (rs := [.tmp 4]) Tryz.func129 rfl rfl (Nat.le_of_ble_eq_true rfl) (by simp [AV.pureL, AV.pureB, AV.pureE, pureE_map]) (rfl) fun e0 he0 => ?_
 refine aw_seq (aw_region ?_)
 refine asr (lr _) rfl ?_
 refine sq_nil (aw_seq (aw_region ?_))
 refine sq_ev rfl (ev_load_agg_i (lr _) ty27 (Nat.le_of_ble_eq_true rfl)) ?_
 refine sq_ev rfl (ev_mv (v := .sl _ _) (lr _)) ?_
 refine sq_ev rfl (ev_build bi110 rfl) ?_
 refine sq_ev rfl (ev_load_i (lr _) ty34 rfl) ?_
 refine sq_ev rfl (ev_call en130 (lr _) (nfits_pure p l hs gp cv hb hl) ⟨lr _, lr _, trivial⟩) ?_
 refine asr (lr _) rfl ?_
 refine sq_nil (aw_ret ?_)
 exact retQ_pure (v := .raw _) rfl rfl (lr _)

set_option maxHeartbeats 400000 in
/-- slices.IndexFunc[[][]int,[]int] -/
theorem nindexf_pure (p : Pl) (hs : List Int) (gp : GP p) (hb : ∀ x ∈ hs, -1000000000 ≤ x ∧ x ≤ 1000000000) (hl : hs.length ≤ 1000000) (L : List (List Nat)) (cv : ∀ l ∈ L, CV p l) (hL : L.length ≤ 2000000) : APure Tryz.prog 159 [natss L, .fn (.func 129) [] [.iptr (planC p), .iptr [ints hs]]] (I (match L.findIdx? (fun l => fitsP p l hs) with | some i => (i : Int) | none => -1)) := by
 refine apure_of (rs := [.tmp 4]) Tryz.func159 rfl rfl (Nat.le_of_ble_eq_true rfl) (by simp [AV.pureL, AV.pureB, AV.pureE, pureE_map]) (rfl) fun e0 he0 => ?_
 refine aw_seq (aw_region ?_)
 refine asr (lr _) rfl ?_
 refine sq_nil (aw_seq (aw_seq (aw_region ?_)))
 refine sq_ev rfl (ev_mv (v := .sl _ _) (lr _)) ?_
 refine sq_ev rfl (ev_len_map sl30 (lr _)) ?_
 refine mvr (lr _) rfl ?_
 refine sq_nil (aw_block ?_)
 refine aw_loopk (ι := { k : Nat // k ≤ L.length ∧ ∀ i, (h : i < L.length) → i < k → ¬ fitsP p L[i] hs = true }) [0, 1, 7] (fun i => [(8, I i.1)]) (fun H i => H) (fun i => L.length - i.1) (⟨0, Nat.zero_le _, by omega⟩) ⟨lr _, lr _, lr _, lr _, trivial⟩ rfl ?_
 rintro ⟨k, hk, hno⟩
 dsimp only [keepS, St.put, sget, slotsOf, List.map_cons, List.map_nil, List.cons_append, List.nil_append, List.length_cons, List.length_nil, Nat.reduceBEq, Nat.reduceAdd, cond_true, cond_false]
 refine aw_seq (aw_region ?_)
 refine sq_ev rfl (ev_lss (lr _) (lr _)) ?_
 refine sq_nil (aw_seq ?_)
 refine aw_cond (lr _) (fun c1 => ?_) (fun c1 => ?_)
 ·
  have c1' := c1
  try simp only [qq] at c1'
  have hk' : k < L.length := by omega
  refine aw_skip (aw_seq (aw_block (aw_seq (aw_region ?_))))
  refine mvr (lr _) rfl ?_
  refine asr (lr _) rfl ?_
  refine sq_nil (aw_seq (aw_region ?_))
  refine sq_ev rfl (ev_mv (v := .fn _ _ _) (lr _)) ?_
  refine sq_ev rfl (ev_mv (v := .sl _ _) (lr _)) ?_
  refine mvr (lr _) rfl ?_
  refine sq_ev rfl (ev_index_map sl30 (lr _) (lr _) rfl (by omega)) ?_
  refine sq_ev rfl (ev_load_i (lr _) ty34 rfl) ?_
  refine sq_ev rfl (ev_call en129 (lr _) (nmissf_pure p L[k] hs gp (cv _ (List.getElem_mem hk')) hb hl) ⟨lr _, lr _, lr _, trivial⟩) ?_
  refine sq_nil ?_
  refine aw_cond (lr _) (fun c2 => ?_) (fun c2 => ?_)
  ·
   have c2' := c2
   try simp only [qq] at c2'
   refine aw_seq (aw_region ?_)
   refine mvr (lr _) rfl ?_
   refine asr (lr _) rfl ?_
   refine sq_nil (aw_ret ?_)
   exact retQ_pure (v := .raw _) rfl rfl (Less.eq (by rw [List.findIdx?_eq_some_iff_getElem.2 ⟨hk', by simpa using c2', fun j hj => by simpa using hno j (by omega) hj⟩]))
  ·
   have c2' := c2
   try simp only [qq] at c2'
   refine aw_skip (aw_region ?_)
   refine sq_ev rfl (ev_add (lr _) (lr _) (wr (by omega) (by omega))) ?_
   refine mvr (lr _) rfl ?_
   refine sq_nil ?_
   exact ⟨⟨k + 1, by omega, fun i h hi => (by by_cases e : i = k; (subst e; simpa using c2'); exact hno i h (by omega))⟩, by simp only; omega, Sub.slots ⟨lr _, lr _, lr _, lr _, trivial⟩⟩
 ·
  have c1' := c1
  try simp only [qq] at c1'
  obtain rfl : k = L.length := by omega
  refine aw_exit (aw_seq (aw_region ?_))
  refine asr (lr _) rfl ?_
  refine sq_nil (aw_ret ?_)
  exact retQ_pure (v := .raw _) rfl rfl (Less.eq (by rw [List.findIdx?_eq_none_iff.2 (fun x hx => by obtain ⟨i, hi, rfl⟩ := List.getElem_of_mem hx; simpa using hno i hi hi)]))

set_option maxHeartbeats 400000 in
/-- slices.ContainsFunc[[][]int,[]int] -/
theorem ncontainsf_pure (p : Pl) (hs : List Int) (gp : GP p) (hb : ∀ x ∈ hs, -1000000000 ≤ x ∧ x ≤ 1000000000) (hl : hs.length ≤ 1000000) (L : List (List Nat)) (cv : ∀ l ∈ L, CV p l) (hL : L.length ≤ 2000000) : APure Tryz.prog 128 [natss L, .fn (.func 129) [] [.iptr (planC p), .iptr [ints hs]]] (B (L.any fun l => fitsP p l hs)) := by
 refine apure_of (rs := [.tmp 4]) Tryz.func128 rfl rfl (Nat.le_of_ble_eq_true rfl) (by simp [AV.pureL, AV.pureB, AV.pureE, pureE_map]) (rfl) fun e0 he0 => ?_
 refine aw_seq (aw_region ?_)
 refine asr (lr _) rfl ?_
 refine sq_nil (aw_seq (aw_region ?_))
 refine sq_ev rfl (ev_mv (v := .sl _ _) (lr _)) ?_
 refine sq_ev rfl (ev_mv (v := .fn _ _ _) (lr _)) ?_
 refine sq_ev rfl (ev_call en159 (lr _) (nindexf_pure p hs gp hb hl L cv hL) ⟨lr _, lr _, trivial⟩) ?_
 refine sq_ev rfl (ev_geq (lr _) (lr _)) ?_
 refine asr (lr _) rfl ?_
 refine sq_nil (aw_ret ?_)
 exact retQ_pure (v := .raw _) rfl rfl (Less.eq (by rw [idx_any]))

set_option maxHeartbeats 2000000 in
/-- kelir/night.Misses -/
theorem nMisses_pure (p : Pl) (hl0 : p.scenes.length ≤ 1000000) : APure Tryz.prog 66 [plan p] (missAV p) := by
 refine apure_of (rs := [.tmp 2, .tmp 3]) Tryz.func66 rfl rfl (Nat.le_of_ble_eq_true rfl) (by simp [AV.pureL, AV.pureB, AV.pureE, pureE_map]) (missAV_pure p) fun e0 he0 => ?_
 refine aw_seq (aw_region ?_)
 refine sq_box rfl (lr _) rfl ?_
 refine asr (lr _) rfl ?_
 refine asr (lr _) rfl ?_
 refine sq_nil (aw_scope (aw_seq (aw_seq ?_)))
 refine aw_sub (sub_iptrK [2, 3] 1 rfl rfl) ?_
 dsimp only [keepS, St.put, sget, slotsOf, List.map_cons, List.map_nil, List.cons_append, List.nil_append, List.length_cons, List.length_nil, Nat.reduceBEq, Nat.reduceAdd, cond_true, cond_false]
 refine aw_region ?_
 refine sq_ev rfl (ev_load_agg_i (lr _) ty27 (Nat.le_of_ble_eq_true rfl)) ?_
 refine sq_ev rfl (ev_call en85 (lr _) (isplan_pure p hl0) ⟨lr _, trivial⟩) ?_
 refine sq_ev rfl (ev_not (lr _)) ?_
 refine sq_nil ?_
 refine aw_cond (lr _) (fun c1 => ?_) (fun c1 => ?_)
 ·
  have c1' := c1
  try simp only [qq] at c1'
  refine aw_seq (aw_region ?_)
  refine asr (lr _) rfl ?_
  refine asr (lr _) rfl ?_
  refine sq_nil (aw_ret ?_)
  exact retQ_pure (v := .tup [.raw _, .raw _]) rfl rfl (Less.trans (b := .tup [.sl 1 [], I 2]) (less_tup ⟨less_nil 1, lr _, trivial⟩) (Less.eq (by simp [missAV, c1'])))
 ·
  have c1' := c1
  try simp only [qq] at c1'
  obtain ⟨gp, wp⟩ := gp_of_ok c1'
  have b1 := gp.s0l
  have b2 := gp.s0h
  have b3 := gp.s1l
  have b4 := gp.s1h
  have b5 := gp.dl
  have b6 := gp.dh
  have w1 := wp.s0
  have w2 := wp.s1
  have w3 := wp.d
  have e1 : (wid p.s0l p.s0h : Int) = p.s0h - p.s0l + 1 := by unfold wid; omega
  have e2 : (wid p.s1l p.s1h : Int) = p.s1h - p.s1l + 1 := by unfold wid; omega
  have e3 : (wid p.dl p.dh : Int) = p.dh - p.dl + 1 := by unfold wid; omega
  refine aw_skip (aw_seq (aw_region ?_))
  refine sq_ev rfl (ev_load_agg_i (lr _) ty27 (Nat.le_of_ble_eq_true rfl)) ?_
  refine sq_ev rfl (ev_call en124 (lr _) (nchoices0_pure p) ⟨lr _, trivial⟩) ?_
  refine sq_ev rfl (ev_call en127 (lr _) (ncollect_pure p gp) ⟨lr _, trivial⟩) ?_
  refine sq_ev rfl (ev_as (v := .sl _ _) (lr _)) ?_
  refine sq_nil (aw_seq (aw_region ?_))
  refine asr (lr _) rfl ?_
  refine sq_nil (aw_seq (aw_label (aw_seq (aw_seq (aw_region ?_)))))
  refine sq_ev rfl (ev_fieldAddr_i fo27_1 (lr _)) ?_
  refine sq_ev rfl (ev_index_box_i ar24 (lr _) (lr _) rfl (by decide)) ?_
  refine sq_ev rfl (ev_fieldAddr_i fo23_0 (lr _)) ?_
  refine sq_ev rfl (ev_load_i (lr _) ty3 rfl) ?_
  refine asr (lr _) rfl ?_
  refine sq_nil (aw_block ?_)
  refine aw_loopk (ι := { i : Nat // i ≤ wid p.s0l p.s0h ∧ (fm i (msA p)).find? (missH p) = none }) [1, 4] (fun i => [(6, I (p.s0l + i.1)), (5, .raw (.slice none 0 0))]) (fun H i => H) (fun i => wid p.s0l p.s0h - i.1) (⟨0, Nat.zero_le _, rfl⟩) ⟨(by exact less_int (by simp)), lr _, lr _, lr _, trivial⟩ rfl ?_
  rintro ⟨i, hi, hi0⟩
  dsimp only [keepS, St.put, sget, slotsOf, List.map_cons, List.map_nil, List.cons_append, List.nil_append, List.length_cons, List.length_nil, Nat.reduceBEq, Nat.reduceAdd, cond_true, cond_false]
  refine aw_seq (aw_seq (aw_region ?_))
  refine mvr (lr _) rfl ?_
  refine sq_ev rfl (ev_fieldAddr_i fo27_1 (lr _)) ?_
  refine sq_ev rfl (ev_index_box_i ar24 (lr _) (lr _) rfl (by decide)) ?_
  refine sq_ev rfl (ev_fieldAddr_i fo23_1 (lr _)) ?_
  refine sq_ev rfl (ev_load_i (lr _) ty3 rfl) ?_
  refine sq_ev rfl (ev_leq (lr _) (lr _)) ?_
  refine sq_nil ?_
  refine aw_cond (lr _) (fun c2 => ?_) (fun c2 => ?_)
  ·
   have c2' := c2
   try simp only [qq] at c2'
   have hi2 : i < wid p.s0l p.s0h := by omega
   refine aw_skip (aw_seq (aw_block (aw_seq (aw_region ?_))))
   refine sq_ev rfl (ev_fieldAddr_i fo27_1 (lr _)) ?_
   refine sq_ev rfl (ev_index_box_i ar24 (lr _) (lr _) rfl (by decide)) ?_
   refine sq_ev rfl (ev_fieldAddr_i fo23_0 (lr _)) ?_
   refine sq_ev rfl (ev_load_i (lr _) ty3 rfl) ?_
   refine asr (lr _) rfl ?_
   refine sq_nil (aw_block ?_)
   refine aw_loopk (ι := { j : Nat // j ≤ wid p.s1l p.s1h ∧ (fm j (msB p i)).find? (missH p) = none }) [1, 4, 6] (fun j => [(7, I (p.s1l + j.1)), (5, .raw (.slice none 0 0))]) (fun H j => H) (fun j => wid p.s1l p.s1h - j.1) (⟨0, Nat.zero_le _, rfl⟩) ⟨(by exact less_int (by simp)), lr _, lr _, lr _, lr _, trivial⟩ rfl ?_
   rintro ⟨j, hj, hj0⟩
   dsimp only [keepS, St.put, sget, slotsOf, List.map_cons, List.map_nil, List.cons_append, List.nil_append, List.length_cons, List.length_nil, Nat.reduceBEq, Nat.reduceAdd, cond_true, cond_false]
   refine aw_seq (aw_seq (aw_region ?_))
   refine mvr (lr _) rfl ?_
   refine sq_ev rfl (ev_fieldAddr_i fo27_1 (lr _)) ?_
   refine sq_ev rfl (ev_index_box_i ar24 (lr _) (lr _) rfl (by decide)) ?_
   refine sq_ev rfl (ev_fieldAddr_i fo23_1 (lr _)) ?_
   refine sq_ev rfl (ev_load_i (lr _) ty3 rfl) ?_
   refine sq_ev rfl (ev_leq (lr _) (lr _)) ?_
   refine sq_nil ?_
   refine aw_cond (lr _) (fun c3 => ?_) (fun c3 => ?_)
   ·
    have c3' := c3
    try simp only [qq] at c3'
    have hj2 : j < wid p.s1l p.s1h := by omega
    refine aw_skip (aw_seq (aw_block (aw_seq (aw_region ?_))))
    refine sq_ev rfl (ev_fieldAddr_i fo27_2 (lr _)) ?_
    refine sq_ev rfl (ev_fieldAddr_i fo23_0 (lr _)) ?_
    refine sq_ev rfl (ev_load_i (lr _) ty3 rfl) ?_
    refine asr (lr _) rfl ?_
    refine sq_nil (aw_block ?_)
    refine aw_loopk (ι := { k : Nat // k ≤ wid p.dl p.dh ∧ (fm k (msC p i j)).find? (missH p) = none }) [1, 4, 6, 7] (fun k => [(8, I (p.dl + k.1)), (5, .raw (.slice none 0 0))]) (fun H k => H) (fun k => wid p.dl p.dh - k.1) (⟨0, Nat.zero_le _, rfl⟩) ⟨(by exact less_int (by simp)), lr _, lr _, lr _, lr _, lr _, trivial⟩ rfl ?_
    rintro ⟨k, hk, hk0⟩
    dsimp only [keepS, St.put, sget, slotsOf, List.map_cons, List.map_nil, List.cons_append, List.nil_append, List.length_cons, List.length_nil, Nat.reduceBEq, Nat.reduceAdd, cond_true, cond_false]
    refine aw_seq (aw_seq (aw_region ?_))
    refine mvr (lr _) rfl ?_
    refine sq_ev rfl (ev_fieldAddr_i fo27_2 (lr _)) ?_
    refine sq_ev rfl (ev_fieldAddr_i fo23_1 (lr _)) ?_
    refine sq_ev rfl (ev_load_i (lr _) ty3 rfl) ?_
    refine sq_ev rfl (ev_leq (lr _) (lr _)) ?_
    refine sq_nil ?_
    refine aw_cond (lr _) (fun c4 => ?_) (fun c4 => ?_)
    ·
     have c4' := c4
     try simp only [qq] at c4'
     have hk2 : k < wid p.dl p.dh := by omega
     refine aw_skip (aw_seq (aw_block (aw_seq (aw_region ?_))))
     refine mvr (lr _) rfl ?_
     refine mvr (lr _) rfl ?_
     refine mvr (lr _) rfl ?_
     refine sq_ev rfl (ev_buildSlice (es := [[_], [_], [_]]) sf34 rfl rfl rfl rfl) ?_
     refine sq_alloc rfl z34 ?_
     refine sq_store rfl (lr _) (less_slx _ _) rfl rfl ty34 rfl rfl ?_
     refine sq_nil (aw_seq ?_)
     refine aw_sub (sub_iptrK [1, 2, 3, 4, 5, 6, 7, 8] 9 rfl rfl) ?_
     dsimp only [keepS, St.put, sget, slotsOf, List.map_cons, List.map_nil, List.cons_append, List.nil_append, List.length_cons, List.length_nil, Nat.reduceBEq, Nat.reduceAdd, cond_true, cond_false]
     refine aw_region ?_
     refine sq_ev rfl (ev_mv (v := .sl _ _) (lr _)) ?_
     refine sq_ev rfl (ev_makeFunc) ?_
     refine sq_ev rfl (ev_call en128 (lr _) (ncontainsf_pure p [p.s0l + i, p.s1l + j, p.dl + k] gp (by simp; omega) (by simp) (allC p) (allC_mem gp) (by have := allC_len gp; omega)) ⟨lr _, lr _, trivial⟩) ?_
     refine sq_ev rfl (ev_not (lr _)) ?_
     refine sq_nil ?_
     refine aw_cond (lr _) (fun c5 => ?_) (fun c5 => ?_)
     ·
      have c5' := c5
      try simp only [qq] at c5'
      have hm : missed p = some [p.s0l + i, p.s1l + j, p.dl + k] := fm_find _ hi2 hi0 (fm_find _ hj2 hj0 (fm_find _ hk2 hk0 (by unfold msC; rw [List.find?_cons_of_pos]; unfold missH; exact c5)))
      refine aw_seq (aw_region ?_)
      refine sq_ev rfl (ev_load_i (lr _) ty34 rfl) ?_
      refine sq_ev rfl (ev_as (v := .sl _ _) (lr _)) ?_
      refine sq_nil (aw_exit (aw_seq (aw_seq (aw_region ?_))))
      refine sq_ev rfl (ev_mv (v := .sl _ _) (lr _)) ?_
      refine sq_ev rfl (ev_sl_nil_ne sl34 (lr _) (by simp) (lr _)) ?_
      refine sq_nil ?_
      refine aw_cond (lr _) (fun c6 => ?_) (fun c6 => ?_)
      ·
       have c6' := c6
       try simp only [qq] at c6'
       cases c6
      ·
       have c6' := c6
       try simp only [qq] at c6'
       refine aw_skip (aw_seq (aw_region ?_))
       refine sq_ev rfl (ev_mv (v := .sl _ _) (lr _)) ?_
       refine sq_ev rfl (ev_as (v := .sl _ _) (lr _)) ?_
       refine asr (lr _) rfl ?_
       refine sq_nil (aw_ret ?_)
       exact retQ_pure (v := .tup [.sl _ _, .raw _]) rfl rfl (Less.eq (by rw [missAV, if_pos c1', hm] <;> rfl))
     ·
      have c5' := c5
      try simp only [qq] at c5'
      have hn : (msC p i j k).find? (missH p) = none := by unfold msC; rw [List.find?_cons_of_neg (by unfold missH; rw [c5]; decide)]; rfl
      refine aw_skip (aw_region ?_)
      refine mvr (lr _) rfl ?_
      refine sq_ev rfl (ev_add (lr _) (lr _) (wr (by omega) (by omega))) ?_
      refine asr (lr _) rfl ?_
      refine sq_nil ?_
      exact ⟨⟨k + 1, by omega, fm_find_succ hk0 hn⟩, by simp only; omega, Sub.fin 1 ⟨(by exact less_int (by simp only; omega)), lr _, lr _, lr _, lr _, lr _, trivial⟩ rfl (by simp [slotsIn, objsIn, sget, keepS, AObj.inB, AV.inB, AV.inL, AV.inE, inE_map]) (by simp [slotsIn, objsIn, sget, keepS, AObj.inB, AV.inB, AV.inL, AV.inE, inE_map]) (by simp [he0])⟩
    ·
     have c4' := c4
     try simp only [qq] at c4'
     obtain rfl : k = wid p.dl p.dh := by omega
     refine aw_exit (aw_region ?_)
     refine mvr (lr _) rfl ?_
     refine sq_ev rfl (ev_add (lr _) (lr _) (wr (by omega) (by omega))) ?_
     refine asr (lr _) rfl ?_
     refine sq_nil ?_
     exact ⟨⟨j + 1, by omega, fm_find_succ hj0 hk0⟩, by simp only; omega, Sub.slots ⟨(by exact less_int (by simp only; omega)), lr _, lr _, lr _, lr _, trivial⟩⟩
   ·
    have c3' := c3
    try simp only [qq] at c3'
    obtain rfl : j = wid p.s1l p.s1h := by omega
    refine aw_exit (aw_region ?_)
    refine mvr (lr _) rfl ?_
    refine sq_ev rfl (ev_add (lr _) (lr _) (wr (by omega) (by omega))) ?_
    refine asr (lr _) rfl ?_
    refine sq_nil ?_
    exact ⟨⟨i + 1, by omega, fm_find_succ hi0 hj0⟩, by simp only; omega, Sub.slots ⟨(by exact less_int (by simp only; omega)), lr _, lr _, lr _, trivial⟩⟩
  ·
   have c2' := c2
   try simp only [qq] at c2'
   obtain rfl : i = wid p.s0l p.s0h := by omega
   refine aw_exit (aw_seq (aw_seq (aw_region ?_)))
   refine mvr (lr _) rfl ?_
   refine sq_ev rfl (ev_slnil sl34 (lr _) (lr _)) ?_
   refine sq_nil ?_
   refine aw_cond (lr _) (fun c7 => ?_) (fun c7 => ?_)
   ·
    have c7' := c7
    try simp only [qq] at c7'
    refine aw_seq (aw_region ?_)
    refine asr (lr _) rfl ?_
    refine asr (lr _) rfl ?_
    refine sq_nil (aw_ret ?_)
    exact retQ_pure (v := .tup [.raw _, .raw _]) rfl rfl (Less.trans (b := .tup [.sl 1 [], I 5]) (less_tup ⟨less_nil 1, lr _, trivial⟩) (Less.eq (by rw [missAV, if_pos c1', show missed p = none from hi0])))
   ·
    have c7' := c7
    try simp only [qq] at c7'
    cases c7


end Go.Proofs.YtjghdbdiejaacaaGreatDoor

namespace Go.Proofs.YtjghdbdiejaacaaGreatDoor
open Go Go.Ab Ni
theorem en164 : Ent Tryz.prog 164 := Ent.of Tryz.func164 (by kernel_rfl) rfl
theorem un3 : Tryz.prog.underlying 3 = some (.int .i64) := by kernel_rfl

theorem flat_take_succ {α : Type} {L : List (List α)} {k : Nat} (h : k < L.length) : (L.take (k + 1)).flatten = (L.take k).flatten ++ L[k] := by
  rw [List.take_succ_eq_append_getElem h, List.flatten_append]; simp
theorem flat_take_le {α : Type} (L : List (List α)) (k : Nat) : (L.take k).flatten.length ≤ L.flatten.length := by
  conv => rhs; rw [← List.take_append_drop k L, List.flatten_append, List.length_append]
  omega
set_option maxHeartbeats 400000 in
/-- slices.Grow[[]int,int] -/
theorem ngrow_call (n : Nat) (hn : n ≤ 100000000) : ACall Tryz.prog 164 [.raw (.slice none 0 0), I n] [] (fun x H' => H' = [.tok 0] ∧ x = .ret (.own 0 1 [])) := by
  refine ACall.fresh (sz := 1) (H := []) ?_ rfl
  refine acall_of (rs := [.tmp 4]) Tryz.func164 rfl rfl (Nat.le_of_ble_eq_true rfl) fun e0 he0 => ?_
  refine aw_seq (aw_region ?_)
  refine asr (lr _) rfl ?_
  refine sq_nil (aw_seq (aw_seq (aw_region ?_)))
  refine mvr (lr _) rfl ?_
  refine sq_ev rfl (ev_lss (lr _) (lr _)) ?_
  refine sq_nil ?_
  refine aw_cond (lr _) (fun c1 => ?_) (fun c1 => ?_)
  · skip
    have c1' := c1
    try simp only [qq] at c1'
    exfalso
    omega
  · skip
    have c1' := c1
    try simp only [qq] at c1'
    refine aw_skip (aw_seq (aw_seq (aw_region ?_)))
    refine mvr (lr _) rfl ?_
    refine mvr (lr _) rfl ?_
    refine sq_ev rfl (ev_cap_nil sl34 (lr _)) ?_
    refine mvr (lr _) rfl ?_
    refine sq_ev rfl (ev_len (n := 0) sl34 (less_nil _) rfl) ?_
    refine sq_ev rfl (ev_sub (lr _) (lr _) (wr (by omega) (by omega))) ?_
    refine sq_ev rfl (ev_sub (lr _) (lr _) (wr (by omega) (by omega))) ?_
    refine asr (lr _) rfl ?_
    refine sq_nil (aw_seq (aw_region ?_))
    refine mvr (lr _) rfl ?_
    refine sq_ev rfl (ev_gtr (lr _) (lr _)) ?_
    refine sq_nil ?_
    refine aw_cond (lr _) (fun c2 => ?_) (fun c2 => ?_)
    · skip
      have c2' := c2
      try simp only [qq] at c2'
      refine aw_region ?_
      refine mvr (lr _) rfl ?_
      refine mvr (lr _) rfl ?_
      refine sq_ev rfl (ev_cap_nil sl34 (lr _)) ?_
      refine sq_ev rfl (ev_slice_nil sl34 (lr _) (lr _)) ?_
      refine mvr (lr _) rfl ?_
      refine sq_append_make (n := n) rfl sf34 un3 (by decide) (lr _) (less_int (by omega)) (by omega) (by omega) (by omega) fun cap hcap => ?_
      refine mvr (lr _) rfl ?_
      refine sq_ev rfl (ev_len (n := 0) sl34 (less_nil _) rfl) ?_
      refine sq_ev rfl (ev_slice_msl (hi := 0) sl34 (lr _) (lr _) (by omega)) ?_
      refine sq_ev rfl (ev_as (v := .msl _ _ _ _) (lr _)) ?_
      refine sq_nil (aw_seq (aw_region ?_))
      refine sq_ev rfl (ev_mv (v := .msl _ _ _ _) (lr _)) ?_
      refine sq_ev rfl (ev_as (v := .msl _ _ _ _) (lr _)) ?_
      refine sq_nil (aw_ret ?_)
      exact ⟨rfl, _, rfl, .inr ⟨cap, _, rfl, by simp, rfl⟩⟩
    · skip
      have c2' := c2
      try simp only [qq] at c2'
      obtain rfl : n = 0 := by omega
      refine aw_skip (aw_seq (aw_region ?_))
      refine mvr (lr _) rfl ?_
      refine asr (lr _) rfl ?_
      refine sq_nil (aw_ret ?_)
      exact ⟨rfl, _, rfl, .inl ⟨rfl, rfl⟩⟩

set_option maxHeartbeats 1000000 in
/-- slices.Concat[[]int,int] -/
theorem nconcat_pure (L : List (List Nat)) (hb : L.flatten.length ≤ 1000000) (hL : L.length ≤ 1000000) : APure Tryz.prog 146 [natss L] (nats L.flatten) := by
 refine apure_of (rs := [.tmp 2]) Tryz.func146 rfl rfl (Nat.le_of_ble_eq_true rfl) (by simp [AV.pureL, AV.pureB, AV.pureE, pureE_map]) (by simp [AV.pureL, AV.pureB, AV.pureE, pureE_map, -List.map_flatten]) fun e0 he0 => ?_
 refine aw_seq (aw_region ?_)
 refine asr (lr _) rfl ?_
 refine sq_nil (aw_seq (aw_region ?_))
 refine asr (lr _) rfl ?_
 refine sq_nil (aw_seq (aw_seq (aw_region ?_)))
 refine sq_ev rfl (ev_mv (v := .sl _ _) (lr _)) ?_
 refine sq_ev rfl (ev_len_map sl30 (lr _)) ?_
 refine mvr (lr _) rfl ?_
 refine sq_nil (aw_block ?_)
 refine aw_loopk (ι := { k : Nat // k ≤ L.length }) [0, 9, 10] (fun i => [(11, I i.1), (3, I ((L.take i.1).flatten.length : Int))]) (fun H i => H) (fun i => L.length - i.1) (⟨0, Nat.zero_le _⟩) ⟨lr _, lr _, lr _, lr _, lr _, trivial⟩ rfl ?_
 rintro ⟨k, hk⟩
 dsimp only [keepS, St.put, sget, slotsOf, List.map_cons, List.map_nil, List.cons_append, List.nil_append, List.length_cons, List.length_nil, Nat.reduceBEq, Nat.reduceAdd, cond_true, cond_false]
 have ht1 := flat_take_le L k
 have ht2 := flat_take_le L (k + 1)
 refine aw_seq (aw_region ?_)
 refine sq_ev rfl (ev_lss (lr _) (lr _)) ?_
 refine sq_nil (aw_seq ?_)
 refine aw_cond (lr _) (fun c1 => ?_) (fun c1 => ?_)
 ·
  have c1' := c1
  try simp only [qq] at c1'
  have hk' : k < L.length := by omega
  have eN : ((L.take k).flatten.length : Int) + (L[k].length : Int) = ((L.take (k + 1)).flatten.length : Int) := by rw [flat_take_succ hk', List.length_append]; omega
  refine aw_skip (aw_seq (aw_block (aw_seq (aw_region ?_))))
  refine sq_ev rfl (ev_index_map sl30 (lr _) (lr _) rfl (by omega)) ?_
  refine sq_ev rfl (ev_load_i (lr _) ty34 rfl) ?_
  refine sq_ev rfl (ev_as (v := .sl _ _) (lr _)) ?_
  refine sq_nil (aw_seq (aw_region ?_))
  refine mvr (lr _) rfl ?_
  refine sq_ev rfl (ev_mv (v := .sl _ _) (lr _)) ?_
  refine sq_ev rfl (ev_len_map sl34 (lr _)) ?_
  refine sq_ev rfl (ev_add (lr _) (lr _) (wr (by omega) (by omega))) ?_
  refine asr (lr _) rfl ?_
  refine sq_nil (aw_seq (aw_region ?_))
  refine mvr (lr _) rfl ?_
  refine sq_ev rfl (ev_lss (lr _) (lr _)) ?_
  refine sq_nil ?_
  refine aw_cond (lr _) (fun c2 => ?_) (fun c2 => ?_)
  ·
   have c2' := c2
   try simp only [qq] at c2'
   exfalso
   omega
  ·
   have c2' := c2
   try simp only [qq] at c2'
   refine aw_skip (aw_region ?_)
   refine sq_ev rfl (ev_add (lr _) (lr _) (wr (by omega) (by omega))) ?_
   refine mvr (lr _) rfl ?_
   refine sq_nil ?_
   exact ⟨⟨k + 1, by omega⟩, by simp only; omega, Sub.slots ⟨lr _, (by exact less_int eN), lr _, lr _, lr _, trivial⟩⟩
 ·
  have c1' := c1
  try simp only [qq] at c1'
  obtain rfl : k = L.length := by omega
  refine aw_exit (aw_seq (aw_region ?_))
  refine mvr (lr _) rfl ?_
  refine sq_call (args := [.raw (.slice none 0 0), I (L.take L.length).flatten.length]) rfl en164 (lr _) ⟨lr _, lr _, trivial⟩ (ngrow_call _ (by have := flat_take_le L L.length; omega)) ?_ (by rintro v H' ⟨_, h⟩; cases h)
  rintro _ _ ⟨rfl, h⟩; cases h
  refine sq_ev rfl (ev_as (v := .own _ _ _) (lr _)) ?_
  refine sq_nil (aw_seq (aw_seq (aw_region ?_)))
  refine sq_ev rfl (ev_mv (v := .sl _ _) (lr _)) ?_
  refine sq_ev rfl (ev_len_map sl30 (lr _)) ?_
  refine mvr (lr _) rfl ?_
  refine sq_nil (aw_block ?_)
  refine aw_loopk (ι := { k : Nat // k ≤ L.length }) [25, 26] (fun i => [(27, I i.1), (6, .own 0 1 (((L.take i.1).flatten).map fun (x : Nat) => [I x]))]) (fun H i => H.set 0 (.tok (((L.take i.1).flatten).map fun (x : Nat) => [I x]).length)) (fun i => L.length - i.1) (⟨0, Nat.zero_le _⟩) ⟨lr _, lr _, lr _, lr _, trivial⟩ rfl ?_
  rintro ⟨k, hk⟩
  dsimp only [keepS, St.put, sget, slotsOf, List.map_cons, List.map_nil, List.cons_append, List.nil_append, List.length_cons, List.length_nil, Nat.reduceBEq, Nat.reduceAdd, cond_true, cond_false]
  have ht1 := flat_take_le L k
  have ht2 := flat_take_le L (k + 1)
  refine aw_seq (aw_region ?_)
  refine sq_ev rfl (ev_lss (lr _) (lr _)) ?_
  refine sq_nil (aw_seq ?_)
  refine aw_cond (lr _) (fun c3 => ?_) (fun c3 => ?_)
  ·
   have c3' := c3
   try simp only [qq] at c3'
   have hk' : k < L.length := by omega
   have eS : ((L.take (k + 1)).flatten).map (fun (x : Nat) => [I x]) = ((L.take k).flatten).map (fun (x : Nat) => [I x]) ++ (L[k]).map (fun (x : Nat) => [I x]) := by rw [flat_take_succ hk', List.map_append]
   refine aw_skip (aw_seq (aw_block (aw_seq (aw_region ?_))))
   refine sq_ev rfl (ev_index_map sl30 (lr _) (lr _) rfl (by omega)) ?_
   refine sq_ev rfl (ev_load_i (lr _) ty34 rfl) ?_
   refine sq_ev rfl (ev_as (v := .sl _ _) (lr _)) ?_
   refine sq_nil (aw_region ?_)
   refine sq_ev rfl (ev_mv (v := .own _ _ _) (lr _)) ?_
   refine sq_ev rfl (ev_mv (v := .sl _ _) (lr _)) ?_
   refine sq_append' rfl sf34 Tryz.underlying34 rfl rfl (lr _) (by simp only [List.length_map]; rw [flat_take_succ hk', List.length_append] at ht2; omega) (by simp only [List.length_map]; rw [flat_take_succ hk', List.length_append] at ht2; omega) ?_
   refine sq_ev rfl (ev_as (v := .own _ _ _) (lr _)) ?_
   refine sq_nil (aw_region ?_)
   refine sq_ev rfl (ev_add (lr _) (lr _) (wr (by omega) (by omega))) ?_
   refine mvr (lr _) rfl ?_
   refine sq_nil ?_
   exact ⟨⟨k + 1, by omega⟩, by simp only; omega, Sub.fin 1 ⟨lr _, Less.eq (b := .own 0 1 (((L.take (k + 1)).flatten).map fun (x : Nat) => [I x])) (by rw [eS] <;> rfl), lr _, lr _, trivial⟩ (congrArg (fun n => [AObj.tok n]) (congrArg List.length eS.symm)) (by simp [slotsIn, objsIn, sget, keepS, AObj.inB, AV.inB, AV.inL, AV.inE, inE_map, inE_nats1, -List.map_flatten, inE_sc, -List.map_append, -List.map_take, -List.map_map]) (by simp [slotsIn, objsIn, sget, keepS, AObj.inB, AV.inB, AV.inL, AV.inE, inE_map, inE_nats1, -List.map_flatten, inE_sc, -List.map_append, -List.map_take, -List.map_map]) (by simp [he0])⟩
  ·
   have c3' := c3
   try simp only [qq] at c3'
   obtain rfl : k = L.length := by omega
   refine aw_exit (aw_seq (aw_region ?_))
   refine sq_ev rfl (ev_mv (v := .own _ _ _) (lr _)) ?_
   refine sq_ev rfl (ev_as (v := .own _ _ _) (lr _)) ?_
   refine sq_nil (aw_ret ?_)
   exact retQ_pure (v := .own _ _ _) rfl rfl (Less.trans (less_own _ _ _) (Less.eq (by simp)))


end Go.Proofs.YtjghdbdiejaacaaGreatDoor

namespace Go.Proofs.YtjghdbdiejaacaaGreatDoor
open Go Go.Ab Ni
theorem en145 : Ent Tryz.prog 145 := Ent.of Tryz.func145 (by kernel_rfl) rfl
theorem en146 : Ent Tryz.prog 146 := Ent.of Tryz.func146 (by kernel_rfl) rfl
theorem en94 : Ent Tryz.prog 94 := Ent.of Tryz.func94 (by kernel_rfl) rfl
theorem en95 : Ent Tryz.prog 95 := Ent.of Tryz.func95 (by kernel_rfl) rfl
theorem en96 : Ent Tryz.prog 96 := Ent.of Tryz.func96 (by kernel_rfl) rfl

def begC (p : Pl) (n : Nat) (l : List Nat) : Int × Int :=
  (max ((fw p l (scn p n).part.toNat).1 + lsum p (befP p l n)) ((bw p l (2 - (scn p n).part.toNat)).1 - hsum p (n :: behP p l n)),
   min ((fw p l (scn p n).part.toNat).2 + hsum p (befP p l n)) ((bw p l (2 - (scn p n).part.toNat)).2 - lsum p (n :: behP p l n)))
def longC (p : Pl) (n : Nat) (l : List Nat) : Int × Int :=
  (max (scn p n).least ((bw p l (2 - (scn p n).part.toNat)).1 - (fw p l (scn p n).part.toNat).2 - hsum p (befP p l n ++ behP p l n)),
   min (scn p n).most ((bw p l (2 - (scn p n).part.toNat)).2 - (fw p l (scn p n).part.toNat).1 - lsum p (befP p l n ++ behP p l n)))
theorem beh_lt {p : Pl} {l : List Nat} {n : Nat} (h : n ∈ l) : (behP p l n).length < l.length := by
  have h1 : (behP p l n).length ≤ (l.filter fun x => decide (n < x)).length := by
    unfold behP ofP; rw [List.filter_filter]
    have : (l.filter fun a => decide (n < a) && inPart p (scn p n).part a) = (l.filter fun x => decide (n < x)).filter (inPart p (scn p n).part) := by rw [List.filter_filter]; congr 1; funext a; rw [Bool.and_comm]
    rw [this]; exact List.length_filter_le _ _
  have h2 : (l.filter fun x => decide (n < x)).length < l.length := by
    rw [List.length_filter_lt_length_iff_exists]
    exact ⟨n, h, by simp⟩
  omega
theorem beh_cv {p : Pl} {l : List Nat} {n : Nat} (cv : CV p l) (h : n ∈ l) : CV p (n :: behP p l n) := by
  have h1 := beh_lt (p := p) h
  have h2 := cv.len
  refine ⟨by simp; omega, fun x hx => ?_⟩
  rcases List.mem_cons.1 hx with rfl | hx
  · exact cv.rng _ h
  · exact (filter_cv (ofP_cv cv _) _).rng x hx
theorem bef_cv {p : Pl} {l : List Nat} {n : Nat} (cv : CV p l) : CV p (befP p l n) := filter_cv (ofP_cv cv _) _
theorem bb_len {p : Pl} {l : List Nat} {n : Nat} : (befP p l n).length + (behP p l n).length ≤ l.length := by
  have key : ∀ (L : List Nat), (L.filter fun x => decide (x < n)).length + (L.filter fun x => decide (n < x)).length ≤ L.length := by
    intro L
    induction L with
    | nil => simp
    | cons a L ih =>
      simp only [List.filter_cons, List.length_cons]
      by_cases h1 : a < n
      · have h2 : ¬ n < a := by omega
        simp only [h1, h2, decide_true, decide_false, if_true, List.length_cons]; simp only [Bool.false_eq_true, if_false]; omega
      · by_cases h2 : n < a
        · simp only [h1, h2, decide_true, decide_false, if_true, List.length_cons]; simp only [Bool.false_eq_true, if_false]; omega
        · simp only [h1, h2, decide_false]; simp only [Bool.false_eq_true, if_false]; omega
  have := key (ofP p l (scn p n).part)
  have := List.length_filter_le (inPart p (scn p n).part) l
  unfold befP behP; unfold ofP at *; omega
theorem bb_cv {p : Pl} {l : List Nat} {n : Nat} (cv : CV p l) : CV p (befP p l n ++ behP p l n) := by
  have h1 := bb_len (p := p) (l := l) (n := n)
  have h2 := cv.len
  refine ⟨by rw [List.length_append]; omega, fun x hx => ?_⟩
  rcases List.mem_append.1 hx with hx | hx
  · exact (bef_cv cv).rng x hx
  · exact (filter_cv (ofP_cv cv _) _).rng x hx
/-- the choices with a scene -/
def selT (p : Pl) (n i : Nat) : List (List Nat) := ((choicesC p).take i).filter fun l => decide (n ∈ l)
def ovT (p : Pl) (n : Nat) (F : List Nat → Int × Int) (i : Nat) : Int × Int := wd ((selT p n i).map F)
def overR (p : Pl) (n : Int) (F : Nat → List Nat → Int × Int) : (Int × Int) × Int :=
  if PlOK p = true ∧ isSc p n = true then (if (choicesC p).length = 0 then ((0, 0), 7) else if (selT p n.toNat (choicesC p).length).length = 0 then ((0, 0), 5)
    else (ovT p n.toNat (F n.toNat) (choicesC p).length, 0)) else ((0, 0), 2)
abbrev overAV (p : Pl) (n : Int) (F : Nat → List Nat → Int × Int) : AV := .tup [.agg [I (overR p n F).1.1, I (overR p n F).1.2], I (overR p n F).2]
theorem sel_yes {p : Pl} {n j : Nat} (h : j < (choicesC p).length) (k : n ∈ (choicesC p)[j]) : selT p n (j + 1) = selT p n j ++ [(choicesC p)[j]] := by
  unfold selT; rw [filter_take_succ _ h, if_pos (by simpa using k)]
theorem sel_no {p : Pl} {n j : Nat} (h : j < (choicesC p).length) (k : ¬ n ∈ (choicesC p)[j]) : selT p n (j + 1) = selT p n j := by
  unfold selT; rw [filter_take_succ _ h, if_neg (by simpa using k), List.append_nil]
theorem ov_yes {p : Pl} {n j : Nat} (F : List Nat → Int × Int) (h : j < (choicesC p).length) (k : n ∈ (choicesC p)[j]) : ovT p n F (j + 1) = if decide (0 < (selT p n j).length) = true then (min (ovT p n F j).1 (F (choicesC p)[j]).1, max (ovT p n F j).2 (F (choicesC p)[j]).2) else F (choicesC p)[j] := by
  unfold ovT; rw [sel_yes h k, List.map_append]
  by_cases h0 : 0 < (selT p n j).length
  · rw [if_pos (by simpa using h0)]
    exact wd_app (by intro he; have := congrArg List.length he; rw [List.length_map, List.length_nil] at this; omega) _
  · rw [if_neg (by simpa using h0)]
    have : selT p n j = [] := List.length_eq_zero_iff.1 (by omega)
    rw [this]; rfl
theorem cells3 {x y : AObj} {a a' b b' : Int} (h : a = a') (k : b = b') : [x, y, AObj.cells [I a, I b]] = [x, y, .cells [I a', I b']] := by rw [h, k]
theorem partOf_ok {p : Pl} (h : PlOK p = true) {n : Nat} (hn : n < p.scenes.length) : ∃ k : Nat, (scn p n).part = (k : Int) ∧ k < 3 := by
  simp only [PlOK, wnd, inn, Bool.and_eq_true, decide_eq_true_eq] at h
  have := h.2.1 n hn
  simp only [scBad, inn, Bool.or_eq_false_iff, Bool.not_eq_false', Bool.and_eq_true, decide_eq_true_eq] at this
  refine ⟨(p.scenes[n]).part.toNat, by rw [scn_eq hn]; omega, by omega⟩
set_option maxHeartbeats 1000000 in
/-- (kelir/night.played).begins -/
theorem nbegins_pure {p : Pl} {l : List Nat} {n k : Nat} (gp : GP p) (cv : CV p l) (hm : n ∈ l) (hk : (scn p n).part = (k : Int)) (hk3 : k < 3) (hff : ffail p l = none) : APure Tryz.prog 95 [played p l, I n] (.agg [I (begC p n l).1, I (begC p n l).2]) := by
  refine apure_of (rs := [.cell 4 23]) Tryz.func95 rfl rfl (Nat.le_of_ble_eq_true rfl) (by simp [AV.pureL, AV.pureB, AV.pureE, pureE_map]) (rfl) fun e0 he0 => ?_
  refine aw_seq (aw_region ?_)
  refine sq_box rfl (lr _) rfl ?_
  refine sq_alloc rfl z23 ?_
  refine sq_nil (aw_seq ?_)
  have hn := cv.rng n hm
  have he := scn_eq hn
  have hk1 : (p.scenes[n]).part = (k : Int) := he ▸ hk
  have hkt : (scn p n).part.toNat = k := by omega
  have b1 := fw_bd gp cv k
  have b2 := bw_bd gp cv (2 - k)
  have b3 := lsum_bd gp (bef_cv (n := n) cv)
  have b4 := hsum_bd gp (bef_cv (n := n) cv)
  have b5 := lsum_bd gp (beh_cv cv hm)
  have b6 := hsum_bd gp (beh_cv cv hm)
  have hbl := beh_lt (p := p) hm
  have hcl := cv.len
  refine aw_region ?_
  refine sq_ev rfl (ev_fieldAddr fo110_0 (lr _)) ?_
  refine sq_ev rfl (ev_fieldAddr fo27_3 (lr _)) ?_
  refine sq_ev rfl (ev_load (lr _) rfl ty25 rfl) ?_
  refine mvr (lr _) rfl ?_
  refine sq_ev rfl (ev_index_map sl25 (lr _) (lr _) rfl (by omega)) ?_
  refine sq_ev rfl (ev_fieldAddr_i fo84_0 (lr _)) ?_
  refine sq_ev rfl (ev_less (ev_load_i (lr _) ty3 rfl) (less_int hk1)) ?_
  refine asr (lr _) rfl ?_
  refine sq_nil (aw_seq ?_)
  refine aw_drawc [8, 9] [10, 11] _ mo (by kernel_rfl) (HSub.refl _) ?_
  refine dc_ev rfl (ev_load_agg (lr _) rfl ty110 rfl) ?_
  refine dc_ev rfl (ev_call en99 (lr _) (nforward_pure p l gp cv hff) ⟨lr _, trivial⟩) ?_
  refine dc_ev rfl (ev_mv (v := .raw _) (lr _)) ?_
  refine dc_ev rfl (ev_less (ev_indexv_agg (k := k) ar118 ty23 (lr _) (lr _) rfl (by omega)) (Less.eq (b := .agg [I (fw p l k).1, I (fw p l k).2]) (by rcases k with _ | _ | _ | k <;> first | rfl | omega))) ?_
  refine dc_ev rfl (ev_load_agg (lr _) rfl ty110 rfl) ?_
  refine dc_ev rfl (ev_call en100 (lr _) (nbackward_pure p l gp cv) ⟨lr _, trivial⟩) ?_
  refine dc_ev rfl (ev_mv (v := .raw _) (lr _)) ?_
  refine dc_ev rfl (ev_less (ev_indexv_agg (k := k) ar120 ty23 (lr _) (lr _) rfl (by omega)) (Less.eq (b := .agg [I (bw p l (2 - k)).1, I (bw p l (2 - k)).2]) (by rcases k with _ | _ | _ | k <;> first | rfl | omega))) ?_
  refine dc_alloc rfl rfl z23 ?_
  refine dc_alloc rfl rfl z23 ?_
  refine dc_eff rfl rfl (eff_store rfl (lr _) (lr _) rfl rfl ty23 rfl rfl) (by apply HL.sub; repeat' (first | exact HL.nil _ | apply HL.same | apply HL.tok)) ?_
  refine dc_eff rfl rfl (eff_store rfl (lr _) (lr _) rfl rfl ty23 rfl rfl) (by apply HL.sub; repeat' (first | exact HL.nil _ | apply HL.same | apply HL.tok)) ?_
  refine dc_nil (aw_seq (aw_region ?_))
  refine sq_ev rfl (ev_load_agg (lr _) rfl ty110 rfl) ?_
  refine mvr (lr _) rfl ?_
  refine sq_ev rfl (ev_call en145 (lr _) (nothers_pure p l n gp cv hn) ⟨lr _, lr _, trivial⟩) ?_
  refine sq_ev rfl (ev_mv (v := .tup _) (lr _)) ?_
  refine sq_ev rfl (ev_extract (lr _) rfl) ?_
  refine sq_ev rfl (ev_extract (lr _) rfl) ?_
  refine sq_ev rfl (ev_as (v := .sl _ _) (lr _)) ?_
  refine sq_ev rfl (ev_as (v := .sl _ _) (lr _)) ?_
  refine sq_nil (aw_seq ?_)
  refine aw_drawc [9, 10] [11, 12] _ mo (by kernel_rfl) (HSub.refl _) ?_
  refine dc_ev rfl (ev_load_agg (lr _) rfl ty110 rfl) ?_
  refine dc_ev rfl (ev_mv (v := .sl _ _) (lr _)) ?_
  refine dc_ev rfl (ev_call en135 (lr _) (nlasts_pure p l _ gp (bef_cv cv)) ⟨lr _, lr _, trivial⟩) ?_
  refine dc_ev rfl (ev_load_agg (lr _) rfl ty110 rfl) ?_
  refine dc_ev rfl (ev_mv (v := .raw _) (lr _)) ?_
  refine dc_ev rfl (ev_buildSlice (es := [[_]]) sf34 rfl rfl rfl rfl) ?_
  refine dc_ev rfl (ev_mv (v := .sl _ _) (lr _)) ?_
  refine dc_ev rfl (ev_append sf34 Tryz.underlying34 (lr _) (lr _) (by simp; omega) (by simp; omega)) ?_
  refine dc_ev rfl (ev_call en135 (lr _) (nlasts_pure p l (n :: behP p l n) gp (beh_cv cv hm)) ⟨lr _, lr _, trivial⟩) ?_
  refine dc_alloc rfl rfl z23 ?_
  refine dc_alloc rfl rfl z23 ?_
  refine dc_eff rfl rfl (eff_store rfl (lr _) (lr _) rfl rfl ty23 rfl rfl) (by apply HL.sub; repeat' (first | exact HL.nil _ | apply HL.same | apply HL.tok)) ?_
  refine dc_eff rfl rfl (eff_store rfl (lr _) (lr _) rfl rfl ty23 rfl rfl) (by apply HL.sub; repeat' (first | exact HL.nil _ | apply HL.same | apply HL.tok)) ?_
  refine dc_nil (aw_seq (aw_region ?_))
  refine sq_ev rfl (ev_fieldAddr fo23_0 (lr _)) ?_
  refine sq_ev rfl (ev_load (lr _) rfl ty3 rfl) ?_
  refine sq_ev rfl (ev_fieldAddr fo23_0 (lr _)) ?_
  refine sq_ev rfl (ev_load (lr _) rfl ty3 rfl) ?_
  refine sq_ev rfl (ev_add (lr _) (lr _) (wr (by omega) (by omega))) ?_
  refine sq_ev rfl (ev_fieldAddr fo23_1 (lr _)) ?_
  refine sq_ev rfl (ev_load (lr _) rfl ty3 rfl) ?_
  refine sq_ev rfl (ev_fieldAddr fo23_1 (lr _)) ?_
  refine sq_ev rfl (ev_load (lr _) rfl ty3 rfl) ?_
  refine sq_ev rfl (ev_add (lr _) (lr _) (wr (by omega) (by omega))) ?_
  refine sq_ev rfl (ev_build bi23 rfl) ?_
  refine sq_ev rfl (ev_fieldAddr fo23_0 (lr _)) ?_
  refine sq_ev rfl (ev_load (lr _) rfl ty3 rfl) ?_
  refine sq_ev rfl (ev_fieldAddr fo23_1 (lr _)) ?_
  refine sq_ev rfl (ev_load (lr _) rfl ty3 rfl) ?_
  refine sq_ev rfl (ev_sub (lr _) (lr _) (wr (by omega) (by omega))) ?_
  refine sq_ev rfl (ev_fieldAddr fo23_1 (lr _)) ?_
  refine sq_ev rfl (ev_load (lr _) rfl ty3 rfl) ?_
  refine sq_ev rfl (ev_fieldAddr fo23_0 (lr _)) ?_
  refine sq_ev rfl (ev_load (lr _) rfl ty3 rfl) ?_
  refine sq_ev rfl (ev_sub (lr _) (lr _) (wr (by omega) (by omega))) ?_
  refine sq_ev rfl (ev_build bi23 rfl) ?_
  refine sq_ev rfl (ev_call en98 (lr _) (nboth_pure _ _ _ _) ⟨lr _, lr _, trivial⟩) ?_
  refine sq_store rfl (lr _) (lr _) rfl rfl ty23 rfl rfl ?_
  refine sq_nil (aw_ret ?_)
  exact retQ_res (vs := [.agg _]) rfl rfl ⟨resVar_cell rfl rfl ty23 rfl, trivial⟩ (Less.eq (by simp [begC, hkt]))

set_option maxHeartbeats 1000000 in
/-- (kelir/night.played).long -/
theorem nlong_pure {p : Pl} {l : List Nat} {n k : Nat} (gp : GP p) (cv : CV p l) (hm : n ∈ l) (hk : (scn p n).part = (k : Int)) (hk3 : k < 3) (hff : ffail p l = none) : APure Tryz.prog 96 [played p l, I n] (.agg [I (longC p n l).1, I (longC p n l).2]) := by
 refine apure_of (rs := [.cell 4 23]) Tryz.func96 rfl rfl (Nat.le_of_ble_eq_true rfl) (by simp [AV.pureL, AV.pureB, AV.pureE, pureE_map]) (rfl) fun e0 he0 => ?_
 refine aw_seq (aw_region ?_)
 refine sq_box rfl (lr _) rfl ?_
 refine sq_alloc rfl z23 ?_
 refine sq_nil (aw_seq ?_)
 have hn := cv.rng n hm
 have he := scn_eq hn
 have hk1 : (p.scenes[n]).part = (k : Int) := he ▸ hk
 have hkt : (scn p n).part.toNat = k := by omega
 have b1 := fw_bd gp cv k
 have b2 := bw_bd gp cv (2 - k)
 have b3 := lsum_bd gp (bb_cv (n := n) cv)
 have b4 := hsum_bd gp (bb_cv (n := n) cv)
 have hbl := bb_len (p := p) (l := l) (n := n)
 have hcl := cv.len
 have hfe : [befP p l n, behP p l n].flatten = befP p l n ++ behP p l n := by simp
 refine aw_region ?_
 refine sq_ev rfl (ev_fieldAddr fo110_0 (lr _)) ?_
 refine sq_ev rfl (ev_fieldAddr fo27_3 (lr _)) ?_
 refine sq_ev rfl (ev_load (lr _) rfl ty25 rfl) ?_
 refine mvr (lr _) rfl ?_
 refine sq_ev rfl (ev_index_map sl25 (lr _) (lr _) rfl (by omega)) ?_
 refine sq_ev rfl (ev_load_agg_i (lr _) ty84 (Nat.le_of_ble_eq_true rfl)) ?_
 refine sq_alloc rfl z84 ?_
 refine sq_store rfl (lr _) (lr _) rfl rfl ty84 rfl rfl ?_
 refine sq_nil (aw_seq ?_)
 refine aw_drawc [10, 11] [12, 13] _ mo (by kernel_rfl) (HSub.refl _) ?_
 refine dc_ev rfl (ev_load_agg (lr _) rfl ty110 rfl) ?_
 refine dc_ev rfl (ev_call en99 (lr _) (nforward_pure p l gp cv hff) ⟨lr _, trivial⟩) ?_
 refine dc_ev rfl (ev_fieldAddr fo84_0 (lr _)) ?_
 refine dc_ev rfl (ev_less (ev_load (lr _) rfl ty3 rfl) (less_int hk1)) ?_
 refine dc_ev rfl (ev_less (ev_indexv_agg (k := k) ar118 ty23 (lr _) (lr _) rfl (by omega)) (Less.eq (b := .agg [I (fw p l k).1, I (fw p l k).2]) (by rcases k with _ | _ | _ | k <;> first | rfl | omega))) ?_
 refine dc_ev rfl (ev_load_agg (lr _) rfl ty110 rfl) ?_
 refine dc_ev rfl (ev_call en100 (lr _) (nbackward_pure p l gp cv) ⟨lr _, trivial⟩) ?_
 refine dc_ev rfl (ev_fieldAddr fo84_0 (lr _)) ?_
 refine dc_ev rfl (ev_less (ev_load (lr _) rfl ty3 rfl) (less_int hk1)) ?_
 refine dc_ev rfl (ev_less (ev_indexv_agg (k := k) ar120 ty23 (lr _) (lr _) rfl (by omega)) (Less.eq (b := .agg [I (bw p l (2 - k)).1, I (bw p l (2 - k)).2]) (by rcases k with _ | _ | _ | k <;> first | rfl | omega))) ?_
 refine dc_alloc rfl rfl z23 ?_
 refine dc_alloc rfl rfl z23 ?_
 refine dc_eff rfl rfl (eff_store rfl (lr _) (lr _) rfl rfl ty23 rfl rfl) (by apply HL.sub; repeat' (first | exact HL.nil _ | apply HL.same | apply HL.tok)) ?_
 refine dc_eff rfl rfl (eff_store rfl (lr _) (lr _) rfl rfl ty23 rfl rfl) (by apply HL.sub; repeat' (first | exact HL.nil _ | apply HL.same | apply HL.tok)) ?_
 refine dc_nil (aw_seq (aw_region ?_))
 refine sq_ev rfl (ev_load_agg (lr _) rfl ty110 rfl) ?_
 refine mvr (lr _) rfl ?_
 refine sq_ev rfl (ev_call en145 (lr _) (nothers_pure p l n gp cv hn) ⟨lr _, lr _, trivial⟩) ?_
 refine sq_ev rfl (ev_mv (v := .tup _) (lr _)) ?_
 refine sq_ev rfl (ev_extract (lr _) rfl) ?_
 refine sq_ev rfl (ev_extract (lr _) rfl) ?_
 refine sq_ev rfl (ev_as (v := .sl _ _) (lr _)) ?_
 refine sq_ev rfl (ev_as (v := .sl _ _) (lr _)) ?_
 refine sq_nil (aw_seq ?_)
 refine aw_draw 7 mo (by kernel_rfl) ?_
 refine dr_ev rfl (ev_load_agg (lr _) rfl ty110 rfl) ?_
 refine dr_ev rfl (ev_mv (v := .sl _ _) (lr _)) ?_
 refine dr_ev rfl (ev_mv (v := .sl _ _) (lr _)) ?_
 refine dr_ev rfl (ev_buildSlice (es := [[_], [_]]) sf30 rfl rfl rfl rfl) ?_
 refine dr_ev rfl (ev_call en146 (lr _) (nconcat_pure [befP p l n, behP p l n] (by rw [hfe, List.length_append]; omega) (by simp)) ⟨less_slx _ _, trivial⟩) ?_
 refine dr_ev rfl (ev_call en135 (lr _) (nlasts_pure p l (befP p l n ++ behP p l n) gp (bb_cv cv)) ⟨lr _, Less.eq (b := nats (befP p l n ++ behP p l n)) (congrArg (fun x => nats x) hfe), trivial⟩) ?_
 refine dr_alloc rfl z23 ?_
 refine dr_end ?_
 refine sq_store rfl (lr _) (lr _) rfl rfl ty23 rfl rfl ?_
 refine sq_nil (aw_seq (aw_region ?_))
 refine sq_ev rfl (ev_fieldAddr fo84_1 (lr _)) ?_
 refine sq_ev rfl (ev_load (lr _) rfl ty3 rfl) ?_
 refine sq_ev rfl (ev_fieldAddr fo84_2 (lr _)) ?_
 refine sq_ev rfl (ev_load (lr _) rfl ty3 rfl) ?_
 refine sq_ev rfl (ev_build bi23 rfl) ?_
 refine sq_ev rfl (ev_fieldAddr fo23_0 (lr _)) ?_
 refine sq_ev rfl (ev_load (lr _) rfl ty3 rfl) ?_
 refine sq_ev rfl (ev_fieldAddr fo23_1 (lr _)) ?_
 refine sq_ev rfl (ev_load (lr _) rfl ty3 rfl) ?_
 refine sq_ev rfl (ev_sub (lr _) (lr _) (wr (by omega) (by omega))) ?_
 refine sq_ev rfl (ev_fieldAddr fo23_1 (lr _)) ?_
 refine sq_ev rfl (ev_load (lr _) rfl ty3 rfl) ?_
 refine sq_ev rfl (ev_sub (lr _) (lr _) (wr (by omega) (by omega))) ?_
 refine sq_ev rfl (ev_fieldAddr fo23_1 (lr _)) ?_
 refine sq_ev rfl (ev_load (lr _) rfl ty3 rfl) ?_
 refine sq_ev rfl (ev_fieldAddr fo23_0 (lr _)) ?_
 refine sq_ev rfl (ev_load (lr _) rfl ty3 rfl) ?_
 refine sq_ev rfl (ev_sub (lr _) (lr _) (wr (by omega) (by omega))) ?_
 refine sq_ev rfl (ev_fieldAddr fo23_0 (lr _)) ?_
 refine sq_ev rfl (ev_load (lr _) rfl ty3 rfl) ?_
 refine sq_ev rfl (ev_sub (lr _) (lr _) (wr (by omega) (by omega))) ?_
 refine sq_ev rfl (ev_build bi23 rfl) ?_
 refine sq_ev rfl (ev_call en98 (lr _) (nboth_pure _ _ _ _) ⟨lr _, lr _, trivial⟩) ?_
 refine sq_store rfl (lr _) (lr _) rfl rfl ty23 rfl rfl ?_
 refine sq_nil (aw_ret ?_)
 exact retQ_res (vs := [.agg _]) rfl rfl ⟨resVar_cell rfl rfl ty23 rfl, trivial⟩ (Less.eq (by simp [longC, hkt]; exact ⟨by rw [he], by rw [he]⟩))

set_option maxHeartbeats 2000000 in
/-- kelir/night.over -/
theorem nover95_pure (p : Pl) (n' : Int) (hl0 : p.scenes.length ≤ 1000000) : APure Tryz.prog 94 [plan p, I n', .fn (.func 95) [] []] (overAV p n' (begC p)) := by
 refine apure_of (rs := [.cell 6 23, .tmp 7]) Tryz.func94 rfl rfl (Nat.le_of_ble_eq_true rfl) (by simp [AV.pureL, AV.pureB, AV.pureE, pureE_map]) (rfl) fun e0 he0 => ?_
 refine aw_seq (aw_region ?_)
 refine sq_box rfl (lr _) rfl ?_
 refine sq_alloc rfl z23 ?_
 refine asr (lr _) rfl ?_
 refine sq_nil (aw_seq (aw_seq (aw_region ?_)))
 refine sq_ev rfl (ev_load_agg (lr _) rfl ty27 rfl) ?_
 refine sq_ev rfl (ev_call en85 (lr _) (isplan_pure p hl0) ⟨lr _, trivial⟩) ?_
 refine sq_ev rfl (ev_not (lr _)) ?_
 refine mvr (lr _) rfl ?_
 refine sq_split 16 (lr _) (fun g1 => ?_) (fun g1 => ?_)
 ·
  have g1' := g1
  try simp only [qq] at g1'
  refine sq_no rfl rfl (less_b g1) rfl rfl ?_
  refine sq_no rfl rfl (less_b g1) rfl rfl ?_
  refine sq_no rfl rfl (less_b g1) rfl rfl ?_
  refine sq_no rfl rfl (less_b g1) rfl rfl ?_
  refine sq_ev rfl (ev_pickT (v := .raw _) (less_b g1) (lr _)) ?_
  refine sq_nil ?_
  refine aw_true (lr _) ?_
  refine aw_seq (aw_region ?_)
  refine sq_ev rfl (ev_build bi23 rfl) ?_
  refine sq_store rfl (lr _) (lr _) rfl rfl ty23 rfl rfl ?_
  refine asr (lr _) rfl ?_
  refine sq_nil (aw_ret ?_)
  exact retQ_res (vs := [.agg _, .raw _]) rfl rfl ⟨resVar_cell rfl rfl ty23 rfl, resVar_tmp _ _ _, trivial⟩ (Less.eq (by simp [overR, g1']))
 ·
  have g1' := g1
  try simp only [qq] at g1'
  refine sq_yes rfl rfl (less_b g1) rfl (ev_load_agg (lr _) rfl ty27 rfl) ?_
  refine sq_yes rfl rfl (less_b g1) rfl (ev_mv (v := .raw _) (lr _)) ?_
  refine sq_yes rfl rfl (less_b g1) rfl (ev_call en133 (lr _) (nisscene_pure p n' hl0) ⟨lr _, lr _, trivial⟩) ?_
  refine sq_yes rfl rfl (less_b g1) rfl (ev_not (lr _)) ?_
  refine sq_ev rfl (ev_pickF (v := .raw _) (less_b g1) (lr _)) ?_
  refine sq_nil ?_
  refine aw_cond (lr _) (fun c2 => ?_) (fun c2 => ?_)
  ·
   have c2' := c2
   try simp only [qq] at c2'
   refine aw_seq (aw_region ?_)
   refine sq_ev rfl (ev_build bi23 rfl) ?_
   refine sq_store rfl (lr _) (lr _) rfl rfl ty23 rfl rfl ?_
   refine asr (lr _) rfl ?_
   refine sq_nil (aw_ret ?_)
   exact retQ_res (vs := [.agg _, .raw _]) rfl rfl ⟨resVar_cell rfl rfl ty23 rfl, resVar_tmp _ _ _, trivial⟩ (Less.eq (by simp [overR, c2']))
  ·
   have c2' := c2
   try simp only [qq] at c2'
   have hn1 : 0 ≤ n' ∧ n' < p.scenes.length := by simp only [isSc, inn, Bool.and_eq_true, decide_eq_true_eq] at c2'; omega
   obtain ⟨n, rfl⟩ : ∃ n : Nat, n' = (n : Int) := ⟨n'.toNat, by omega⟩
   obtain ⟨gp, wp⟩ := gp_of_ok g1'
   have hn : n < p.scenes.length := by omega
   obtain ⟨kp, hkp, hkp3⟩ := partOf_ok g1' hn
   have hcl := choicesC_len gp
   refine aw_skip (aw_seq (aw_region ?_))
   refine sq_ev rfl (ev_load_agg (lr _) rfl ty27 rfl) ?_
   refine sq_ev rfl (ev_call en86 (lr _) (nplayablew_pure gp wp) ⟨lr _, trivial⟩) ?_
   refine sq_ev rfl (ev_as (v := .sl _ _) (lr _)) ?_
   refine sq_nil (aw_seq (aw_seq (aw_region ?_)))
   refine sq_ev rfl (ev_mv (v := .sl _ _) (lr _)) ?_
   refine sq_ev rfl (ev_len_map sl107 (lr _)) ?_
   refine sq_ev rfl (ev_eql (lr _) (lr _)) ?_
   refine sq_nil ?_
   refine aw_cond (lr _) (fun c3 => ?_) (fun c3 => ?_)
   ·
    have c3' := c3
    try simp only [qq] at c3'
    refine aw_seq (aw_region ?_)
    refine sq_ev rfl (ev_build bi23 rfl) ?_
    refine sq_store rfl (lr _) (lr _) rfl rfl ty23 rfl rfl ?_
    refine asr (lr _) rfl ?_
    refine sq_nil (aw_ret ?_)
    exact retQ_res (vs := [.agg _, .raw _]) rfl rfl ⟨resVar_cell rfl rfl ty23 rfl, resVar_tmp _ _ _, trivial⟩ (Less.eq (by rw [overAV, overR, if_pos ⟨g1', by simpa using c2'⟩, if_pos (by omega)] <;> rfl))
   ·
    have c3' := c3
    try simp only [qq] at c3'
    refine aw_skip (aw_seq (aw_region ?_))
    refine sq_alloc rfl z23 ?_
    refine sq_nil (aw_seq (aw_region ?_))
    refine asr (lr _) rfl ?_
    refine sq_nil (aw_seq (aw_seq (aw_region ?_)))
    refine sq_ev rfl (ev_mv (v := .sl _ _) (lr _)) ?_
    refine sq_ev rfl (ev_len_map sl107 (lr _)) ?_
    refine mvr (lr _) rfl ?_
    refine sq_nil (aw_block ?_)
    refine aw_loopk (ι := { j : Nat // j ≤ (choicesC p).length }) [1, 2, 6, 9, 29, 30] (fun i => [(31, I i.1), (10, B (decide (0 < (selT p n i.1).length)))]) (fun H i => H.set 2 (.cells [I (ovT p n (begC p n) i.1).1, I (ovT p n (begC p n) i.1).2])) (fun i => (choicesC p).length - i.1) (⟨0, Nat.zero_le _⟩) ⟨lr _, lr _, lr _, lr _, lr _, lr _, lr _, lr _, trivial⟩ rfl ?_
    rintro ⟨j, hj⟩
    dsimp only [keepS, St.put, sget, slotsOf, List.map_cons, List.map_nil, List.cons_append, List.nil_append, List.length_cons, List.length_nil, Nat.reduceBEq, Nat.reduceAdd, cond_true, cond_false]
    refine aw_seq (aw_region ?_)
    refine sq_ev rfl (ev_lss (lr _) (lr _)) ?_
    refine sq_nil (aw_seq ?_)
    refine aw_cond (lr _) (fun c4 => ?_) (fun c4 => ?_)
    ·
     have c4' := c4
     try simp only [qq] at c4'
     have hj' : j < (choicesC p).length := by omega
     have hmm := List.getElem_mem hj'
     have cv := choicesC_mem gp _ hmm
     have hff := can_fwd gp wp hmm
     refine aw_skip (aw_seq (aw_block (aw_seq (aw_region ?_))))
     refine sq_ev rfl (ev_index_map sl107 (lr _) (lr _) rfl (by omega)) ?_
     refine sq_ev rfl (ev_load_agg_i (lr _) ty110 (Nat.le_of_ble_eq_true rfl)) ?_
     refine sq_alloc rfl z110 ?_
     refine sq_store rfl (lr _) (lr _) rfl rfl ty110 rfl rfl ?_
     refine sq_nil (aw_seq (aw_region ?_))
     refine sq_ev rfl (ev_fieldAddr fo110_1 (lr _)) ?_
     refine sq_ev rfl (ev_load (lr _) rfl ty34 rfl) ?_
     refine mvr (lr _) rfl ?_
     refine sq_ev rfl (ev_call en106 (lr _) (ncontains_nats (choicesC p)[j] n (by have := (choicesC_mem gp _ (List.getElem_mem hj')).len; omega)) ⟨lr _, lr _, trivial⟩) ?_
     refine sq_nil ?_
     refine aw_cond (lr _) (fun c5 => ?_) (fun c5 => ?_)
     ·
      have c5' := c5
      try simp only [qq] at c5'
      have hm : n ∈ (choicesC p)[j] := by simpa using c5'
      have eW := ov_yes (begC p n) hj' hm
      have eF : true = decide (0 < (selT p n (j + 1)).length) := by rw [sel_yes hj' hm]; simp
      have eW1 : (if decide (0 < (selT p n j).length) = true then min (ovT p n (begC p n) j).1 ((begC p n) (choicesC p)[j]).1 else ((begC p n) (choicesC p)[j]).1) = (ovT p n (begC p n) (j + 1)).1 := by rw [eW]; split <;> rfl
      have eW2 : (if decide (0 < (selT p n j).length) = true then max (ovT p n (begC p n) j).2 ((begC p n) (choicesC p)[j]).2 else ((begC p n) (choicesC p)[j]).2) = (ovT p n (begC p n) (j + 1)).2 := by rw [eW]; split <;> rfl
      refine aw_draw 7 mo (by kernel_rfl) ?_
      refine dr_ev rfl (ev_load_agg (lr _) rfl ty23 rfl) ?_
      refine dr_ev rfl (ev_mv (v := .raw _) (lr _)) ?_
      refine dr_ev rfl (ev_mv (v := .fn _ _ _) (lr _)) ?_
      refine dr_ev rfl (ev_load_agg (lr _) rfl ty110 rfl) ?_
      refine dr_ev rfl (ev_mv (v := .raw _) (lr _)) ?_
      refine dr_ev rfl (ev_call en95 (lr _) (nbegins_pure gp cv hm hkp hkp3 hff) ⟨lr _, lr _, trivial⟩) ?_
      refine dr_ev rfl (ev_call en97 (lr _) (nwiders_pure _ _ _ _ _) ⟨lr _, lr _, lr _, trivial⟩) ?_
      refine dr_end ?_
      refine sq_store rfl (lr _) (lr _) rfl rfl ty23 rfl rfl ?_
      refine asr (lr _) rfl ?_
      refine sq_nil (aw_region ?_)
      refine sq_ev rfl (ev_add (lr _) (lr _) (wr (by omega) (by omega))) ?_
      refine mvr (lr _) rfl ?_
      refine sq_nil ?_
      exact ⟨⟨j + 1, by omega⟩, by simp only; omega, Sub.fin 3 ⟨lr _, less_b eF, lr _, lr _, lr _, lr _, lr _, lr _, trivial⟩ (cells3 eW1 eW2) (by simp [slotsIn, objsIn, sget, keepS, AObj.inB, AV.inB, AV.inL, AV.inE, inE_map, inE_ints, inE_sc, -List.map_append, -List.map_take, -List.map_map]) (by simp [slotsIn, objsIn, sget, keepS, AObj.inB, AV.inB, AV.inL, AV.inE, inE_map, inE_ints, inE_sc, -List.map_append, -List.map_take, -List.map_map]) (by simp [he0])⟩
     ·
      have c5' := c5
      try simp only [qq] at c5'
      have hm : ¬ n ∈ (choicesC p)[j] := by simpa using c5'
      have eF : decide (0 < (selT p n j).length) = decide (0 < (selT p n (j + 1)).length) := by rw [sel_no hj' hm]
      have eW1 : (ovT p n (begC p n) j).1 = (ovT p n (begC p n) (j + 1)).1 := by unfold ovT; rw [sel_no hj' hm]
      have eW2 : (ovT p n (begC p n) j).2 = (ovT p n (begC p n) (j + 1)).2 := by unfold ovT; rw [sel_no hj' hm]
      refine aw_skip (aw_region ?_)
      refine sq_ev rfl (ev_add (lr _) (lr _) (wr (by omega) (by omega))) ?_
      refine mvr (lr _) rfl ?_
      refine sq_nil ?_
      exact ⟨⟨j + 1, by omega⟩, by simp only; omega, Sub.fin 3 ⟨lr _, less_b eF, lr _, lr _, lr _, lr _, lr _, lr _, trivial⟩ (cells3 eW1 eW2) (by simp [slotsIn, objsIn, sget, keepS, AObj.inB, AV.inB, AV.inL, AV.inE, inE_map, inE_ints, inE_sc, -List.map_append, -List.map_take, -List.map_map]) (by simp [slotsIn, objsIn, sget, keepS, AObj.inB, AV.inB, AV.inL, AV.inE, inE_map, inE_ints, inE_sc, -List.map_append, -List.map_take, -List.map_map]) (by simp [he0])⟩
    ·
     have c4' := c4
     try simp only [qq] at c4'
     obtain rfl : j = (choicesC p).length := by omega
     refine aw_exit (aw_seq (aw_seq (aw_region ?_)))
     refine mvr (lr _) rfl ?_
     refine sq_ev rfl (ev_not (lr _)) ?_
     refine sq_nil ?_
     refine aw_cond (lr _) (fun c6 => ?_) (fun c6 => ?_)
     ·
      have c6' := c6
      try simp only [qq] at c6'
      refine aw_seq (aw_region ?_)
      refine sq_ev rfl (ev_build bi23 rfl) ?_
      refine sq_store rfl (lr _) (lr _) rfl rfl ty23 rfl rfl ?_
      refine asr (lr _) rfl ?_
      refine sq_nil (aw_ret ?_)
      exact retQ_res (vs := [.agg _, .raw _]) rfl rfl ⟨resVar_cell rfl rfl ty23 rfl, resVar_tmp _ _ _, trivial⟩ (Less.eq (by rw [overAV, overR, if_pos ⟨g1', by simpa using c2'⟩, if_neg (by omega), if_pos (by show (selT p n _).length = 0; omega)] <;> rfl))
     ·
      have c6' := c6
      try simp only [qq] at c6'
      refine aw_skip (aw_seq (aw_region ?_))
      refine sq_ev rfl (ev_load_agg (lr _) rfl ty23 rfl) ?_
      refine sq_store rfl (lr _) (lr _) rfl rfl ty23 rfl rfl ?_
      refine asr (lr _) rfl ?_
      refine sq_nil (aw_ret ?_)
      exact retQ_res (vs := [.agg _, .raw _]) rfl rfl ⟨resVar_cell rfl rfl ty23 rfl, resVar_tmp _ _ _, trivial⟩ (Less.eq (by rw [overAV, overR, if_pos ⟨g1', by simpa using c2'⟩, if_neg (by omega), if_neg (by show ¬ (selT p n _).length = 0; omega)] <;> rfl))

set_option maxHeartbeats 2000000 in
/-- kelir/night.over -/
theorem nover96_pure (p : Pl) (n' : Int) (hl0 : p.scenes.length ≤ 1000000) : APure Tryz.prog 94 [plan p, I n', .fn (.func 96) [] []] (overAV p n' (longC p)) := by
 refine apure_of (rs := [.cell 6 23, .tmp 7]) Tryz.func94 rfl rfl (Nat.le_of_ble_eq_true rfl) (by simp [AV.pureL, AV.pureB, AV.pureE, pureE_map]) (rfl) fun e0 he0 => ?_
 refine aw_seq (aw_region ?_)
 refine sq_box rfl (lr _) rfl ?_
 refine sq_alloc rfl z23 ?_
 refine asr (lr _) rfl ?_
 refine sq_nil (aw_seq (aw_seq (aw_region ?_)))
 refine sq_ev rfl (ev_load_agg (lr _) rfl ty27 rfl) ?_
 refine sq_ev rfl (ev_call en85 (lr _) (isplan_pure p hl0) ⟨lr _, trivial⟩) ?_
 refine sq_ev rfl (ev_not (lr _)) ?_
 refine mvr (lr _) rfl ?_
 refine sq_split 16 (lr _) (fun g1 => ?_) (fun g1 => ?_)
 ·
  have g1' := g1
  try simp only [qq] at g1'
  refine sq_no rfl rfl (less_b g1) rfl rfl ?_
  refine sq_no rfl rfl (less_b g1) rfl rfl ?_
  refine sq_no rfl rfl (less_b g1) rfl rfl ?_
  refine sq_no rfl rfl (less_b g1) rfl rfl ?_
  refine sq_ev rfl (ev_pickT (v := .raw _) (less_b g1) (lr _)) ?_
  refine sq_nil ?_
  refine aw_true (lr _) ?_
  refine aw_seq (aw_region ?_)
  refine sq_ev rfl (ev_build bi23 rfl) ?_
  refine sq_store rfl (lr _) (lr _) rfl rfl ty23 rfl rfl ?_
  refine asr (lr _) rfl ?_
  refine sq_nil (aw_ret ?_)
  exact retQ_res (vs := [.agg _, .raw _]) rfl rfl ⟨resVar_cell rfl rfl ty23 rfl, resVar_tmp _ _ _, trivial⟩ (Less.eq (by simp [overR, g1']))
 ·
  have g1' := g1
  try simp only [qq] at g1'
  refine sq_yes rfl rfl (less_b g1) rfl (ev_load_agg (lr _) rfl ty27 rfl) ?_
  refine sq_yes rfl rfl (less_b g1) rfl (ev_mv (v := .raw _) (lr _)) ?_
  refine sq_yes rfl rfl (less_b g1) rfl (ev_call en133 (lr _) (nisscene_pure p n' hl0) ⟨lr _, lr _, trivial⟩) ?_
  refine sq_yes rfl rfl (less_b g1) rfl (ev_not (lr _)) ?_
  refine sq_ev rfl (ev_pickF (v := .raw _) (less_b g1) (lr _)) ?_
  refine sq_nil ?_
  refine aw_cond (lr _) (fun c2 => ?_) (fun c2 => ?_)
  ·
   have c2' := c2
   try simp only [qq] at c2'
   refine aw_seq (aw_region ?_)
   refine sq_ev rfl (ev_build bi23 rfl) ?_
   refine sq_store rfl (lr _) (lr _) rfl rfl ty23 rfl rfl ?_
   refine asr (lr _) rfl ?_
   refine sq_nil (aw_ret ?_)
   exact retQ_res (vs := [.agg _, .raw _]) rfl rfl ⟨resVar_cell rfl rfl ty23 rfl, resVar_tmp _ _ _, trivial⟩ (Less.eq (by simp [overR, c2']))
  ·
   have c2' := c2
   try simp only [qq] at c2'
   have hn1 : 0 ≤ n' ∧ n' < p.scenes.length := by simp only [isSc, inn, Bool.and_eq_true, decide_eq_true_eq] at c2'; omega
   obtain ⟨n, rfl⟩ : ∃ n : Nat, n' = (n : Int) := ⟨n'.toNat, by omega⟩
   obtain ⟨gp, wp⟩ := gp_of_ok g1'
   have hn : n < p.scenes.length := by omega
   obtain ⟨kp, hkp, hkp3⟩ := partOf_ok g1' hn
   have hcl := choicesC_len gp
   refine aw_skip (aw_seq (aw_region ?_))
   refine sq_ev rfl (ev_load_agg (lr _) rfl ty27 rfl) ?_
   refine sq_ev rfl (ev_call en86 (lr _) (nplayablew_pure gp wp) ⟨lr _, trivial⟩) ?_
   refine sq_ev rfl (ev_as (v := .sl _ _) (lr _)) ?_
   refine sq_nil (aw_seq (aw_seq (aw_region ?_)))
   refine sq_ev rfl (ev_mv (v := .sl _ _) (lr _)) ?_
   refine sq_ev rfl (ev_len_map sl107 (lr _)) ?_
   refine sq_ev rfl (ev_eql (lr _) (lr _)) ?_
   refine sq_nil ?_
   refine aw_cond (lr _) (fun c3 => ?_) (fun c3 => ?_)
   ·
    have c3' := c3
    try simp only [qq] at c3'
    refine aw_seq (aw_region ?_)
    refine sq_ev rfl (ev_build bi23 rfl) ?_
    refine sq_store rfl (lr _) (lr _) rfl rfl ty23 rfl rfl ?_
    refine asr (lr _) rfl ?_
    refine sq_nil (aw_ret ?_)
    exact retQ_res (vs := [.agg _, .raw _]) rfl rfl ⟨resVar_cell rfl rfl ty23 rfl, resVar_tmp _ _ _, trivial⟩ (Less.eq (by rw [overAV, overR, if_pos ⟨g1', by simpa using c2'⟩, if_pos (by omega)] <;> rfl))
   ·
    have c3' := c3
    try simp only [qq] at c3'
    refine aw_skip (aw_seq (aw_region ?_))
    refine sq_alloc rfl z23 ?_
    refine sq_nil (aw_seq (aw_region ?_))
    refine asr (lr _) rfl ?_
    refine sq_nil (aw_seq (aw_seq (aw_region ?_)))
    refine sq_ev rfl (ev_mv (v := .sl _ _) (lr _)) ?_
    refine sq_ev rfl (ev_len_map sl107 (lr _)) ?_
    refine mvr (lr _) rfl ?_
    refine sq_nil (aw_block ?_)
    refine aw_loopk (ι := { j : Nat // j ≤ (choicesC p).length }) [1, 2, 6, 9, 29, 30] (fun i => [(31, I i.1), (10, B (decide (0 < (selT p n i.1).length)))]) (fun H i => H.set 2 (.cells [I (ovT p n (longC p n) i.1).1, I (ovT p n (longC p n) i.1).2])) (fun i => (choicesC p).length - i.1) (⟨0, Nat.zero_le _⟩) ⟨lr _, lr _, lr _, lr _, lr _, lr _, lr _, lr _, trivial⟩ rfl ?_
    rintro ⟨j, hj⟩
    dsimp only [keepS, St.put, sget, slotsOf, List.map_cons, List.map_nil, List.cons_append, List.nil_append, List.length_cons, List.length_nil, Nat.reduceBEq, Nat.reduceAdd, cond_true, cond_false]
    refine aw_seq (aw_region ?_)
    refine sq_ev rfl (ev_lss (lr _) (lr _)) ?_
    refine sq_nil (aw_seq ?_)
    refine aw_cond (lr _) (fun c4 => ?_) (fun c4 => ?_)
    ·
     have c4' := c4
     try simp only [qq] at c4'
     have hj' : j < (choicesC p).length := by omega
     have hmm := List.getElem_mem hj'
     have cv := choicesC_mem gp _ hmm
     have hff := can_fwd gp wp hmm
     refine aw_skip (aw_seq (aw_block (aw_seq (aw_region ?_))))
     refine sq_ev rfl (ev_index_map sl107 (lr _) (lr _) rfl (by omega)) ?_
     refine sq_ev rfl (ev_load_agg_i (lr _) ty110 (Nat.le_of_ble_eq_true rfl)) ?_
     refine sq_alloc rfl z110 ?_
     refine sq_store rfl (lr _) (lr _) rfl rfl ty110 rfl rfl ?_
     refine sq_nil (aw_seq (aw_region ?_))
     refine sq_ev rfl (ev_fieldAddr fo110_1 (lr _)) ?_
     refine sq_ev rfl (ev_load (lr _) rfl ty34 rfl) ?_
     refine mvr (lr _) rfl ?_
     refine sq_ev rfl (ev_call en106 (lr _) (ncontains_nats (choicesC p)[j] n (by have := (choicesC_mem gp _ (List.getElem_mem hj')).len; omega)) ⟨lr _, lr _, trivial⟩) ?_
     refine sq_nil ?_
     refine aw_cond (lr _) (fun c5 => ?_) (fun c5 => ?_)
     ·
      have c5' := c5
      try simp only [qq] at c5'
      have hm : n ∈ (choicesC p)[j] := by simpa using c5'
      have eW := ov_yes (longC p n) hj' hm
      have eF : true = decide (0 < (selT p n (j + 1)).length) := by rw [sel_yes hj' hm]; simp
      have eW1 : (if decide (0 < (selT p n j).length) = true then min (ovT p n (longC p n) j).1 ((longC p n) (choicesC p)[j]).1 else ((longC p n) (choicesC p)[j]).1) = (ovT p n (longC p n) (j + 1)).1 := by rw [eW]; split <;> rfl
      have eW2 : (if decide (0 < (selT p n j).length) = true then max (ovT p n (longC p n) j).2 ((longC p n) (choicesC p)[j]).2 else ((longC p n) (choicesC p)[j]).2) = (ovT p n (longC p n) (j + 1)).2 := by rw [eW]; split <;> rfl
      refine aw_draw 7 mo (by kernel_rfl) ?_
      refine dr_ev rfl (ev_load_agg (lr _) rfl ty23 rfl) ?_
      refine dr_ev rfl (ev_mv (v := .raw _) (lr _)) ?_
      refine dr_ev rfl (ev_mv (v := .fn _ _ _) (lr _)) ?_
      refine dr_ev rfl (ev_load_agg (lr _) rfl ty110 rfl) ?_
      refine dr_ev rfl (ev_mv (v := .raw _) (lr _)) ?_
      refine dr_ev rfl (ev_call en96 (lr _) (nlong_pure gp cv hm hkp hkp3 hff) ⟨lr _, lr _, trivial⟩) ?_
      refine dr_ev rfl (ev_call en97 (lr _) (nwiders_pure _ _ _ _ _) ⟨lr _, lr _, lr _, trivial⟩) ?_
      refine dr_end ?_
      refine sq_store rfl (lr _) (lr _) rfl rfl ty23 rfl rfl ?_
      refine asr (lr _) rfl ?_
      refine sq_nil (aw_region ?_)
      refine sq_ev rfl (ev_add (lr _) (lr _) (wr (by omega) (by omega))) ?_
      refine mvr (lr _) rfl ?_
      refine sq_nil ?_
      exact ⟨⟨j + 1, by omega⟩, by simp only; omega, Sub.fin 3 ⟨lr _, less_b eF, lr _, lr _, lr _, lr _, lr _, lr _, trivial⟩ (cells3 eW1 eW2) (by simp [slotsIn, objsIn, sget, keepS, AObj.inB, AV.inB, AV.inL, AV.inE, inE_map, inE_ints, inE_sc, -List.map_append, -List.map_take, -List.map_map]) (by simp [slotsIn, objsIn, sget, keepS, AObj.inB, AV.inB, AV.inL, AV.inE, inE_map, inE_ints, inE_sc, -List.map_append, -List.map_take, -List.map_map]) (by simp [he0])⟩
     ·
      have c5' := c5
      try simp only [qq] at c5'
      have hm : ¬ n ∈ (choicesC p)[j] := by simpa using c5'
      have eF : decide (0 < (selT p n j).length) = decide (0 < (selT p n (j + 1)).length) := by rw [sel_no hj' hm]
      have eW1 : (ovT p n (longC p n) j).1 = (ovT p n (longC p n) (j + 1)).1 := by unfold ovT; rw [sel_no hj' hm]
      have eW2 : (ovT p n (longC p n) j).2 = (ovT p n (longC p n) (j + 1)).2 := by unfold ovT; rw [sel_no hj' hm]
      refine aw_skip (aw_region ?_)
      refine sq_ev rfl (ev_add (lr _) (lr _) (wr (by omega) (by omega))) ?_
      refine mvr (lr _) rfl ?_
      refine sq_nil ?_
      exact ⟨⟨j + 1, by omega⟩, by simp only; omega, Sub.fin 3 ⟨lr _, less_b eF, lr _, lr _, lr _, lr _, lr _, lr _, trivial⟩ (cells3 eW1 eW2) (by simp [slotsIn, objsIn, sget, keepS, AObj.inB, AV.inB, AV.inL, AV.inE, inE_map, inE_ints, inE_sc, -List.map_append, -List.map_take, -List.map_map]) (by simp [slotsIn, objsIn, sget, keepS, AObj.inB, AV.inB, AV.inL, AV.inE, inE_map, inE_ints, inE_sc, -List.map_append, -List.map_take, -List.map_map]) (by simp [he0])⟩
    ·
     have c4' := c4
     try simp only [qq] at c4'
     obtain rfl : j = (choicesC p).length := by omega
     refine aw_exit (aw_seq (aw_seq (aw_region ?_)))
     refine mvr (lr _) rfl ?_
     refine sq_ev rfl (ev_not (lr _)) ?_
     refine sq_nil ?_
     refine aw_cond (lr _) (fun c6 => ?_) (fun c6 => ?_)
     ·
      have c6' := c6
      try simp only [qq] at c6'
      refine aw_seq (aw_region ?_)
      refine sq_ev rfl (ev_build bi23 rfl) ?_
      refine sq_store rfl (lr _) (lr _) rfl rfl ty23 rfl rfl ?_
      refine asr (lr _) rfl ?_
      refine sq_nil (aw_ret ?_)
      exact retQ_res (vs := [.agg _, .raw _]) rfl rfl ⟨resVar_cell rfl rfl ty23 rfl, resVar_tmp _ _ _, trivial⟩ (Less.eq (by rw [overAV, overR, if_pos ⟨g1', by simpa using c2'⟩, if_neg (by omega), if_pos (by show (selT p n _).length = 0; omega)] <;> rfl))
     ·
      have c6' := c6
      try simp only [qq] at c6'
      refine aw_skip (aw_seq (aw_region ?_))
      refine sq_ev rfl (ev_load_agg (lr _) rfl ty23 rfl) ?_
      refine sq_store rfl (lr _) (lr _) rfl rfl ty23 rfl rfl ?_
      refine asr (lr _) rfl ?_
      refine sq_nil (aw_ret ?_)
      exact retQ_res (vs := [.agg _, .raw _]) rfl rfl ⟨resVar_cell rfl rfl ty23 rfl, resVar_tmp _ _ _, trivial⟩ (Less.eq (by rw [overAV, overR, if_pos ⟨g1', by simpa using c2'⟩, if_neg (by omega), if_neg (by show ¬ (selT p n _).length = 0; omega)] <;> rfl))

set_option maxHeartbeats 400000 in
/-- kelir/night.Times -/
theorem nTimes_pure (p : Pl) (n : Int) (hl0 : p.scenes.length ≤ 1000000) : APure Tryz.prog 29 [plan p, I n] (overAV p n (begC p)) := by
 refine apure_of (rs := [.cell 4 23, .tmp 5]) Tryz.func29 rfl rfl (Nat.le_of_ble_eq_true rfl) (by simp [AV.pureL, AV.pureB, AV.pureE, pureE_map]) (rfl) fun e0 he0 => ?_
 refine aw_seq (aw_region ?_)
 refine sq_box rfl (lr _) rfl ?_
 refine sq_alloc rfl z23 ?_
 refine asr (lr _) rfl ?_
 refine sq_nil (aw_seq (aw_region ?_))
 refine sq_ev rfl (ev_load_agg (lr _) rfl ty27 rfl) ?_
 refine mvr (lr _) rfl ?_
 refine sq_ev rfl (ev_call en94 (lr _) (nover95_pure p n hl0) ⟨lr _, lr _, lr _, trivial⟩) ?_
 refine sq_ev rfl (ev_extract (lr _) rfl) ?_
 refine sq_ev rfl (ev_extract (lr _) rfl) ?_
 refine sq_store rfl (lr _) (lr _) rfl rfl ty23 rfl rfl ?_
 refine asr (lr _) rfl ?_
 refine sq_nil (aw_ret ?_)
 exact retQ_res (vs := [.agg _, .raw _]) rfl rfl ⟨resVar_cell rfl rfl ty23 rfl, resVar_tmp _ _ _, trivial⟩ (Less.eq (by simp))

set_option maxHeartbeats 400000 in
/-- kelir/night.Lengths -/
theorem nLengths_pure (p : Pl) (n : Int) (hl0 : p.scenes.length ≤ 1000000) : APure Tryz.prog 30 [plan p, I n] (overAV p n (longC p)) := by
 refine apure_of (rs := [.cell 4 23, .tmp 5]) Tryz.func30 rfl rfl (Nat.le_of_ble_eq_true rfl) (by simp [AV.pureL, AV.pureB, AV.pureE, pureE_map]) (rfl) fun e0 he0 => ?_
 refine aw_seq (aw_region ?_)
 refine sq_box rfl (lr _) rfl ?_
 refine sq_alloc rfl z23 ?_
 refine asr (lr _) rfl ?_
 refine sq_nil (aw_seq (aw_region ?_))
 refine sq_ev rfl (ev_load_agg (lr _) rfl ty27 rfl) ?_
 refine mvr (lr _) rfl ?_
 refine sq_ev rfl (ev_call en94 (lr _) (nover96_pure p n hl0) ⟨lr _, lr _, lr _, trivial⟩) ?_
 refine sq_ev rfl (ev_extract (lr _) rfl) ?_
 refine sq_ev rfl (ev_extract (lr _) rfl) ?_
 refine sq_store rfl (lr _) (lr _) rfl rfl ty23 rfl rfl ?_
 refine asr (lr _) rfl ?_
 refine sq_nil (aw_ret ?_)
 exact retQ_res (vs := [.agg _, .raw _]) rfl rfl ⟨resVar_cell rfl rfl ty23 rfl, resVar_tmp _ _ _, trivial⟩ (Less.eq (by simp))


end Go.Proofs.YtjghdbdiejaacaaGreatDoor
