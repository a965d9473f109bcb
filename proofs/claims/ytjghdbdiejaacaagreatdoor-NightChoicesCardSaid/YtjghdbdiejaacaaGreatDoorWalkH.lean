/-
  Conditions: none.
-/
import Derived.Test.YtjghdbdiejaacaaGreatDoorWalkG
import Derived.Test.YtjghdbdiejaacaaGreatDoorSpec
import Derived.Test.YtjghdbdiejaacaaGreatDoorLogicD
set_option linter.all false
namespace Go.Proofs.YtjghdbdiejaacaaGreatDoor
open Go Go.Ab Ni
theorem ar180 : arrElem Tryz.prog 180 = some (3, 9, 1) := by kernel_rfl
theorem bi180 : bldInfo Tryz.prog 180 = some ([.raw (.string ByteArray.empty), .raw (.string ByteArray.empty), .raw (.string ByteArray.empty)], false, [], 1) := by kernel_rfl
theorem en154 : Ent Tryz.prog 154 := Ent.of Tryz.func154 (by kernel_rfl) rfl
theorem en210 : Ent Tryz.prog 210 := Ent.of Tryz.func210 (by kernel_rfl) rfl
theorem en211 : Ent Tryz.prog 211 := Ent.of Tryz.func211 (by kernel_rfl) rfl
theorem en212 : Ent Tryz.prog 212 := Ent.of Tryz.func212 (by kernel_rfl) rfl
theorem en213 : Ent Tryz.prog 213 := Ent.of Tryz.func213 (by kernel_rfl) rfl
theorem fo169_0 : fOff Tryz.prog 169 0 = some (0, 27) := by kernel_rfl
theorem fo172_0 : fOff Tryz.prog 172 0 = some (0, 84) := by kernel_rfl
theorem fo173_0 : fOff Tryz.prog 173 0 = some (0, 84) := by kernel_rfl
theorem mt169 : methOf Tryz.prog 169 "kelir/night.numbers" = some 210 := by kernel_rfl
theorem mt172 : methOf Tryz.prog 172 "kelir/night.numbers" = some 211 := by kernel_rfl
theorem mt173 : methOf Tryz.prog 173 "kelir/night.numbers" = some 213 := by kernel_rfl
theorem ni172 : notIface Tryz.prog 172 = true := by kernel_rfl
theorem ni173 : notIface Tryz.prog 173 = true := by kernel_rfl
theorem ty172 : tySz Tryz.prog 172 = some (true, 5) := by kernel_rfl
theorem ty173 : tySz Tryz.prog 173 = some (true, 5) := by kernel_rfl
theorem ty180 : tySz Tryz.prog 180 = some (true, 3) := by kernel_rfl
theorem ty9 : tySz Tryz.prog 9 = some (false, 1) := by kernel_rfl
theorem z172 : zeroOf Tryz.prog 172 = some [.raw (.int .i64 0), .raw (.int .i64 0), .raw (.int .i64 0), .raw (.bool false), .raw (.int .i64 0)] := by kernel_rfl
theorem z173 : zeroOf Tryz.prog 173 = some [.raw (.int .i64 0), .raw (.int .i64 0), .raw (.int .i64 0), .raw (.bool false), .raw (.int .i64 0)] := by kernel_rfl
theorem z180 : zeroOf Tryz.prog 180 = some [.raw (.string ByteArray.empty), .raw (.string ByteArray.empty), .raw (.string ByteArray.empty)] := by kernel_rfl

/-- the rows' words -/
def wNight : List UInt8 := [110, 105, 103, 104, 116]
def wScene : List UInt8 := [115, 99, 101, 110, 101]
def wBattle : List UInt8 := [98, 97, 116, 116, 108, 101]
/-- a scene's numbers -/
def toldL (x : Sc) : List Int := [x.part, x.least, x.most] ++ (if 0 ≤ x.wants then [x.wants] else [])
def headT (p : Pl) (k : Nat) : List Int := [p.beg] ++ ((List.range k).map fun i => [wl p i, wh p i]).flatten
theorem headT_succ (p : Pl) (k : Nat) : headT p (k + 1) = headT p k ++ [wl p k, wh p k] := by simp [headT, List.range_succ]
def headL (p : Pl) : List Int := headT p 3
theorem headT_len (p : Pl) : ∀ k, (headT p k).length = 2 * k + 1
  | 0 => rfl
  | k + 1 => by rw [headT_succ, List.length_append, headT_len p k]; simp; omega
/-- numbers behind a word -/
def numsL (l : List Int) : List UInt8 := (l.map fun n => 32 :: Lib.itoa n).flatten
theorem numsL_take {l : List Int} {k : Nat} (h : k < l.length) : numsL (l.take (k + 1)) = numsL (l.take k) ++ (32 :: Lib.itoa l[k]) := by
  unfold numsL; rw [map_take_succ _ h, List.flatten_append]; simp
abbrev rowV (p : Pl) : Option Sc → AV
  | none => .ifc 169 (.agg (planC p))
  | some x => .ifc (if x.loose then 172 else 173) (.agg (sc x))
def sceneL (w : List UInt8) (x : Sc) : List UInt8 := w ++ numsL (toldL x) ++ (if 0 ≤ x.wants then [] else [32, 45])
theorem decDigits_len : ∀ (m u : Nat), u < 10 ^ (m + 1) → (Lib.decDigits u).length ≤ m + 1
  | 0, u, h => by rw [Lib.decDigits, dif_pos (by simpa using h)]; simp
  | m + 1, u, h => by
    rw [Lib.decDigits]
    split
    · simp
    · rw [List.length_append]
      have : u / 10 < 10 ^ (m + 1) := by rw [Nat.pow_succ] at h; omega
      have := decDigits_len m (u / 10) this
      simp; omega
theorem itoa_len {n : Int} (h : -1000000 ≤ n ∧ n ≤ 1000000) : (Lib.itoa n).length ≤ 8 := by
  unfold Lib.itoa
  split
  · have := decDigits_len 6 n.natAbs (by omega)
    simp; omega
  · have := decDigits_len 6 n.toNat (by omega)
    omega
theorem numsL_len (l : List Int) (k : Nat) (hb : ∀ n ∈ l, -1000000 ≤ n ∧ n ≤ 1000000) : (numsL (l.take k)).length ≤ 9 * k := by
  induction k with
  | zero => simp [numsL]
  | succ k ih =>
    rcases Nat.lt_or_ge k l.length with h | h
    · rw [numsL_take h, List.length_append, List.length_cons]
      have := itoa_len (hb _ (List.getElem_mem h)); omega
    · rw [List.take_of_length_le (by omega)]; rw [List.take_of_length_le (by omega)] at ih; omega
def lineL (p : Pl) : Option Sc → List UInt8
  | none => wNight ++ numsL (headL p)
  | some x => (if x.loose then wBattle else wScene) ++ numsL (toldL x) ++ (if 0 ≤ x.wants then [] else [32, 45])
set_option maxHeartbeats 400000 in
/-- kelir/night.names -/
theorem nnames_pure  : APure Tryz.prog 154 [] (.agg [S wNight, S wScene, S wBattle]) := by
  refine apure_of (rs := [.cell 0 180]) Tryz.func154 rfl rfl (Nat.le_of_ble_eq_true rfl) (by simp [AV.pureL, AV.pureB, AV.pureE, pureE_map]) (rfl) fun e0 he0 => ?_
  refine aw_seq (aw_region ?_)
  refine sq_alloc rfl z180 ?_
  refine sq_nil (aw_seq (aw_region ?_))
  refine sq_ev rfl (ev_build bi180 rfl) ?_
  refine sq_store rfl (lr _) (lr _) rfl rfl ty180 rfl rfl ?_
  refine sq_nil (aw_ret ?_)
  exact retQ_res (vs := [.agg _]) rfl rfl ⟨resVar_cell rfl rfl ty180 rfl, trivial⟩ (lr _)

set_option maxHeartbeats 400000 in
/-- kelir/night.told -/
theorem ntold_pure (x : Sc) : APure Tryz.prog 212 [.agg (sc x)] (ints (toldL x)) := by
 refine apure_of (rs := [.tmp 2]) Tryz.func212 rfl rfl (Nat.le_of_ble_eq_true rfl) (by simp [AV.pureL, AV.pureB, AV.pureE, pureE_map]) (by simp [AV.pureL, AV.pureB, AV.pureE, pureE_map]) fun e0 he0 => ?_
 refine aw_seq (aw_region ?_)
 refine sq_box rfl (lr _) rfl ?_
 refine sq_ev rfl (ev_as (v := .raw _) (lr _)) ?_
 refine sq_nil (aw_seq (aw_region ?_))
 refine sq_ev rfl (ev_fieldAddr fo84_0 (lr _)) ?_
 refine sq_ev rfl (ev_load (lr _) rfl ty3 rfl) ?_
 refine sq_ev rfl (ev_fieldAddr fo84_1 (lr _)) ?_
 refine sq_ev rfl (ev_load (lr _) rfl ty3 rfl) ?_
 refine sq_ev rfl (ev_fieldAddr fo84_2 (lr _)) ?_
 refine sq_ev rfl (ev_load (lr _) rfl ty3 rfl) ?_
 refine sq_ev rfl (ev_buildSlice (es := [[_], [_], [_]]) sf34 rfl rfl rfl rfl) ?_
 refine sq_ev rfl (ev_as (v := .slx _ _) (lr _)) ?_
 refine sq_nil (aw_seq (aw_seq (aw_region ?_)))
 refine sq_ev rfl (ev_fieldAddr fo84_4 (lr _)) ?_
 refine sq_ev rfl (ev_load (lr _) rfl ty3 rfl) ?_
 refine sq_ev rfl (ev_geq (lr _) (lr _)) ?_
 refine sq_nil ?_
 refine aw_cond (lr _) (fun c1 => ?_) (fun c1 => ?_)
 ·
  have c1' := c1
  try simp only [qq1, qq2, qq3, qq4, qq5, qq6, qq7, qq8, qq9, qq10, qq11, qq12, qq13] at c1'
  refine aw_region ?_
  refine sq_ev rfl (ev_mv (v := .slx _ _) (lr _)) ?_
  refine sq_ev rfl (ev_fieldAddr fo84_4 (lr _)) ?_
  refine sq_ev rfl (ev_load (lr _) rfl ty3 rfl) ?_
  refine sq_ev rfl (ev_buildSlice (es := [[_]]) sf34 rfl rfl rfl rfl) ?_
  refine sq_ev rfl (ev_append sf34 Tryz.underlying34 (lr _) (less_slx _ _) (by simp) (by simp)) ?_
  refine sq_ev rfl (ev_as (v := .sl _ _) (lr _)) ?_
  refine sq_nil (aw_seq (aw_region ?_))
  refine sq_ev rfl (ev_mv (v := .sl _ _) (lr _)) ?_
  refine sq_ev rfl (ev_as (v := .sl _ _) (lr _)) ?_
  refine sq_nil (aw_ret ?_)
  exact retQ_pure (v := .sl _ _) rfl rfl (Less.eq (by rw [toldL, if_pos (by omega)] <;> rfl))
 ·
  have c1' := c1
  try simp only [qq1, qq2, qq3, qq4, qq5, qq6, qq7, qq8, qq9, qq10, qq11, qq12, qq13] at c1'
  refine aw_skip (aw_seq (aw_region ?_))
  refine sq_ev rfl (ev_mv (v := .slx _ _) (lr _)) ?_
  refine sq_ev rfl (ev_as (v := .slx _ _) (lr _)) ?_
  refine sq_nil (aw_ret ?_)
  exact retQ_pure (v := .slx _ _) rfl rfl (Less.trans (less_slx _ _) (Less.eq (by rw [toldL, if_neg (by omega)] <;> rfl)))

set_option maxHeartbeats 400000 in
/-- (kelir/night.battle).numbers -/
theorem nbattle_pure (x : Sc) : APure Tryz.prog 211 [.agg (sc x)] (ints (toldL x)) := by
 refine apure_of (rs := [.tmp 2]) Tryz.func211 rfl rfl (Nat.le_of_ble_eq_true rfl) (by simp [AV.pureL, AV.pureB, AV.pureE, pureE_map]) (by simp [AV.pureL, AV.pureB, AV.pureE, pureE_map]) fun e0 he0 => ?_
 refine aw_seq (aw_region ?_)
 refine sq_box rfl (lr _) rfl ?_
 refine sq_ev rfl (ev_as (v := .raw _) (lr _)) ?_
 refine sq_nil (aw_seq (aw_region ?_))
 refine sq_ev rfl (ev_fieldAddr fo172_0 (lr _)) ?_
 refine sq_ev rfl (ev_load_agg (lr _) rfl ty84 rfl) ?_
 refine sq_ev rfl (ev_call en212 (lr _) (ntold_pure x) ⟨lr _, trivial⟩) ?_
 refine sq_ev rfl (ev_as (v := .sl _ _) (lr _)) ?_
 refine sq_nil (aw_ret ?_)
 exact retQ_pure (v := .sl _ _) rfl rfl (Less.eq (by simp))

set_option maxHeartbeats 400000 in
/-- (kelir/night.scene).numbers -/
theorem nscenen_pure (x : Sc) : APure Tryz.prog 213 [.agg (sc x)] (ints (toldL x)) := by
 refine apure_of (rs := [.tmp 2]) Tryz.func213 rfl rfl (Nat.le_of_ble_eq_true rfl) (by simp [AV.pureL, AV.pureB, AV.pureE, pureE_map]) (by simp [AV.pureL, AV.pureB, AV.pureE, pureE_map]) fun e0 he0 => ?_
 refine aw_seq (aw_region ?_)
 refine sq_box rfl (lr _) rfl ?_
 refine sq_ev rfl (ev_as (v := .raw _) (lr _)) ?_
 refine sq_nil (aw_seq (aw_region ?_))
 refine sq_ev rfl (ev_fieldAddr fo173_0 (lr _)) ?_
 refine sq_ev rfl (ev_load_agg (lr _) rfl ty84 rfl) ?_
 refine sq_ev rfl (ev_call en212 (lr _) (ntold_pure x) ⟨lr _, trivial⟩) ?_
 refine sq_ev rfl (ev_as (v := .sl _ _) (lr _)) ?_
 refine sq_nil (aw_ret ?_)
 exact retQ_pure (v := .sl _ _) rfl rfl (Less.eq (by simp))

set_option maxHeartbeats 1000000 in
/-- (kelir/night.head).numbers -/
theorem nhead_pure (p : Pl) : APure Tryz.prog 210 [.agg (planC p)] (ints (headL p)) := by
 refine apure_of (rs := [.tmp 2]) Tryz.func210 rfl rfl (Nat.le_of_ble_eq_true rfl) (by simp [AV.pureL, AV.pureB, AV.pureE, pureE_map]) (by simp [AV.pureL, AV.pureB, AV.pureE, pureE_map]) fun e0 he0 => ?_
 refine aw_seq (aw_region ?_)
 refine sq_box rfl (lr _) rfl ?_
 refine sq_ev rfl (ev_as (v := .raw _) (lr _)) ?_
 refine sq_nil (aw_seq (aw_region ?_))
 refine sq_ev rfl (ev_fieldAddr fo169_0 (lr _)) ?_
 refine sq_ev rfl (ev_fieldAddr fo27_0 (lr _)) ?_
 refine sq_ev rfl (ev_load (lr _) rfl ty3 rfl) ?_
 refine sq_ev rfl (ev_buildSlice (es := [[_]]) sf34 rfl rfl rfl rfl) ?_
 refine sq_ev rfl (ev_as (v := .slx _ _) (lr _)) ?_
 refine sq_nil (aw_seq (aw_seq (aw_region ?_)))
 refine sq_ev rfl (ev_mv (v := .raw _) (lr _)) ?_
 refine sq_nil (aw_block ?_)
 refine aw_sub (sub_token_slx 3 1 (lr _)) ?_
 refine aw_loopk (ι := { k : Nat // k ≤ 3 }) [1] (fun i => [(10, I i.1), (3, .own 1 1 ((headT p i.1).map fun x => [I x]))]) (fun H i => H.set 1 (.tok ((headT p i.1).map fun x => [I x]).length)) (fun i => 3 - i.1) (⟨0, Nat.zero_le _⟩) ⟨lr _, lr _, lr _, trivial⟩ rfl ?_
 rintro ⟨k, hk⟩
 dsimp only [keepS, St.put, sget, slotsOf, List.map_cons, List.map_nil, List.cons_append, List.nil_append, List.length_cons, List.length_nil, Nat.reduceBEq, Nat.reduceAdd, cond_true, cond_false]
 have hhl := headT_len p k
 refine aw_seq (aw_region ?_)
 refine sq_ev rfl (ev_lss (lr _) (lr _)) ?_
 refine sq_nil (aw_seq ?_)
 refine aw_cond (lr _) (fun c1 => ?_) (fun c1 => ?_)
 ·
  have c1' := c1
  try simp only [qq1, qq2, qq3, qq4, qq5, qq6, qq7, qq8, qq9, qq10, qq11, qq12, qq13] at c1'
  have hk3 : k < 3 := by omega
  have eS : (headT p (k + 1)).map (fun x => [I x]) = (headT p k).map (fun x => [I x]) ++ [[I (wl p k)], [I (wh p k)]] := by rw [headT_succ, List.map_append]; rfl
  refine aw_skip (aw_seq (aw_block (aw_seq (aw_region ?_))))
  refine sq_ev rfl (ev_mv (v := .raw _) (lr _)) ?_
  refine sq_ev rfl (ev_as (v := .raw _) (lr _)) ?_
  refine sq_nil (aw_seq (aw_region ?_))
  refine sq_ev rfl (ev_fieldAddr fo169_0 (lr _)) ?_
  refine sq_ev rfl (ev_load_agg (lr _) rfl ty27 rfl) ?_
  refine sq_ev rfl (ev_mv (v := .raw _) (lr _)) ?_
  refine sq_ev rfl (ev_call en142 (lr _) (nwindow_pure p k hk3) ⟨lr _, lr _, trivial⟩) ?_
  refine sq_alloc rfl z23 ?_
  refine sq_store rfl (lr _) (lr _) rfl rfl ty23 rfl rfl ?_
  refine sq_nil (aw_region ?_)
  refine sq_ev rfl (ev_mv (v := .own _ _ _) (lr _)) ?_
  refine sq_ev rfl (ev_fieldAddr fo23_0 (lr _)) ?_
  refine sq_ev rfl (ev_load (lr _) rfl ty3 rfl) ?_
  refine sq_ev rfl (ev_fieldAddr fo23_1 (lr _)) ?_
  refine sq_ev rfl (ev_load (lr _) rfl ty3 rfl) ?_
  refine sq_ev rfl (ev_buildSlice (es := [[_], [_]]) sf34 rfl rfl rfl rfl) ?_
  refine sq_append rfl sf34 Tryz.underlying34 rfl rfl (less_slx _ _) (Nat.succ_pos _) (by simp; omega) (by simp; omega) ?_
  refine sq_ev rfl (ev_as (v := .own _ _ _) (lr _)) ?_
  refine sq_nil (aw_region ?_)
  refine sq_ev rfl (ev_add (lr _) (lr _) (wr (by omega) (by omega))) ?_
  refine sq_ev rfl (ev_mv (v := .raw _) (lr _)) ?_
  refine sq_nil ?_
  exact ⟨⟨k + 1, by omega⟩, by simp only; omega, Sub.fin 2 ⟨lr _, Less.eq (b := .own 1 1 ((headT p (k + 1)).map fun x => [I x])) (by rw [eS] <;> rfl), lr _, trivial⟩ (congrArg (fun n => [_, AObj.tok n]) (congrArg List.length eS.symm)) (by simp [slotsIn, objsIn, sget, keepS, AObj.inB, AV.inB, AV.inL, AV.inE, inE_map, inE_ints, inE_sc, -List.map_append, -List.map_take, -List.map_map]) (by simp [slotsIn, objsIn, sget, keepS, AObj.inB, AV.inB, AV.inL, AV.inE, inE_map, inE_ints, inE_sc, -List.map_append, -List.map_take, -List.map_map]) (by simp [he0])⟩
 ·
  have c1' := c1
  try simp only [qq1, qq2, qq3, qq4, qq5, qq6, qq7, qq8, qq9, qq10, qq11, qq12, qq13] at c1'
  obtain rfl : k = 3 := by omega
  refine aw_exit (aw_seq (aw_region ?_))
  refine sq_ev rfl (ev_mv (v := .own _ _ _) (lr _)) ?_
  refine sq_ev rfl (ev_as (v := .own _ _ _) (lr _)) ?_
  refine sq_nil (aw_ret ?_)
  exact retQ_pure (v := .own _ _ _) rfl rfl (Less.trans (less_own _ _ _) (Less.eq (by rfl)))

set_option maxHeartbeats 1000000 in
/-- kelir/night.line -/
theorem nlineH_pure (p : Pl) (hb1 : ∀ n ∈ headL p, -1000000 ≤ n ∧ n ≤ 1000000) : APure Tryz.prog 149 [.ifc 169 (.agg (planC p))] (S (lineL p none)) := by
 refine apure_of (rs := [.tmp 2]) Tryz.func149 rfl rfl (Nat.le_of_ble_eq_true rfl) (by simp [AV.pureL, AV.pureB, AV.pureE, pureE_map]) (rfl) fun e0 he0 => ?_
 refine aw_seq (aw_region ?_)
 refine sq_ev rfl (ev_as (v := .raw _) (lr _)) ?_
 refine sq_nil (aw_seq (aw_region ?_))
 refine sq_ev rfl (ev_as (v := .raw _) (lr _)) ?_
 refine sq_ev rfl (ev_as (v := .raw _) (lr _)) ?_
 refine sq_nil (aw_seq (aw_seq (aw_region ?_)))
 refine sq_ev rfl (ev_mv (v := .ifc _ _) (lr _)) ?_
 refine sq_nil (aw_block (aw_seq (aw_region ?_)))
 refine sq_ev rfl (ev_assert_no ni173 z173 rfl (lr _)) ?_
 refine sq_ev rfl (ev_extract (lr _) rfl) ?_
 refine sq_ev rfl (ev_extract (lr _) rfl) ?_
 refine sq_nil ?_
 refine aw_false (lr _) ?_
 refine aw_seq (aw_region ?_)
 refine sq_ev rfl (ev_assert_no ni172 z172 rfl (lr _)) ?_
 refine sq_ev rfl (ev_extract (lr _) rfl) ?_
 refine sq_ev rfl (ev_extract (lr _) rfl) ?_
 refine sq_nil ?_
 refine aw_false (lr _) ?_
 refine aw_skip (aw_seq (aw_region ?_))
 refine sq_ev rfl (ev_call en154 (lr _) (nnames_pure) trivial) ?_
 refine sq_ev rfl (ev_mv (v := .raw _) (lr _)) ?_
 refine sq_ev rfl (ev_indexv (k := 0) ar180 ty9 (lr _) (lr _) rfl (by decide) rfl) ?_
 refine sq_ev rfl (ev_as (v := .raw _) (lr _)) ?_
 refine sq_nil (aw_seq (aw_seq (aw_region ?_)))
 refine sq_ev rfl (ev_mv (v := .ifc _ _) (lr _)) ?_
 refine sq_ev rfl (ev_invoke mt169 en210 (lr _) (nhead_pure p)) ?_
 refine sq_ev rfl (ev_len_map sl34 (lr _)) ?_
 refine sq_ev rfl (ev_mv (v := .raw _) (lr _)) ?_
 refine sq_nil (aw_block ?_)
 refine aw_loopk (ι := { k : Nat // k ≤ (headL p).length }) [4, 29, 30] (fun i => [(31, I i.1), (7, S (wNight ++ numsL ((headL p).take i.1)))]) (fun H i => H) (fun i => (headL p).length - i.1) (⟨0, Nat.zero_le _⟩) ⟨lr _, Less.eq (by simp [numsL] <;> rfl), lr _, lr _, lr _, trivial⟩ rfl ?_
 rintro ⟨k, hk⟩
 dsimp only [keepS, St.put, sget, slotsOf, List.map_cons, List.map_nil, List.cons_append, List.nil_append, List.length_cons, List.length_nil, Nat.reduceBEq, Nat.reduceAdd, cond_true, cond_false]
 have hnl := numsL_len (headL p) k hb1
 have hwl : (wNight).length ≤ 6 := by decide
 have hll : (headL p).length ≤ 7 := by have := headT_len p 3; show (headT p 3).length ≤ 7; omega
 refine aw_seq (aw_region ?_)
 refine sq_ev rfl (ev_lss (lr _) (lr _)) ?_
 refine sq_nil (aw_seq ?_)
 refine aw_cond (lr _) (fun c1 => ?_) (fun c1 => ?_)
 ·
  have c1' := c1
  try simp only [qq1, qq2, qq3, qq4, qq5, qq6, qq7, qq8, qq9, qq10, qq11, qq12, qq13] at c1'
  have hk' : k < (headL p).length := by omega
  have hb2 := hb1 _ (List.getElem_mem hk')
  have hil := itoa_len hb2
  have eL : S (wNight ++ numsL ((headL p).take k) ++ ([32] ++ Lib.itoa (headL p)[k])) = S (wNight ++ numsL ((headL p).take (k + 1))) := by rw [numsL_take hk', List.append_assoc]; rfl
  refine aw_skip (aw_seq (aw_block (aw_seq (aw_region ?_))))
  refine sq_ev rfl (ev_index_map sl34 (lr _) (lr _) rfl (by omega)) ?_
  refine sq_ev rfl (ev_load_i (lr _) ty3 rfl) ?_
  refine sq_ev rfl (ev_as (v := .raw _) (lr _)) ?_
  refine sq_nil (aw_region ?_)
  refine sq_ev rfl (ev_mv (v := .raw _) (lr _)) ?_
  refine sq_ev rfl (ev_mv (v := .raw _) (lr _)) ?_
  refine sq_ev rfl (ev_call en150 (lr _) (nitoa_pure _ (by omega) (by omega)) ⟨lr _, trivial⟩) ?_
  refine sq_ev rfl (ev_catS (lr _) (lr _) (by simp; omega)) ?_
  refine sq_ev rfl (ev_catS (lr _) (lr _) (by simp; omega)) ?_
  refine sq_ev rfl (ev_as (v := .raw _) (lr _)) ?_
  refine sq_nil (aw_region ?_)
  refine sq_ev rfl (ev_add (lr _) (lr _) (wr (by omega) (by omega))) ?_
  refine sq_ev rfl (ev_mv (v := .raw _) (lr _)) ?_
  refine sq_nil ?_
  exact ⟨⟨k + 1, by omega⟩, by simp only; omega, Sub.slots ⟨lr _, Less.eq eL, lr _, lr _, lr _, trivial⟩⟩
 ·
  have c1' := c1
  try simp only [qq1, qq2, qq3, qq4, qq5, qq6, qq7, qq8, qq9, qq10, qq11, qq12, qq13] at c1'
  obtain rfl : k = (headL p).length := by omega
  have hnl2 := hnl
  rw [List.take_length] at hnl2
  refine aw_exit (aw_seq (aw_seq (aw_region ?_)))
  refine sq_ev rfl (ev_mv (v := .raw _) (lr _)) ?_
  refine sq_ev rfl (ev_not (lr _)) ?_
  refine sq_nil ?_
  refine aw_cond (lr _) (fun c2 => ?_) (fun c2 => ?_)
  ·
   have c2' := c2
   try simp only [qq1, qq2, qq3, qq4, qq5, qq6, qq7, qq8, qq9, qq10, qq11, qq12, qq13] at c2'
   cases c2
  ·
   have c2' := c2
   try simp only [qq1, qq2, qq3, qq4, qq5, qq6, qq7, qq8, qq9, qq10, qq11, qq12, qq13] at c2'
   refine aw_skip (aw_seq (aw_region ?_))
   refine sq_ev rfl (ev_mv (v := .raw _) (lr _)) ?_
   refine sq_ev rfl (ev_as (v := .raw _) (lr _)) ?_
   refine sq_nil (aw_ret ?_)
   exact retQ_pure (v := .raw _) rfl rfl (Less.eq (by simp [lineL]))

set_option maxHeartbeats 1000000 in
/-- kelir/night.line -/
theorem nlineS_pure (x : Sc) (hb1 : ∀ n ∈ toldL x, -1000000 ≤ n ∧ n ≤ 1000000) (hll : (toldL x).length ≤ 4) : APure Tryz.prog 149 [.ifc 173 (.agg (sc x))] (S (sceneL wScene x)) := by
 refine apure_of (rs := [.tmp 2]) Tryz.func149 rfl rfl (Nat.le_of_ble_eq_true rfl) (by simp [AV.pureL, AV.pureB, AV.pureE, pureE_map]) (rfl) fun e0 he0 => ?_
 refine aw_seq (aw_region ?_)
 refine sq_ev rfl (ev_as (v := .raw _) (lr _)) ?_
 refine sq_nil (aw_seq (aw_region ?_))
 refine sq_ev rfl (ev_as (v := .raw _) (lr _)) ?_
 refine sq_ev rfl (ev_as (v := .raw _) (lr _)) ?_
 refine sq_nil (aw_seq (aw_seq (aw_region ?_)))
 refine sq_ev rfl (ev_mv (v := .ifc _ _) (lr _)) ?_
 refine sq_nil (aw_block (aw_seq (aw_region ?_)))
 refine sq_ev rfl (ev_assert_yes ni173 (lr _)) ?_
 refine sq_ev rfl (ev_extract (lr _) rfl) ?_
 refine sq_ev rfl (ev_extract (lr _) rfl) ?_
 refine sq_nil ?_
 refine aw_true (lr _) ?_
 refine aw_seq (aw_region ?_)
 refine sq_alloc rfl z173 ?_
 refine sq_store rfl (lr _) (lr _) rfl rfl ty173 rfl rfl ?_
 refine sq_nil ?_
 refine aw_draw 6 mo (by kernel_rfl) ?_
 refine dr_ev rfl (ev_fieldAddr fo173_0 (lr _)) ?_
 refine dr_ev rfl (ev_fieldAddr fo84_4 (lr _)) ?_
 refine dr_ev rfl (ev_load (lr _) rfl ty3 rfl) ?_
 refine dr_ev rfl (ev_geq (lr _) (lr _)) ?_
 refine dr_ev rfl (ev_as (v := .raw _) (lr _)) ?_
 refine dr_ev rfl (ev_as (v := .raw _) (lr _)) ?_
 refine dr_end (sq_nil (aw_seq (aw_region ?_)))
 refine sq_ev rfl (ev_call en154 (lr _) (nnames_pure) trivial) ?_
 refine sq_ev rfl (ev_mv (v := .raw _) (lr _)) ?_
 refine sq_ev rfl (ev_indexv (k := 1) ar180 ty9 (lr _) (lr _) rfl (by decide) rfl) ?_
 refine sq_ev rfl (ev_as (v := .raw _) (lr _)) ?_
 refine sq_nil (aw_seq (aw_seq (aw_region ?_)))
 refine sq_ev rfl (ev_mv (v := .ifc _ _) (lr _)) ?_
 refine sq_ev rfl (ev_invoke mt173 en213 (lr _) (nscenen_pure x)) ?_
 refine sq_ev rfl (ev_len_map sl34 (lr _)) ?_
 refine sq_ev rfl (ev_mv (v := .raw _) (lr _)) ?_
 refine sq_nil (aw_block ?_)
 refine aw_loopk (ι := { k : Nat // k ≤ (toldL x).length }) [4, 29, 30] (fun i => [(31, I i.1), (7, S (wScene ++ numsL ((toldL x).take i.1)))]) (fun H i => H) (fun i => (toldL x).length - i.1) (⟨0, Nat.zero_le _⟩) ⟨lr _, Less.eq (by simp [numsL] <;> rfl), lr _, lr _, lr _, trivial⟩ rfl ?_
 rintro ⟨k, hk⟩
 dsimp only [keepS, St.put, sget, slotsOf, List.map_cons, List.map_nil, List.cons_append, List.nil_append, List.length_cons, List.length_nil, Nat.reduceBEq, Nat.reduceAdd, cond_true, cond_false]
 have hnl := numsL_len (toldL x) k hb1
 have hwl : (wScene).length ≤ 6 := by decide
 refine aw_seq (aw_region ?_)
 refine sq_ev rfl (ev_lss (lr _) (lr _)) ?_
 refine sq_nil (aw_seq ?_)
 refine aw_cond (lr _) (fun c1 => ?_) (fun c1 => ?_)
 ·
  have c1' := c1
  try simp only [qq1, qq2, qq3, qq4, qq5, qq6, qq7, qq8, qq9, qq10, qq11, qq12, qq13] at c1'
  have hk' : k < (toldL x).length := by omega
  have hb2 := hb1 _ (List.getElem_mem hk')
  have hil := itoa_len hb2
  have eL : S (wScene ++ numsL ((toldL x).take k) ++ ([32] ++ Lib.itoa (toldL x)[k])) = S (wScene ++ numsL ((toldL x).take (k + 1))) := by rw [numsL_take hk', List.append_assoc]; rfl
  refine aw_skip (aw_seq (aw_block (aw_seq (aw_region ?_))))
  refine sq_ev rfl (ev_index_map sl34 (lr _) (lr _) rfl (by omega)) ?_
  refine sq_ev rfl (ev_load_i (lr _) ty3 rfl) ?_
  refine sq_ev rfl (ev_as (v := .raw _) (lr _)) ?_
  refine sq_nil (aw_region ?_)
  refine sq_ev rfl (ev_mv (v := .raw _) (lr _)) ?_
  refine sq_ev rfl (ev_mv (v := .raw _) (lr _)) ?_
  refine sq_ev rfl (ev_call en150 (lr _) (nitoa_pure _ (by omega) (by omega)) ⟨lr _, trivial⟩) ?_
  refine sq_ev rfl (ev_catS (lr _) (lr _) (by simp; omega)) ?_
  refine sq_ev rfl (ev_catS (lr _) (lr _) (by simp; omega)) ?_
  refine sq_ev rfl (ev_as (v := .raw _) (lr _)) ?_
  refine sq_nil (aw_region ?_)
  refine sq_ev rfl (ev_add (lr _) (lr _) (wr (by omega) (by omega))) ?_
  refine sq_ev rfl (ev_mv (v := .raw _) (lr _)) ?_
  refine sq_nil ?_
  exact ⟨⟨k + 1, by omega⟩, by simp only; omega, Sub.slots ⟨lr _, Less.eq eL, lr _, lr _, lr _, trivial⟩⟩
 ·
  have c1' := c1
  try simp only [qq1, qq2, qq3, qq4, qq5, qq6, qq7, qq8, qq9, qq10, qq11, qq12, qq13] at c1'
  obtain rfl : k = (toldL x).length := by omega
  have hnl2 := hnl
  rw [List.take_length] at hnl2
  refine aw_exit (aw_seq (aw_seq (aw_region ?_)))
  refine sq_ev rfl (ev_mv (v := .raw _) (lr _)) ?_
  refine sq_ev rfl (ev_not (lr _)) ?_
  refine sq_nil ?_
  refine aw_cond (lr _) (fun c2 => ?_) (fun c2 => ?_)
  ·
   have c2' := c2
   try simp only [qq1, qq2, qq3, qq4, qq5, qq6, qq7, qq8, qq9, qq10, qq11, qq12, qq13] at c2'
   refine aw_region ?_
   refine sq_ev rfl (ev_mv (v := .raw _) (lr _)) ?_
   refine sq_ev rfl (ev_catS (lr _) (lr _) (by simp; omega)) ?_
   refine sq_ev rfl (ev_as (v := .raw _) (lr _)) ?_
   refine sq_nil (aw_seq (aw_region ?_))
   refine sq_ev rfl (ev_mv (v := .raw _) (lr _)) ?_
   refine sq_ev rfl (ev_as (v := .raw _) (lr _)) ?_
   refine sq_nil (aw_ret ?_)
   exact retQ_pure (v := .raw _) rfl rfl (Less.eq (by rw [sceneL, if_neg (by omega)]; simp))
  ·
   have c2' := c2
   try simp only [qq1, qq2, qq3, qq4, qq5, qq6, qq7, qq8, qq9, qq10, qq11, qq12, qq13] at c2'
   refine aw_skip (aw_seq (aw_region ?_))
   refine sq_ev rfl (ev_mv (v := .raw _) (lr _)) ?_
   refine sq_ev rfl (ev_as (v := .raw _) (lr _)) ?_
   refine sq_nil (aw_ret ?_)
   exact retQ_pure (v := .raw _) rfl rfl (Less.eq (by rw [sceneL, if_pos (by omega)]; simp))

set_option maxHeartbeats 1000000 in
/-- kelir/night.line -/
theorem nlineB_pure (x : Sc) (hb1 : ∀ n ∈ toldL x, -1000000 ≤ n ∧ n ≤ 1000000) (hll : (toldL x).length ≤ 4) : APure Tryz.prog 149 [.ifc 172 (.agg (sc x))] (S (sceneL wBattle x)) := by
 refine apure_of (rs := [.tmp 2]) Tryz.func149 rfl rfl (Nat.le_of_ble_eq_true rfl) (by simp [AV.pureL, AV.pureB, AV.pureE, pureE_map]) (rfl) fun e0 he0 => ?_
 refine aw_seq (aw_region ?_)
 refine sq_ev rfl (ev_as (v := .raw _) (lr _)) ?_
 refine sq_nil (aw_seq (aw_region ?_))
 refine sq_ev rfl (ev_as (v := .raw _) (lr _)) ?_
 refine sq_ev rfl (ev_as (v := .raw _) (lr _)) ?_
 refine sq_nil (aw_seq (aw_seq (aw_region ?_)))
 refine sq_ev rfl (ev_mv (v := .ifc _ _) (lr _)) ?_
 refine sq_nil (aw_block (aw_seq (aw_region ?_)))
 refine sq_ev rfl (ev_assert_no ni173 z173 rfl (lr _)) ?_
 refine sq_ev rfl (ev_extract (lr _) rfl) ?_
 refine sq_ev rfl (ev_extract (lr _) rfl) ?_
 refine sq_nil ?_
 refine aw_false (lr _) ?_
 refine aw_seq (aw_region ?_)
 refine sq_ev rfl (ev_assert_yes ni172 (lr _)) ?_
 refine sq_ev rfl (ev_extract (lr _) rfl) ?_
 refine sq_ev rfl (ev_extract (lr _) rfl) ?_
 refine sq_nil ?_
 refine aw_true (lr _) ?_
 refine aw_seq (aw_region ?_)
 refine sq_alloc rfl z172 ?_
 refine sq_store rfl (lr _) (lr _) rfl rfl ty172 rfl rfl ?_
 refine sq_nil ?_
 refine aw_draw 6 mo (by kernel_rfl) ?_
 refine dr_ev rfl (ev_fieldAddr fo172_0 (lr _)) ?_
 refine dr_ev rfl (ev_fieldAddr fo84_4 (lr _)) ?_
 refine dr_ev rfl (ev_load (lr _) rfl ty3 rfl) ?_
 refine dr_ev rfl (ev_geq (lr _) (lr _)) ?_
 refine dr_ev rfl (ev_as (v := .raw _) (lr _)) ?_
 refine dr_ev rfl (ev_as (v := .raw _) (lr _)) ?_
 refine dr_end (sq_nil (aw_seq (aw_region ?_)))
 refine sq_ev rfl (ev_call en154 (lr _) (nnames_pure) trivial) ?_
 refine sq_ev rfl (ev_mv (v := .raw _) (lr _)) ?_
 refine sq_ev rfl (ev_indexv (k := 2) ar180 ty9 (lr _) (lr _) rfl (by decide) rfl) ?_
 refine sq_ev rfl (ev_as (v := .raw _) (lr _)) ?_
 refine sq_nil (aw_seq (aw_seq (aw_region ?_)))
 refine sq_ev rfl (ev_mv (v := .ifc _ _) (lr _)) ?_
 refine sq_ev rfl (ev_invoke mt172 en211 (lr _) (nbattle_pure x)) ?_
 refine sq_ev rfl (ev_len_map sl34 (lr _)) ?_
 refine sq_ev rfl (ev_mv (v := .raw _) (lr _)) ?_
 refine sq_nil (aw_block ?_)
 refine aw_loopk (ι := { k : Nat // k ≤ (toldL x).length }) [4, 29, 30] (fun i => [(31, I i.1), (7, S (wBattle ++ numsL ((toldL x).take i.1)))]) (fun H i => H) (fun i => (toldL x).length - i.1) (⟨0, Nat.zero_le _⟩) ⟨lr _, Less.eq (by simp [numsL] <;> rfl), lr _, lr _, lr _, trivial⟩ rfl ?_
 rintro ⟨k, hk⟩
 dsimp only [keepS, St.put, sget, slotsOf, List.map_cons, List.map_nil, List.cons_append, List.nil_append, List.length_cons, List.length_nil, Nat.reduceBEq, Nat.reduceAdd, cond_true, cond_false]
 have hnl := numsL_len (toldL x) k hb1
 have hwl : (wBattle).length ≤ 6 := by decide
 refine aw_seq (aw_region ?_)
 refine sq_ev rfl (ev_lss (lr _) (lr _)) ?_
 refine sq_nil (aw_seq ?_)
 refine aw_cond (lr _) (fun c1 => ?_) (fun c1 => ?_)
 ·
  have c1' := c1
  try simp only [qq1, qq2, qq3, qq4, qq5, qq6, qq7, qq8, qq9, qq10, qq11, qq12, qq13] at c1'
  have hk' : k < (toldL x).length := by omega
  have hb2 := hb1 _ (List.getElem_mem hk')
  have hil := itoa_len hb2
  have eL : S (wBattle ++ numsL ((toldL x).take k) ++ ([32] ++ Lib.itoa (toldL x)[k])) = S (wBattle ++ numsL ((toldL x).take (k + 1))) := by rw [numsL_take hk', List.append_assoc]; rfl
  refine aw_skip (aw_seq (aw_block (aw_seq (aw_region ?_))))
  refine sq_ev rfl (ev_index_map sl34 (lr _) (lr _) rfl (by omega)) ?_
  refine sq_ev rfl (ev_load_i (lr _) ty3 rfl) ?_
  refine sq_ev rfl (ev_as (v := .raw _) (lr _)) ?_
  refine sq_nil (aw_region ?_)
  refine sq_ev rfl (ev_mv (v := .raw _) (lr _)) ?_
  refine sq_ev rfl (ev_mv (v := .raw _) (lr _)) ?_
  refine sq_ev rfl (ev_call en150 (lr _) (nitoa_pure _ (by omega) (by omega)) ⟨lr _, trivial⟩) ?_
  refine sq_ev rfl (ev_catS (lr _) (lr _) (by simp; omega)) ?_
  refine sq_ev rfl (ev_catS (lr _) (lr _) (by simp; omega)) ?_
  refine sq_ev rfl (ev_as (v := .raw _) (lr _)) ?_
  refine sq_nil (aw_region ?_)
  refine sq_ev rfl (ev_add (lr _) (lr _) (wr (by omega) (by omega))) ?_
  refine sq_ev rfl (ev_mv (v := .raw _) (lr _)) ?_
  refine sq_nil ?_
  exact ⟨⟨k + 1, by omega⟩, by simp only; omega, Sub.slots ⟨lr _, Less.eq eL, lr _, lr _, lr _, trivial⟩⟩
 ·
  have c1' := c1
  try simp only [qq1, qq2, qq3, qq4, qq5, qq6, qq7, qq8, qq9, qq10, qq11, qq12, qq13] at c1'
  obtain rfl : k = (toldL x).length := by omega
  have hnl2 := hnl
  rw [List.take_length] at hnl2
  refine aw_exit (aw_seq (aw_seq (aw_region ?_)))
  refine sq_ev rfl (ev_mv (v := .raw _) (lr _)) ?_
  refine sq_ev rfl (ev_not (lr _)) ?_
  refine sq_nil ?_
  refine aw_cond (lr _) (fun c2 => ?_) (fun c2 => ?_)
  ·
   have c2' := c2
   try simp only [qq1, qq2, qq3, qq4, qq5, qq6, qq7, qq8, qq9, qq10, qq11, qq12, qq13] at c2'
   refine aw_region ?_
   refine sq_ev rfl (ev_mv (v := .raw _) (lr _)) ?_
   refine sq_ev rfl (ev_catS (lr _) (lr _) (by simp; omega)) ?_
   refine sq_ev rfl (ev_as (v := .raw _) (lr _)) ?_
   refine sq_nil (aw_seq (aw_region ?_))
   refine sq_ev rfl (ev_mv (v := .raw _) (lr _)) ?_
   refine sq_ev rfl (ev_as (v := .raw _) (lr _)) ?_
   refine sq_nil (aw_ret ?_)
   exact retQ_pure (v := .raw _) rfl rfl (Less.eq (by rw [sceneL, if_neg (by omega)]; simp))
  ·
   have c2' := c2
   try simp only [qq1, qq2, qq3, qq4, qq5, qq6, qq7, qq8, qq9, qq10, qq11, qq12, qq13] at c2'
   refine aw_skip (aw_seq (aw_region ?_))
   refine sq_ev rfl (ev_mv (v := .raw _) (lr _)) ?_
   refine sq_ev rfl (ev_as (v := .raw _) (lr _)) ?_
   refine sq_nil (aw_ret ?_)
   exact retQ_pure (v := .raw _) rfl rfl (Less.eq (by rw [sceneL, if_pos (by omega)]; simp))


end Go.Proofs.YtjghdbdiejaacaaGreatDoor

namespace Go.Proofs.YtjghdbdiejaacaaGreatDoor
open Go Go.Ab Ni
theorem bi169 : bldInfo Tryz.prog 169 = some ([.raw (.int .i64 0), .raw (.int .i64 0), .raw (.int .i64 0), .raw (.int .i64 0), .raw (.int .i64 0), .raw (.int .i64 0), .raw (.int .i64 0), .raw (.slice none 0 0)], true, [(0, 8)], 0) := by kernel_rfl
theorem bi172 : bldInfo Tryz.prog 172 = some ([.raw (.int .i64 0), .raw (.int .i64 0), .raw (.int .i64 0), .raw (.bool false), .raw (.int .i64 0)], true, [(0, 5)], 0) := by kernel_rfl
theorem bi173 : bldInfo Tryz.prog 173 = some ([.raw (.int .i64 0), .raw (.int .i64 0), .raw (.int .i64 0), .raw (.bool false), .raw (.int .i64 0)], true, [(0, 5)], 0) := by kernel_rfl
theorem en149 : Ent Tryz.prog 149 := Ent.of Tryz.func149 (by kernel_rfl) rfl
theorem ni169 : notIface Tryz.prog 169 = true := by kernel_rfl
theorem sf170 : SlFact Tryz.prog 170 175 1 16 := SlFact.of (by kernel_rfl)
theorem sl170 : slElem Tryz.prog 170 = some (175, 1) := by kernel_rfl
theorem ty175 : tySz Tryz.prog 175 = some (false, 1) := by kernel_rfl

/-- a plan of small numbers -/
structure SmP (p : Pl) : Prop where
  head : ∀ n ∈ headL p, -1000000 ≤ n ∧ n ≤ 1000000
  sc : ∀ x ∈ p.scenes, ∀ n ∈ toldL x, -1000000 ≤ n ∧ n ≤ 1000000
  len : p.scenes.length ≤ 1000
def rowsT (p : Pl) (k : Nat) : List (Option Sc) := none :: (p.scenes.take k).map some
def rowsL (p : Pl) : List (Option Sc) := rowsT p p.scenes.length
theorem rowsT_succ {p : Pl} {k : Nat} (h : k < p.scenes.length) : rowsT p (k + 1) = rowsT p k ++ [some p.scenes[k]] := by
  unfold rowsT; rw [map_take_succ _ h]; rfl
theorem rowsT_len {p : Pl} {k : Nat} (h : k ≤ p.scenes.length) : (rowsT p k).length = k + 1 := by simp [rowsT]; omega
theorem toldL_len (x : Sc) : (toldL x).length ≤ 4 := by unfold toldL; split <;> simp
theorem rowsL_mem {p : Pl} {r : Option Sc} (h : r ∈ rowsL p) : r = none ∨ ∃ x ∈ p.scenes, r = some x := by
  rcases List.mem_cons.1 h with h | h
  · exact .inl h
  · obtain ⟨x, hx, rfl⟩ := List.mem_map.1 h
    exact .inr ⟨x, List.mem_of_mem_take hx, rfl⟩
theorem nline_pure {p : Pl} (sm : SmP p) {r : Option Sc} (h : r ∈ rowsL p) : APure Tryz.prog 149 [rowV p r] (S (lineL p r)) := by
  rcases rowsL_mem h with rfl | ⟨x, hx, rfl⟩
  · exact nlineH_pure p sm.head
  · cases hl : x.loose with
    | true =>
      have := nlineB_pure x (sm.sc x hx) (toldL_len x)
      simpa only [rowV, lineL, hl, if_true, sceneL] using this
    | false =>
      have := nlineS_pure x (sm.sc x hx) (toldL_len x)
      simpa only [rowV, lineL, hl, Bool.false_eq_true, if_false, sceneL] using this
def linesL (p : Pl) : List (List UInt8) := (rowsL p).map (lineL p)
theorem numsL_len' (l : List Int) (hb : ∀ n ∈ l, -1000000 ≤ n ∧ n ≤ 1000000) : (numsL l).length ≤ 9 * l.length := by
  have := numsL_len l l.length hb; rwa [List.take_length] at this
theorem lineL_len {p : Pl} (sm : SmP p) : ∀ l ∈ linesL p, l.length ≤ 1000 := fun l hl => by
  obtain ⟨r, hr, rfl⟩ := List.mem_map.1 hl
  rcases rowsL_mem hr with rfl | ⟨x, hx, rfl⟩
  · have h1 := numsL_len' _ sm.head
    have h2 : (headL p).length = 7 := headT_len p 3
    simp only [lineL, List.length_append]
    have : wNight.length = 5 := rfl
    omega
  · have h1 := numsL_len' _ (sm.sc x hx)
    have h2 := toldL_len x
    simp only [lineL, List.length_append]
    have h3 : (if x.loose = true then wBattle else wScene).length ≤ 6 := by split <;> decide
    have h4 : (if 0 ≤ x.wants then ([] : List UInt8) else [32, 45]).length ≤ 2 := by split <;> decide
    omega
def sheetL (p : Pl) : List UInt8 := sealL (linesL p)
theorem inE_rows (n : Nat) (p : Pl) (l : List (Option Sc)) : AV.inE n (l.map fun r => [rowV p r]) = true := inE_map fun x _ => by cases x <;> simp [rowV, AV.inL, AV.inB, inE_sc]
set_option maxHeartbeats 2000000 in
/-- kelir/night.sheet -/
theorem nsheet_pure (p : Pl) (sm : SmP p) : APure Tryz.prog 112 [plan p] (S (sheetL p)) := by
  refine apure_of (rs := [.tmp 2]) Tryz.func112 rfl rfl (Nat.le_of_ble_eq_true rfl) (by simp [AV.pureL, AV.pureB, AV.pureE, pureE_map]) (rfl) fun e0 he0 => ?_
  refine aw_seq (aw_region ?_)
  refine sq_box rfl (lr _) rfl ?_
  refine sq_ev rfl (ev_as (v := .raw _) (lr _)) ?_
  refine sq_nil (aw_seq (aw_region ?_))
  refine sq_ev rfl (ev_load_agg (lr _) rfl ty27 rfl) ?_
  refine sq_ev rfl (ev_build bi169 rfl) ?_
  refine sq_ev rfl (ev_makeIface ni169 (lr _)) ?_
  refine sq_ev rfl (ev_buildSlice (es := [[_]]) sf170 rfl rfl rfl rfl) ?_
  refine sq_ev rfl (ev_as (v := .slx _ _) (lr _)) ?_
  refine sq_nil (aw_seq (aw_seq (aw_region ?_)))
  refine sq_ev rfl (ev_fieldAddr fo27_3 (lr _)) ?_
  refine sq_ev rfl (ev_load (lr _) rfl ty25 rfl) ?_
  refine sq_ev rfl (ev_len_map sl25 (lr _)) ?_
  refine sq_ev rfl (ev_mv (v := .raw _) (lr _)) ?_
  refine sq_nil (aw_block ?_)
  refine aw_sub (sub_token_slx 3 1 (lr _)) ?_
  refine aw_loopk (ι := { k : Nat // k ≤ p.scenes.length }) [17, 18] (fun i => [(19, I i.1), (3, .own 1 1 ((rowsT p i.1).map fun r => [rowV p r]))]) (fun H i => H.set 1 (.tok ((rowsT p i.1).map fun r => [rowV p r]).length)) (fun i => p.scenes.length - i.1) (⟨0, Nat.zero_le _⟩) ⟨lr _, lr _, lr _, lr _, trivial⟩ rfl ?_
  rintro ⟨k, hk⟩
  dsimp only [keepS, St.put, sget, slotsOf, List.map_cons, List.map_nil, List.cons_append, List.nil_append, List.length_cons, List.length_nil, Nat.reduceBEq, Nat.reduceAdd, cond_true, cond_false]
  have hrl := rowsT_len hk
  have hsl := sm.len
  refine aw_seq (aw_region ?_)
  refine sq_ev rfl (ev_lss (lr _) (lr _)) ?_
  refine sq_nil (aw_seq ?_)
  refine aw_cond (lr _) (fun c1 => ?_) (fun c1 => ?_)
  · skip
    have c1' := c1
    try simp only [qq1, qq2, qq3, qq4, qq5, qq6, qq7, qq8, qq9, qq10, qq11, qq12, qq13] at c1'
    have hk' : k < p.scenes.length := by omega
    refine aw_skip (aw_seq (aw_block (aw_seq (aw_region ?_))))
    refine sq_ev rfl (ev_index_map sl25 (lr _) (lr _) rfl (by omega)) ?_
    refine sq_ev rfl (ev_load_agg_i (lr _) ty84 (Nat.le_of_ble_eq_true rfl)) ?_
    refine sq_alloc rfl z84 ?_
    refine sq_store rfl (lr _) (lr _) rfl rfl ty84 rfl rfl ?_
    refine sq_nil (aw_seq (aw_region ?_))
    refine sq_ev rfl (ev_fieldAddr fo84_3 (lr _)) ?_
    refine sq_ev rfl (ev_load (lr _) rfl ty4 rfl) ?_
    refine sq_nil ?_
    refine aw_cond (lr _) (fun c2 => ?_) (fun c2 => ?_)
    · skip
      have c2' := c2
      try simp only [qq1, qq2, qq3, qq4, qq5, qq6, qq7, qq8, qq9, qq10, qq11, qq12, qq13] at c2'
      have eS : (rowsT p (k + 1)).map (fun r => [rowV p r]) = (rowsT p k).map (fun r => [rowV p r]) ++ [[.ifc 172 (.agg (sc p.scenes[k]))]] := by rw [rowsT_succ hk', List.map_append]; simp [rowV, c2']
      refine aw_region ?_
      refine sq_ev rfl (ev_mv (v := .own _ _ _) (lr _)) ?_
      refine sq_ev rfl (ev_load_agg (lr _) rfl ty84 rfl) ?_
      refine sq_ev rfl (ev_build bi172 rfl) ?_
      refine sq_ev rfl (ev_makeIface ni172 (lr _)) ?_
      refine sq_ev rfl (ev_buildSlice (es := [[_]]) sf170 rfl rfl rfl rfl) ?_
      refine sq_append rfl sf170 Tryz.underlying170 rfl rfl (less_slx _ _) (Nat.succ_pos _) (by simp; omega) (by simp; omega) ?_
      refine sq_ev rfl (ev_as (v := .own _ _ _) (lr _)) ?_
      refine sq_nil (aw_region ?_)
      refine sq_ev rfl (ev_add (lr _) (lr _) (wr (by omega) (by omega))) ?_
      refine sq_ev rfl (ev_mv (v := .raw _) (lr _)) ?_
      refine sq_nil ?_
      exact ⟨⟨k + 1, by omega⟩, by simp only; omega, Sub.fin 2 ⟨lr _, Less.eq (b := .own 1 1 ((rowsT p (k + 1)).map fun r => [rowV p r])) (by rw [eS] <;> rfl), lr _, lr _, trivial⟩ (congrArg (fun n => [_, AObj.tok n]) (congrArg List.length eS.symm)) (by simp [slotsIn, objsIn, sget, keepS, AObj.inB, AV.inB, AV.inL, AV.inE, inE_map, inE_rows, inE_sc, -List.map_append, -List.map_take, -List.map_map]) (by simp [slotsIn, objsIn, sget, keepS, AObj.inB, AV.inB, AV.inL, AV.inE, inE_map, inE_rows, inE_sc, -List.map_append, -List.map_take, -List.map_map]) (by simp [he0])⟩
    · skip
      have c2' := c2
      try simp only [qq1, qq2, qq3, qq4, qq5, qq6, qq7, qq8, qq9, qq10, qq11, qq12, qq13] at c2'
      have eS : (rowsT p (k + 1)).map (fun r => [rowV p r]) = (rowsT p k).map (fun r => [rowV p r]) ++ [[.ifc 173 (.agg (sc p.scenes[k]))]] := by rw [rowsT_succ hk', List.map_append]; simp [rowV, c2']
      refine aw_region ?_
      refine sq_ev rfl (ev_mv (v := .own _ _ _) (lr _)) ?_
      refine sq_ev rfl (ev_load_agg (lr _) rfl ty84 rfl) ?_
      refine sq_ev rfl (ev_build bi173 rfl) ?_
      refine sq_ev rfl (ev_makeIface ni173 (lr _)) ?_
      refine sq_ev rfl (ev_buildSlice (es := [[_]]) sf170 rfl rfl rfl rfl) ?_
      refine sq_append rfl sf170 Tryz.underlying170 rfl rfl (less_slx _ _) (Nat.succ_pos _) (by simp; omega) (by simp; omega) ?_
      refine sq_ev rfl (ev_as (v := .own _ _ _) (lr _)) ?_
      refine sq_nil (aw_region ?_)
      refine sq_ev rfl (ev_add (lr _) (lr _) (wr (by omega) (by omega))) ?_
      refine sq_ev rfl (ev_mv (v := .raw _) (lr _)) ?_
      refine sq_nil ?_
      exact ⟨⟨k + 1, by omega⟩, by simp only; omega, Sub.fin 2 ⟨lr _, Less.eq (b := .own 1 1 ((rowsT p (k + 1)).map fun r => [rowV p r])) (by rw [eS] <;> rfl), lr _, lr _, trivial⟩ (congrArg (fun n => [_, AObj.tok n]) (congrArg List.length eS.symm)) (by simp [slotsIn, objsIn, sget, keepS, AObj.inB, AV.inB, AV.inL, AV.inE, inE_map, inE_rows, inE_sc, -List.map_append, -List.map_take, -List.map_map]) (by simp [slotsIn, objsIn, sget, keepS, AObj.inB, AV.inB, AV.inL, AV.inE, inE_map, inE_rows, inE_sc, -List.map_append, -List.map_take, -List.map_map]) (by simp [he0])⟩
  · skip
    have c1' := c1
    try simp only [qq1, qq2, qq3, qq4, qq5, qq6, qq7, qq8, qq9, qq10, qq11, qq12, qq13] at c1'
    obtain rfl : k = p.scenes.length := by omega
    have hll0 : (linesL p).length = (rowsL p).length := by simp [linesL]
    have hrl2 : (rowsL p).length = p.scenes.length + 1 := rowsT_len (Nat.le_refl _)
    refine aw_exit (aw_seq (aw_region ?_))
    refine sq_ev rfl (ev_as (v := .raw _) (lr _)) ?_
    refine sq_ev rfl (ev_as (v := .raw _) (lr _)) ?_
    refine sq_nil (aw_seq (aw_seq (aw_region ?_)))
    refine sq_ev rfl (ev_mv (v := .own _ _ _) (lr _)) ?_
    refine sq_ev rfl (ev_len_map sl170 (less_own _ _ _)) ?_
    refine sq_ev rfl (ev_mv (v := .raw _) (lr _)) ?_
    refine sq_nil (aw_block ?_)
    have hfull : rowsT p p.scenes.length = rowsL p := rfl
    rw [hfull]
    refine aw_loopk (ι := { i : Nat // i ≤ (rowsL p).length }) [38, 39] (fun i => [(40, I i.1), (6, S (outT (linesL p) i.1)), (7, I (ctT (linesL p) i.1))]) (fun H i => H) (fun i => (rowsL p).length - i.1) (⟨0, Nat.zero_le _⟩) ⟨lr _, lr _, lr _, lr _, lr _, trivial⟩ rfl ?_
    rintro ⟨i, hi⟩
    dsimp only [keepS, St.put, sget, slotsOf, List.map_cons, List.map_nil, List.cons_append, List.nil_append, List.length_cons, List.length_nil, Nat.reduceBEq, Nat.reduceAdd, cond_true, cond_false]
    have hol := outT_len (lineL_len sm) i (by omega)
    have hct := ctT_bd (by omega) (lineL_len sm) i (by omega)
    refine aw_seq (aw_region ?_)
    refine sq_ev rfl (ev_lss (lr _) (lr _)) ?_
    refine sq_nil (aw_seq ?_)
    refine aw_cond (lr _) (fun c3 => ?_) (fun c3 => ?_)
    · skip
      have c3' := c3
      try simp only [qq1, qq2, qq3, qq4, qq5, qq6, qq7, qq8, qq9, qq10, qq11, qq12, qq13] at c3'
      have hi2 : i < (rowsL p).length := by omega
      have hi3 : i < (linesL p).length := by omega
      have hll := lineL_len sm _ (List.getElem_mem hi3)
      have hle : (linesL p)[i] = lineL p (rowsL p)[i] := by simp [linesL]
      refine aw_skip (aw_seq (aw_block (aw_seq (aw_region ?_))))
      refine sq_ev rfl (ev_mv (v := .raw _) (lr _)) ?_
      refine sq_ev rfl (ev_index_map sl170 (less_own _ _ _) (lr _) rfl (by omega)) ?_
      refine sq_ev rfl (ev_load_i (lr _) ty175 rfl) ?_
      refine sq_ev rfl (ev_as (v := .raw _) (lr _)) ?_
      refine sq_ev rfl (ev_as (v := rowV p _) (lr _)) ?_
      refine sq_nil (aw_seq (aw_region ?_))
      refine sq_ev rfl (ev_mv (v := rowV p _) (lr _)) ?_
      refine sq_ev rfl (ev_less (ev_call en149 (lr _) (nline_pure sm (List.getElem_mem hi2)) ⟨lr _, trivial⟩) (Less.eq (b := S (linesL p)[i]) (by rw [hle]))) ?_
      refine sq_ev rfl (ev_as (v := .raw _) (lr _)) ?_
      refine sq_nil (aw_seq (aw_seq (aw_region ?_)))
      refine sq_ev rfl (ev_mv (v := .raw _) (lr _)) ?_
      refine sq_ev rfl (ev_lenS Tryz.underlying9 (lr _)) ?_
      refine sq_ev rfl (ev_mv (v := .raw _) (lr _)) ?_
      refine sq_nil (aw_block ?_)
      refine aw_loopk (ι := { k : Nat // k ≤ (linesL p)[i].length }) [6, 8, 10, 38, 39, 40, 48] (fun k => [(49, I k.1), (7, I (ctT (linesL p) i + csT ((i : Int) + 1) (linesL p)[i] k.1))]) (fun H k => H) (fun k => (linesL p)[i].length - k.1) (⟨0, Nat.zero_le _⟩) ⟨lr _, (by exact less_int (by simp [csT])), lr _, lr _, lr _, lr _, lr _, lr _, lr _, trivial⟩ rfl ?_
      rintro ⟨k, hk⟩
      dsimp only [keepS, St.put, sget, slotsOf, List.map_cons, List.map_nil, List.cons_append, List.nil_append, List.length_cons, List.length_nil, Nat.reduceBEq, Nat.reduceAdd, cond_true, cond_false]
      have hcs := csT_bd (m := (i : Int) + 1) ⟨by omega, by omega⟩ (linesL p)[i] k hk hll
      refine aw_seq (aw_region ?_)
      refine sq_ev rfl (ev_lss (lr _) (lr _)) ?_
      refine sq_nil (aw_seq ?_)
      refine aw_cond (lr _) (fun c4 => ?_) (fun c4 => ?_)
      · skip
        have c4' := c4
        try simp only [qq1, qq2, qq3, qq4, qq5, qq6, qq7, qq8, qq9, qq10, qq11, qq12, qq13] at c4'
        have hk' : k < (linesL p)[i].length := by omega
        have htb := term_bd (b := (linesL p)[i][k]) (j := k) (m := (i : Int) + 1) (by omega) ⟨by omega, by omega⟩
        have hb8 : ((linesL p)[i][k]).toNat < 256 := UInt8.toNat_lt _
        have eK : ctT (linesL p) i + csT ((i : Int) + 1) (linesL p)[i] k + ((linesL p)[i][k].toNat : Int) * ((k : Int) + 1) * ((i : Int) + 1) = ctT (linesL p) i + csT ((i : Int) + 1) (linesL p)[i] (k + 1) := by rw [csT_succ _ hk']; omega
        refine aw_skip (aw_seq (aw_block (aw_seq (aw_region ?_))))
        refine sq_ev rfl (ev_mv (v := .raw _) (lr _)) ?_
        refine sq_ev rfl (ev_as (v := .raw _) (lr _)) ?_
        refine sq_nil (aw_region ?_)
        refine sq_ev rfl (ev_mv (v := .raw _) (lr _)) ?_
        refine sq_ev rfl (ev_mv (v := .raw _) (lr _)) ?_
        refine sq_ev rfl (ev_mv (v := .raw _) (lr _)) ?_
        refine sq_ev rfl (ev_idxS Tryz.underlying9 (lr _) (lr _) rfl (by omega)) ?_
        refine sq_ev rfl (ev_conv_int Tryz.underlying5 Tryz.underlying3 (lr _) (wr (by omega) (by omega))) ?_
        refine sq_ev rfl (ev_mv (v := .raw _) (lr _)) ?_
        refine sq_ev rfl (ev_add (lr _) (lr _) (wr (by omega) (by omega))) ?_
        refine sq_ev rfl (ev_mul (lr _) (lr _) (wr (by omega) (by omega))) ?_
        refine sq_ev rfl (ev_mv (v := .raw _) (lr _)) ?_
        refine sq_ev rfl (ev_add (lr _) (lr _) (wr (by omega) (by omega))) ?_
        refine sq_ev rfl (ev_mul (lr _) (lr _) (wr (by omega) (by omega))) ?_
        refine sq_ev rfl (ev_add (lr _) (lr _) (wr (by omega) (by omega))) ?_
        refine sq_ev rfl (ev_as (v := .raw _) (lr _)) ?_
        refine sq_nil (aw_region ?_)
        refine sq_ev rfl (ev_add (lr _) (lr _) (wr (by omega) (by omega))) ?_
        refine sq_ev rfl (ev_mv (v := .raw _) (lr _)) ?_
        refine sq_nil ?_
        exact ⟨⟨k + 1, by omega⟩, by simp only; omega, Sub.slots ⟨lr _, (by exact less_int eK), lr _, lr _, lr _, lr _, lr _, lr _, lr _, trivial⟩⟩
      · skip
        have c4' := c4
        try simp only [qq1, qq2, qq3, qq4, qq5, qq6, qq7, qq8, qq9, qq10, qq11, qq12, qq13] at c4'
        obtain rfl : k = (linesL p)[i].length := by omega
        have eO : S (outT (linesL p) i ++ ((linesL p)[i] ++ [10])) = S (outT (linesL p) (i + 1)) := by rw [outT_succ hi3]
        have eC : ctT (linesL p) i + csT ((i : Int) + 1) (linesL p)[i] (linesL p)[i].length = ctT (linesL p) (i + 1) := by rw [ctT_succ hi3]; rfl
        refine aw_exit (aw_region ?_)
        refine sq_ev rfl (ev_mv (v := .raw _) (lr _)) ?_
        refine sq_ev rfl (ev_mv (v := .raw _) (lr _)) ?_
        refine sq_ev rfl (ev_catS (lr _) (lr _) (by simp; omega)) ?_
        refine sq_ev rfl (ev_catS (lr _) (lr _) (by simp; omega)) ?_
        refine sq_ev rfl (ev_as (v := .raw _) (lr _)) ?_
        refine sq_nil (aw_region ?_)
        refine sq_ev rfl (ev_add (lr _) (lr _) (wr (by omega) (by omega))) ?_
        refine sq_ev rfl (ev_mv (v := .raw _) (lr _)) ?_
        refine sq_nil ?_
        exact ⟨⟨i + 1, by omega⟩, by simp only; omega, Sub.slots ⟨lr _, Less.eq eO, (by exact less_int eC), lr _, lr _, trivial⟩⟩
    · skip
      have c3' := c3
      try simp only [qq1, qq2, qq3, qq4, qq5, qq6, qq7, qq8, qq9, qq10, qq11, qq12, qq13] at c3'
      obtain rfl : i = (rowsL p).length := by omega
      refine aw_exit (aw_seq (aw_region ?_))
      refine sq_ev rfl (ev_mv (v := .raw _) (lr _)) ?_
      refine sq_ev rfl (ev_less (ev_rem (lr _) (lr _) (by decide)) (less_int (Int.tmod_eq_emod_of_nonneg (by omega)))) ?_
      refine sq_ev rfl (ev_as (v := .raw _) (lr _)) ?_
      refine sq_nil (aw_seq ?_)
      have i1 := itoa_len (n := ctT (linesL p) (rowsL p).length % 181 / 100) ⟨by omega, by omega⟩
      have i2 := itoa_len (n := ctT (linesL p) (rowsL p).length % 181 / 10 % 10) ⟨by omega, by omega⟩
      have i3 := itoa_len (n := ctT (linesL p) (rowsL p).length % 181 % 10) ⟨by omega, by omega⟩
      refine aw_region ?_
      refine sq_ev rfl (ev_mv (v := .raw _) (lr _)) ?_
      refine sq_ev rfl (ev_catS (lr _) (lr _) (by simp; omega)) ?_
      refine sq_ev rfl (ev_mv (v := .raw _) (lr _)) ?_
      refine sq_ev rfl (ev_quo (q := ctT (linesL p) (rowsL p).length % 181 / 100) (lr _) (lr _) (by decide) (qd (by omega) (by omega) (by decide))) ?_
      refine sq_ev rfl (ev_call en150 (lr _) (nitoa_pure _ (by omega) (by omega)) ⟨lr _, trivial⟩) ?_
      refine sq_ev rfl (ev_catS (lr _) (lr _) (by simp; omega)) ?_
      refine sq_ev rfl (ev_mv (v := .raw _) (lr _)) ?_
      refine sq_ev rfl (ev_quo (q := ctT (linesL p) (rowsL p).length % 181 / 10) (lr _) (lr _) (by decide) (qd (by omega) (by omega) (by decide))) ?_
      refine sq_ev rfl (ev_less (ev_rem (lr _) (lr _) (by decide)) (less_int (Int.tmod_eq_emod_of_nonneg (by omega)))) ?_
      refine sq_ev rfl (ev_call en150 (lr _) (nitoa_pure _ (by omega) (by omega)) ⟨lr _, trivial⟩) ?_
      refine sq_ev rfl (ev_catS (lr _) (lr _) (by simp; omega)) ?_
      refine sq_ev rfl (ev_mv (v := .raw _) (lr _)) ?_
      refine sq_ev rfl (ev_less (ev_rem (lr _) (lr _) (by decide)) (less_int (Int.tmod_eq_emod_of_nonneg (by omega)))) ?_
      refine sq_ev rfl (ev_call en150 (lr _) (nitoa_pure _ (by omega) (by omega)) ⟨lr _, trivial⟩) ?_
      refine sq_ev rfl (ev_catS (lr _) (lr _) (by simp; omega)) ?_
      refine sq_ev rfl (ev_catS (lr _) (lr _) (by simp; omega)) ?_
      refine sq_ev rfl (ev_as (v := .raw _) (lr _)) ?_
      refine sq_nil (aw_ret ?_)
      exact retQ_pure (v := .raw _) rfl rfl (Less.eq (by simp [sheetL, sealL, digs3, hll0]))


end Go.Proofs.YtjghdbdiejaacaaGreatDoor

namespace Go.Proofs.YtjghdbdiejaacaaGreatDoor
open Go Go.Ab Ni
theorem bi24 : bldInfo Tryz.prog 24 = some ([.raw (.int .i64 0), .raw (.int .i64 0), .raw (.int .i64 0), .raw (.int .i64 0)], false, [], 2) := by kernel_rfl
theorem bi27 : bldInfo Tryz.prog 27 = some ([.raw (.int .i64 0), .raw (.int .i64 0), .raw (.int .i64 0), .raw (.int .i64 0), .raw (.int .i64 0), .raw (.int .i64 0), .raw (.int .i64 0), .raw (.slice none 0 0)], true, [(0, 1), (1, 4), (5, 2), (7, 1)], 0) := by kernel_rfl
theorem bi84 : bldInfo Tryz.prog 84 = some ([.raw (.int .i64 0), .raw (.int .i64 0), .raw (.int .i64 0), .raw (.bool false), .raw (.int .i64 0)], true, [(0, 1), (1, 1), (2, 1), (3, 1), (4, 1)], 0) := by kernel_rfl
theorem en112 : Ent Tryz.prog 112 := Ent.of Tryz.func112 (by kernel_rfl) rfl
theorem en153 : Ent Tryz.prog 153 := Ent.of Tryz.func153 (by kernel_rfl) rfl
theorem sl138 : slElem Tryz.prog 138 = some (9, 1) := by kernel_rfl

def numV (w : List UInt8) : AV := match numOf w with | some n => I n | none => bot
theorem numV_some {w : List UInt8} {n : Int} (h : numOf w = some n) : numV w = I n := by simp [numV, h]
theorem numV_none {w : List UInt8} (h : numOf w = none) : numV w = bot := by simp [numV, h]
theorem numOf_val {w : List UInt8} {n : Int} (h : numOf w = some n) : n = valN w := by
  unfold numOf at h; split at h
  · exact (Option.some.inj h).symm
  · cases h
theorem num_pure {w : List UInt8} {n : Int} (h : numOf w = some n) (hw : w.length ≤ 1000000) : APure Tryz.prog 153 [S w] (I n) :=
  (nnumber_pan w hw).pure (by simp [AV.pureL, AV.pureB, AV.pureE, pureE_map]) rfl fun x hx => by unfold numR at hx; rw [h] at hx; exact ⟨_, hx, lr _⟩
theorem numR_ret {w : List UInt8} {v : AV} (h : numR w (.ret v)) : numOf w = some (valN w) ∧ v = I (valN w) := by
  unfold numR at h
  cases hn : numOf w with
  | none => rw [hn] at h; cases h
  | some n => rw [hn] at h; cases h; exact ⟨by rw [numOf_val hn], by rw [numOf_val hn]⟩
theorem numR_pan {w : List UInt8} {v : AV} (h : numR w (.pan v)) : numOf w = none ∧ v = .ifc 167 (.agg [S w]) := by
  unfold numR at h
  cases hn : numOf w with
  | none => rw [hn] at h; cases h; exact ⟨rfl, rfl⟩
  | some n => rw [hn] at h; cases h
/-- a number that is read, in a region that draws its order -/
theorem dc_num {r : Option Nat} {nt : Nat} {e0 : Env} {Hc : List AObj} {ops : Array Oper} {fs es : List Nat} {Q : AExit → St → Prop} {i : Nat} {rest : List Oper} {s : St} {d : Option Tmp} {t : TypeId} {p : String} {af : Array Edge} {x y : Operand} {ats : Array TypeId} {w : List UInt8}
    (hd : dOK nt d = true) (hx : Less (s.op x) (.fn (.func 153) [] [])) (hy : Less (s.op y) (S w)) (hw : w.length ≤ 1000000) (hq : ∀ s' : St, numOf w = none → s'.df = s.df → Q (.panic (.ifc 167 (.agg [S w]))) s')
    (k : DC ⟨Tryz.prog, r, nt, e0⟩ Hc ops fs es Q (i + 1) rest (s.put d (numV w))) : DC ⟨Tryz.prog, r, nt, e0⟩ Hc ops fs es Q i (⟨d, .call ⟨.value x, #[y], ats⟩, t, p, af, none⟩ :: rest) s := by
  cases h : numOf w with
  | some n =>
    rw [numV_some h] at k
    exact dc_ev hd (ev_call (args := [S w]) en153 hx (num_pure h hw) (show LessL [s.op y] [S w] from ⟨hy, trivial⟩)) k
  | none =>
    rw [numV_none h] at k
    exact dc_pan hd (pan_call (args := [S w]) en153 hx (show LessL [s.op y] [S w] from ⟨hy, trivial⟩) (nnumber_pan w hw) (fun v hv => by have := (numR_ret hv).1; rw [h] at this; cases this) (fun v s' hv hdf => by rw [(numR_pan hv).2]; exact hq s' h hdf)) k
/-- a sheet, read -/
def parse0 (s : List UInt8) : Option Pl := match cut 10 s with
  | r0 :: rs => if rs.length < 2 then none else match cut 32 r0 with
    | _ :: ws => if ws.length = 7 then (match numsOf ws, rowsSc (rs.take (rs.length - 2)) with
      | some ns, some l => some (headOf ns l)
      | _, _ => none) else none
    | [] => none
  | [] => none
def parseL (s : List UInt8) : Option Pl := match parse0 s with
  | some p => if sheetL p = s then some p else none
  | none => none
def parsR (s : List UInt8) (x : ARes) : Prop := match parseL s with
  | some p => x = .ret (plan p)
  | none => ∃ w, x = .pan (.ifc 167 (.agg [S w]))
theorem parsR_none {s : List UInt8} (h : parseL s = none) (w : List UInt8) : parsR s (.pan (.ifc 167 (.agg [S w]))) := by unfold parsR; rw [h]; exact ⟨w, rfl⟩
theorem parsR_some {s : List UInt8} {p : Pl} (h : parseL s = some p) : parsR s (.ret (plan p)) := by unfold parsR; rw [h]
theorem parse_none {s : List UInt8} (h : parse0 s = none) : parseL s = none := by unfold parseL; rw [h]
theorem parse_rows {s r0 : List UInt8} {rs : List (List UInt8)} (h : cut 10 s = r0 :: rs) (h2 : rs.length < 2) : parseL s = none := parse_none (by unfold parse0; rw [h]; simp only; rw [if_pos h2])
theorem parse_head {s r0 : List UInt8} {rs : List (List UInt8)} (h : cut 10 s = r0 :: rs) (h2 : (cut 32 r0).length ≠ 8) : parseL s = none := parse_none (by
  unfold parse0; rw [h]; simp only
  split
  · rfl
  · split
    · rename_i ws hw; rw [hw] at h2; rw [if_neg (by simp at h2; exact h2)]
    · rfl)
theorem parse_nums {s r0 w0 : List UInt8} {rs ws : List (List UInt8)} (h : cut 10 s = r0 :: rs) (hw : cut 32 r0 = w0 :: ws) (hn : numsOf ws = none) : parseL s = none := parse_none (by
  unfold parse0; rw [h]; simp only
  split
  · rfl
  · rw [hw]; simp only
    split
    · rw [hn]
    · rfl)
theorem parse_scs {s r0 : List UInt8} {rs : List (List UInt8)} (h : cut 10 s = r0 :: rs) (hn : rowsSc (rs.take (rs.length - 2)) = none) : parseL s = none := parse_none (by
  unfold parse0; rw [h]; simp only
  split
  · rfl
  · split
    · split
      · rw [hn]; cases numsOf _ <;> rfl
      · rfl
    · rfl)
theorem parse_all {s r0 w0 : List UInt8} {rs ws : List (List UInt8)} {ns : List Int} {l : List Sc} (h : cut 10 s = r0 :: rs) (h2 : ¬ rs.length < 2) (hw : cut 32 r0 = w0 :: ws) (h7 : ws.length = 7) (hn : numsOf ws = some ns) (hl : rowsSc (rs.take (rs.length - 2)) = some l) : parse0 s = some (headOf ns l) := by
  unfold parse0; rw [h]; simp only
  rw [if_neg h2, hw]; simp only
  rw [if_pos h7, hn, hl]
theorem rowSc_len {r : List UInt8} (h : (cut 32 r).length ≠ 5) : rowSc r = none := by
  unfold rowSc; split
  · rename_i hw; rw [hw] at h; exact absurd rfl h
  · rfl
theorem rowSc_1 {r w0 w1 w2 w3 w4 : List UInt8} (h : cut 32 r = [w0, w1, w2, w3, w4]) (hn : numOf w1 = none) : rowSc r = none := by unfold rowSc; rw [h]; simp only; rw [hn]
theorem rowSc_2 {r w0 w1 w2 w3 w4 : List UInt8} (h : cut 32 r = [w0, w1, w2, w3, w4]) (hn : numOf w2 = none) : rowSc r = none := by unfold rowSc; rw [h]; simp only; rw [hn]; cases numOf w1 <;> rfl
theorem rowSc_3 {r w0 w1 w2 w3 w4 : List UInt8} (h : cut 32 r = [w0, w1, w2, w3, w4]) (hn : numOf w3 = none) : rowSc r = none := by unfold rowSc; rw [h]; simp only; rw [hn]; cases numOf w1 <;> cases numOf w2 <;> rfl
theorem rowSc_yes {r w0 w1 w2 w3 w4 : List UInt8} {a b c d : Int} (h : cut 32 r = [w0, w1, w2, w3, w4]) (h1 : numOf w1 = some a) (h2 : numOf w2 = some b) (h3 : numOf w3 = some c) (h4 : (if w4 = [45] then some (-1) else numOf w4) = some d) :
    rowSc r = some ⟨a, b, c, decide (w0 = wBattle), d⟩ := by unfold rowSc; rw [h]; simp only; rw [h1, h2, h3, h4]; rfl
theorem num_cases (w : List UInt8) : (∃ n, numOf w = some n) ∨ numOf w = none := by cases h : numOf w <;> simp
theorem okq {mids : List (List UInt8)} {q : List Sc} {x : Sc} {r : List UInt8} (hok : ∀ i, (h : i < q.length) → (h2 : i < mids.length) → rowSc mids[i] = some q[i]) {hk : q.length < mids.length} (hr : mids[q.length] = r) (hx : rowSc r = some x) :
    ∀ i, (h : i < (q ++ [x]).length) → (h2 : i < mids.length) → rowSc mids[i] = some (q ++ [x])[i] := by
  intro i h h2
  by_cases e : i < q.length
  · rw [List.getElem_append_left e]; exact hok i e h2
  · have : i = q.length := by simp at h; omega
    subst this
    rw [hr, hx]; simp
theorem rowSc_4 {r w0 w1 w2 w3 w4 : List UInt8} (h : cut 32 r = [w0, w1, w2, w3, w4]) (h4 : w4 ≠ [45]) (hn : numOf w4 = none) : rowSc r = none := by unfold rowSc; rw [h]; simp only; rw [if_neg h4, hn]; cases numOf w1 <;> cases numOf w2 <;> cases numOf w3 <;> rfl
theorem cells_numV (w : List UInt8) : (numV w).cells = some [numV w] := by unfold numV; split <;> rfl
theorem numB {z0 z1 z2 z3 z4 a b c d e : AV} (ha : a.cells = some [a]) (hb : b.cells = some [b]) (hc : c.cells = some [c]) (hd : d.cells = some [d]) (he : e.cells = some [e]) :
    afill (bldPlace true [(0, 1), (1, 1), (2, 1), (3, 1), (4, 1)] 0) [z0, z1, z2, z3, z4] [(0, a), (1, b), (2, c), (3, d), (4, e)] = some [a, b, c, d, e] := by
  simp [afill, bldPlace, ha, hb, hc, hd, he]; rfl
theorem rowSc_bd {r : List UInt8} {x : Sc} (h : rowSc r = some x) : (0 ≤ x.part ∧ x.part ≤ 999) ∧ (0 ≤ x.least ∧ x.least ≤ 999) ∧ (0 ≤ x.most ∧ x.most ≤ 999) ∧ (-1 ≤ x.wants ∧ x.wants ≤ 999) := by
  unfold rowSc at h
  split at h
  · split at h
    · rename_i a b c d h1 h2 h3 h4
      simp only [Option.some.injEq] at h; subst h
      refine ⟨numOf_bd h1, numOf_bd h2, numOf_bd h3, ?_⟩
      split at h4
      · simp only [Option.some.injEq] at h4; subst h4; simp
      · have := numOf_bd h4; simp only; omega
    · cases h
  · cases h
theorem smp_head {a1 a2 a3 a4 a5 a6 a7 : List UInt8} {q : List Sc} (hn : ∀ i (h : i < [a1, a2, a3, a4, a5, a6, a7].length), numOf [a1, a2, a3, a4, a5, a6, a7][i] = some (valN [a1, a2, a3, a4, a5, a6, a7][i])) (hq : q.length ≤ 1000)
    (hs : ∀ x ∈ q, ∃ r, rowSc r = some x) : SmP (headOf [valN a1, valN a2, valN a3, valN a4, valN a5, valN a6, valN a7] q) := by
  have b1 := numOf_bd (hn 0 (by simp)); have b2 := numOf_bd (hn 1 (by simp)); have b3 := numOf_bd (hn 2 (by simp)); have b4 := numOf_bd (hn 3 (by simp))
  have b5 := numOf_bd (hn 4 (by simp)); have b6 := numOf_bd (hn 5 (by simp)); have b7 := numOf_bd (hn 6 (by simp))
  simp only [List.getElem_cons_zero, List.getElem_cons_succ] at b1 b2 b3 b4 b5 b6 b7
  refine ⟨fun n h => ?_, fun x hx n h => ?_, hq⟩
  · have : headL (headOf [valN a1, valN a2, valN a3, valN a4, valN a5, valN a6, valN a7] q) = [valN a1, valN a2, valN a3, valN a4, valN a5, valN a6, valN a7] := rfl
    rw [this] at h
    simp only [List.mem_cons, List.not_mem_nil, or_false] at h
    rcases h with rfl | rfl | rfl | rfl | rfl | rfl | rfl <;> omega
  · obtain ⟨r, hr⟩ := hs x hx
    obtain ⟨c1, c2, c3, c4⟩ := rowSc_bd hr
    unfold toldL at h
    rcases List.mem_append.1 h with h | h
    · simp only [List.mem_cons, List.not_mem_nil, or_false] at h
      rcases h with rfl | rfl | rfl <;> omega
    · split at h
      · simp only [List.mem_cons, List.not_mem_nil, or_false] at h; subst h; omega
      · simp at h
theorem midE {r0 : List UInt8} {rs : List (List UInt8)} (f : List UInt8 → List AV) (h : 2 ≤ rs.length) : AV.sl 1 ((((r0 :: rs).map f).take ((r0 :: rs).length - 2)).drop 1) = .sl 1 ((rs.take (rs.length - 2)).map f) := by
  congr 1
  have e1 : (r0 :: rs).length - 2 = (rs.length - 2) + 1 := by simp; omega
  rw [e1]; simp [List.map_take]
theorem seven {α : Type} {l : List α} (h : l.length = 7) : ∃ a1 a2 a3 a4 a5 a6 a7, l = [a1, a2, a3, a4, a5, a6, a7] := by
  rcases l with _ | ⟨a1, _ | ⟨a2, _ | ⟨a3, _ | ⟨a4, _ | ⟨a5, _ | ⟨a6, _ | ⟨a7, _ | ⟨a8, l⟩⟩⟩⟩⟩⟩⟩⟩ <;> simp at h
  exact ⟨_, _, _, _, _, _, _, rfl⟩
theorem five {α : Type} {l : List α} (h : l.length = 5) : ∃ a1 a2 a3 a4 a5, l = [a1, a2, a3, a4, a5] := by
  rcases l with _ | ⟨a1, _ | ⟨a2, _ | ⟨a3, _ | ⟨a4, _ | ⟨a5, _ | ⟨a6, l⟩⟩⟩⟩⟩⟩ <;> simp at h
  exact ⟨_, _, _, _, _, rfl⟩
set_option maxHeartbeats 8000000 in
/-- kelir/night.parsed -/
theorem nparsed_pan (s : List UInt8) (hs : s.length ≤ 400) : APan Tryz.prog 114 [S s] (parsR s) := by
  refine APan.of_acall (by simp [AV.pureL, AV.pureB, AV.pureE, pureE_map]) (acall_of (rs := [.cell 2 27]) Tryz.func114 rfl rfl (Nat.le_of_ble_eq_true rfl) fun e0 he0 => ?_)
  refine aw_seq (aw_region ?_)
  refine sq_alloc rfl z27 ?_
  refine sq_nil (aw_seq (aw_region ?_))
  refine sq_ev rfl (ev_mv (v := .raw _) (lr _)) ?_
  refine sq_ev rfl (ev_call en151 (lr _) (nsplit_pure s 10 (by omega)) ⟨lr _, lr _, trivial⟩) ?_
  refine sq_ev rfl (ev_as (v := .sl _ _) (lr _)) ?_
  refine sq_nil (aw_seq ?_)
  generalize hR : cut 10 s = R
  have hRl := cut_len 10 s
  have hRm := cut_mem 10 s
  rw [hR] at hRl hRm
  obtain ⟨r0, rs, rfl⟩ : ∃ r0 rs, R = r0 :: rs := by cases R with | nil => simp at hRl | cons a l => exact ⟨a, l, rfl⟩
  refine aw_region ?_
  refine sq_ev rfl (ev_mv (v := .sl _ _) (lr _)) ?_
  refine sq_ev rfl (ev_len_map sl138 (lr _)) ?_
  refine sq_ev rfl (ev_geq (lr _) (lr _)) ?_
  refine sq_ev rfl (ev_mv (v := .raw _) (lr _)) ?_
  refine sq_call (args := [B _, S s]) rfl en152 (lr _) ⟨lr _, lr _, trivial⟩ (nsure_pan _ _ _) ?_ ?_
  rotate_left
  · (rintro v _ ⟨rfl, (⟨_, h⟩ | ⟨hb, h⟩)⟩ <;> cases h; exact ⟨rfl, .pan (.ifc 167 (.agg [S _])), parsR_none (parse_rows hR (by simp at hb; omega)) _, rfl, lr _⟩)
  rintro v _ ⟨rfl, (⟨hb1, h⟩ | ⟨_, h⟩)⟩ <;> cases h
  refine sq_nil (aw_seq ?_)
  have hr0 := hRm r0 (by simp)
  have hrs2 : 2 ≤ rs.length := by simp at hb1; omega
  have hrsl : rs.length ≤ s.length := by have h := hRl.1; rw [List.length_cons] at h; omega
  have hMl : (rs.take (rs.length - 2)).length ≤ rs.length := by rw [List.length_take]; omega
  refine aw_region ?_
  refine sq_ev rfl (ev_mv (v := .sl _ _) (lr _)) ?_
  refine sq_ev rfl (ev_index_map (k := 0) sl138 (lr _) (lr _) rfl (by simp)) ?_
  refine sq_ev rfl (ev_load_i (lr _) ty9 rfl) ?_
  refine sq_ev rfl (ev_call en151 (lr _) (nsplit_pure r0 32 (by omega)) ⟨lr _, lr _, trivial⟩) ?_
  refine sq_ev rfl (ev_as (v := .sl _ _) (lr _)) ?_
  refine sq_nil (aw_seq ?_)
  generalize hW : cut 32 r0 = W
  have hwl := cut_mem 32 r0
  rw [hW] at hwl
  refine aw_region ?_
  refine sq_ev rfl (ev_mv (v := .sl _ _) (lr _)) ?_
  refine sq_ev rfl (ev_len_map sl138 (lr _)) ?_
  refine sq_ev rfl (ev_eql (lr _) (lr _)) ?_
  refine sq_ev rfl (ev_mv (v := .raw _) (lr _)) ?_
  refine sq_call (args := [B _, S s]) rfl en152 (lr _) ⟨lr _, lr _, trivial⟩ (nsure_pan _ _ _) ?_ ?_
  rotate_left
  · (rintro v _ ⟨rfl, (⟨_, h⟩ | ⟨hb, h⟩)⟩ <;> cases h; exact ⟨rfl, .pan (.ifc 167 (.agg [S _])), parsR_none (parse_head hR (by rw [hW]; simp at hb; omega)) _, rfl, lr _⟩)
  rintro v _ ⟨rfl, (⟨hb2, h⟩ | ⟨_, h⟩)⟩ <;> cases h
  refine sq_nil (aw_seq ?_)
  obtain ⟨w0, ws, rfl⟩ : ∃ w0 ws, W = w0 :: ws := by cases W with | nil => simp at hb2 | cons a l => exact ⟨a, l, rfl⟩
  have hws7 : ws.length = 7 := by simp at hb2; omega
  have hWh := hW
  refine aw_region ?_
  refine sq_ev rfl (ev_as (v := .raw _) (lr _)) ?_
  refine sq_nil (aw_seq (aw_seq (aw_region ?_)))
  refine sq_ev rfl (ev_mv (v := .sl _ _) (lr _)) ?_
  refine sq_ev rfl (ev_less (ev_slice sl138 (lr _) (lr _) rfl (by simp) (by simp)) (Less.eq (b := .sl 1 (ws.map fun p => [S p])) (by simp [List.take_of_length_le]))) ?_
  refine sq_ev rfl (ev_len_map sl138 (lr _)) ?_
  refine sq_ev rfl (ev_mv (v := .raw _) (lr _)) ?_
  refine sq_nil (aw_block ?_)
  refine aw_sub (sub_token 5 1 (lr _)) ?_
  refine aw_loopk (ι := { k : Nat // k ≤ ws.length ∧ ∀ i, (h : i < ws.length) → i < k → numOf ws[i] = some (valN ws[i]) }) [0, 2, 3, 30, 31] (fun i => [(32, I i.1), (5, .own 1 1 (((ws.take i.1).map valN).map fun x => [I x]))]) (fun H i => H.set 1 (.tok (((ws.take i.1).map valN).map fun x => [I x]).length)) (fun i => ws.length - i.1) (⟨0, Nat.zero_le _, by omega⟩) ⟨lr _, lr _, lr _, lr _, lr _, lr _, lr _, trivial⟩ rfl ?_
  rintro ⟨k, hk, hok⟩
  dsimp only [keepS, St.put, sget, slotsOf, List.map_cons, List.map_nil, List.cons_append, List.nil_append, List.length_cons, List.length_nil, Nat.reduceBEq, Nat.reduceAdd, cond_true, cond_false]
  refine aw_seq (aw_region ?_)
  refine sq_ev rfl (ev_lss (lr _) (lr _)) ?_
  refine sq_nil (aw_seq ?_)
  refine aw_cond (lr _) (fun c1 => ?_) (fun c1 => ?_)
  · skip
    have c1' := c1
    try simp only [qq1, qq2, qq3, qq4, qq5, qq6, qq7, qq8, qq9, qq10, qq11, qq12, qq13] at c1'
    have hk' : k < ws.length := by omega
    have eS : ((ws.take (k + 1)).map valN).map (fun x => [I x]) = ((ws.take k).map valN).map (fun x => [I x]) ++ [[I (valN ws[k])]] := by rw [map_take_succ _ hk', List.map_append]; rfl
    refine aw_skip (aw_seq (aw_block (aw_seq (aw_region ?_))))
    refine sq_ev rfl (ev_index_map sl138 (lr _) (lr _) rfl (by omega)) ?_
    refine sq_ev rfl (ev_load_i (lr _) ty9 rfl) ?_
    refine sq_ev rfl (ev_as (v := .raw _) (lr _)) ?_
    refine sq_nil (aw_region ?_)
    refine sq_ev rfl (ev_mv (v := .own _ _ _) (lr _)) ?_
    refine sq_ev rfl (ev_mv (v := .raw _) (lr _)) ?_
    refine sq_call (args := [S ws[k]]) rfl en153 (lr _) ⟨lr _, trivial⟩ (nnumber_pan _ (by have := hwl ws[k] (by simp [List.getElem_mem]); omega) _) ?_ ?_
    rotate_left
    · (rintro v _ ⟨rfl, h⟩; obtain ⟨hn, rfl⟩ := numR_pan h; exact ⟨rfl, .pan (.ifc 167 (.agg [S _])), parsR_none (parse_nums hR hW (numsOf_bad hk' hn)) _, rfl, lr _⟩)
    rintro v _ ⟨rfl, h⟩; obtain ⟨hn, rfl⟩ := numR_ret h
    refine sq_ev rfl (ev_buildSlice (es := [[_]]) sf34 rfl rfl rfl rfl) ?_
    refine sq_append rfl sf34 Tryz.underlying34 rfl rfl (less_slx _ _) (Nat.succ_pos _) (by simp; omega) (by simp; omega) ?_
    refine sq_ev rfl (ev_as (v := .own _ _ _) (lr _)) ?_
    refine sq_nil (aw_region ?_)
    refine sq_ev rfl (ev_add (lr _) (lr _) (wr (by omega) (by omega))) ?_
    refine sq_ev rfl (ev_mv (v := .raw _) (lr _)) ?_
    refine sq_nil ?_
    exact ⟨⟨k + 1, by omega, fun i h hi => (by by_cases e : i = k; (subst e; exact hn); exact hok i h (by omega))⟩, by simp only; omega, Sub.fin 2 ⟨lr _, Less.eq (b := .own 1 1 (((ws.take (k + 1)).map valN).map fun x => [I x])) (by rw [eS] <;> rfl), lr _, lr _, lr _, lr _, lr _, trivial⟩ (congrArg (fun n => [_, AObj.tok n]) (congrArg List.length eS.symm)) (by simp [slotsIn, objsIn, sget, keepS, AObj.inB, AV.inB, AV.inL, AV.inE, inE_map, inE_ints, inE_sc, -List.map_append, -List.map_take, -List.map_map]) (by simp [slotsIn, objsIn, sget, keepS, AObj.inB, AV.inB, AV.inL, AV.inE, inE_map, inE_ints, inE_sc, -List.map_append, -List.map_take, -List.map_map]) (by simp [he0])⟩
  · skip
    have c1' := c1
    try simp only [qq1, qq2, qq3, qq4, qq5, qq6, qq7, qq8, qq9, qq10, qq11, qq12, qq13] at c1'
    obtain rfl : k = ws.length := by omega
    have hns : numsOf ws = some (ws.map valN) := numsOf_ok (by simp) (fun i h => by simpa using hok i h h)
    obtain ⟨a1, a2, a3, a4, a5, a6, a7, rfl⟩ : ∃ a1 a2 a3 a4 a5 a6 a7, ws = [a1, a2, a3, a4, a5, a6, a7] := seven hws7
    refine aw_exit (aw_seq ?_)
    refine aw_draw 27 mo (by kernel_rfl) ?_
    refine dr_ev rfl (ev_mv (v := .own _ _ _) (lr _)) ?_
    refine dr_ev rfl (ev_index_map (k := 0) sl34 (less_own _ _ _) (lr _) rfl (by simp)) ?_
    refine dr_ev rfl (ev_load_i (lr _) ty3 rfl) ?_
    refine dr_ev rfl (ev_mv (v := .own _ _ _) (lr _)) ?_
    refine dr_ev rfl (ev_index_map (k := 1) sl34 (less_own _ _ _) (lr _) rfl (by simp)) ?_
    refine dr_ev rfl (ev_load_i (lr _) ty3 rfl) ?_
    refine dr_ev rfl (ev_mv (v := .own _ _ _) (lr _)) ?_
    refine dr_ev rfl (ev_index_map (k := 2) sl34 (less_own _ _ _) (lr _) rfl (by simp)) ?_
    refine dr_ev rfl (ev_load_i (lr _) ty3 rfl) ?_
    refine dr_ev rfl (ev_build bi23 rfl) ?_
    refine dr_ev rfl (ev_mv (v := .own _ _ _) (lr _)) ?_
    refine dr_ev rfl (ev_index_map (k := 3) sl34 (less_own _ _ _) (lr _) rfl (by simp)) ?_
    refine dr_ev rfl (ev_load_i (lr _) ty3 rfl) ?_
    refine dr_ev rfl (ev_mv (v := .own _ _ _) (lr _)) ?_
    refine dr_ev rfl (ev_index_map (k := 4) sl34 (less_own _ _ _) (lr _) rfl (by simp)) ?_
    refine dr_ev rfl (ev_load_i (lr _) ty3 rfl) ?_
    refine dr_ev rfl (ev_build bi23 rfl) ?_
    refine dr_ev rfl (ev_build bi24 rfl) ?_
    refine dr_ev rfl (ev_mv (v := .own _ _ _) (lr _)) ?_
    refine dr_ev rfl (ev_index_map (k := 5) sl34 (less_own _ _ _) (lr _) rfl (by simp)) ?_
    refine dr_ev rfl (ev_load_i (lr _) ty3 rfl) ?_
    refine dr_ev rfl (ev_mv (v := .own _ _ _) (lr _)) ?_
    refine dr_ev rfl (ev_index_map (k := 6) sl34 (less_own _ _ _) (lr _) rfl (by simp)) ?_
    refine dr_ev rfl (ev_load_i (lr _) ty3 rfl) ?_
    refine dr_ev rfl (ev_build bi23 rfl) ?_
    refine dr_ev rfl (ev_build bi27 rfl) ?_
    refine dr_alloc rfl z27 ?_
    refine dr_end ?_
    refine sq_store rfl (lr _) (lr _) rfl rfl ty27 rfl rfl ?_
    refine sq_nil (aw_seq (aw_seq (aw_region ?_)))
    refine sq_ev rfl (ev_mv (v := .sl _ _) (lr _)) ?_
    refine sq_ev rfl (ev_mv (v := .sl _ _) (lr _)) ?_
    refine sq_ev rfl (ev_len_map sl138 (lr _)) ?_
    refine sq_ev rfl (ev_sub (lr _) (lr _) (wr (by omega) (by omega))) ?_
    refine sq_ev rfl (ev_less (ev_slice (lo := 1) (hi := (r0 :: rs).length - 2) sl138 (lr _) (lr _) (less_int (by simp; omega)) (by simp; omega) (by simp; omega)) (Less.eq (b := .sl 1 ((rs.take (rs.length - 2)).map fun p => [S p])) (midE _ hrs2))) ?_
    refine sq_ev rfl (ev_len_map sl138 (lr _)) ?_
    refine sq_ev rfl (ev_mv (v := .raw _) (lr _)) ?_
    refine sq_nil (aw_block ?_)
    refine aw_sub (sub_token_cell 2 5 [I (valN a1), I (valN a2), I (valN a3), I (valN a4), I (valN a5), I (valN a6), I (valN a7)] [] rfl) ?_
    refine aw_loopk (ι := { q : List Sc // q.length ≤ (rs.take (rs.length - 2)).length ∧ ∀ i, (h : i < q.length) → (h2 : i < (rs.take (rs.length - 2)).length) → rowSc (rs.take (rs.length - 2))[i] = some q[i] }) [0, 2, 8, 72, 73] (fun q => [(74, I q.1.length)]) (fun H q => (H.set 2 (.cells ([I (valN a1), I (valN a2), I (valN a3), I (valN a4), I (valN a5), I (valN a6), I (valN a7)] ++ [.own 3 5 (q.1.map sc)]))).set 3 (.tok (q.1.map sc).length)) (fun q => (rs.take (rs.length - 2)).length - q.1.length) (⟨[], by simp, by simp⟩) ⟨(by exact less_int (by simp)), lr _, lr _, lr _, lr _, lr _, trivial⟩ rfl ?_
    rintro ⟨q, hq, hok2⟩
    dsimp only [keepS, St.put, sget, slotsOf, List.map_cons, List.map_nil, List.cons_append, List.nil_append, List.length_cons, List.length_nil, Nat.reduceBEq, Nat.reduceAdd, cond_true, cond_false]
    refine aw_seq (aw_region ?_)
    refine sq_ev rfl (ev_lss (lr _) (lr _)) ?_
    refine sq_nil (aw_seq ?_)
    refine aw_cond (lr _) (fun c2 => ?_) (fun c2 => ?_)
    · skip
      have c2' := c2
      try simp only [qq1, qq2, qq3, qq4, qq5, qq6, qq7, qq8, qq9, qq10, qq11, qq12, qq13] at c2'
      have hk : q.length < (rs.take (rs.length - 2)).length := by omega
      refine aw_skip (aw_seq (aw_block (aw_seq (aw_region ?_))))
      refine sq_ev rfl (ev_index_map sl138 (lr _) (lr _) rfl (by omega)) ?_
      refine sq_ev rfl (ev_load_i (lr _) ty9 rfl) ?_
      refine sq_ev rfl (ev_as (v := .raw _) (lr _)) ?_
      refine sq_nil (aw_seq ?_)
      generalize hr : (rs.take (rs.length - 2))[q.length] = r
      have hrl : r.length ≤ s.length := hr ▸ hRm _ (List.mem_cons_of_mem _ (List.mem_of_mem_take (List.getElem_mem hk)))
      refine aw_region ?_
      refine sq_ev rfl (ev_mv (v := .raw _) (lr _)) ?_
      refine sq_ev rfl (ev_call en151 (lr _) (nsplit_pure r 32 (by omega)) ⟨lr _, lr _, trivial⟩) ?_
      refine sq_ev rfl (ev_as (v := .sl _ _) (lr _)) ?_
      refine sq_nil (aw_seq ?_)
      generalize hW : cut 32 r = W
      have hwl := cut_mem 32 r
      rw [hW] at hwl
      refine aw_region ?_
      refine sq_ev rfl (ev_mv (v := .sl _ _) (lr _)) ?_
      refine sq_ev rfl (ev_len_map sl138 (lr _)) ?_
      refine sq_ev rfl (ev_eql (lr _) (lr _)) ?_
      refine sq_ev rfl (ev_mv (v := .raw _) (lr _)) ?_
      refine sq_call (args := [B _, S r]) rfl en152 (lr _) ⟨lr _, lr _, trivial⟩ (nsure_pan _ _ _) ?_ ?_
      rotate_left
      · (rintro v _ ⟨rfl, (⟨_, h⟩ | ⟨hb, h⟩)⟩ <;> cases h; exact ⟨rfl, .pan (.ifc 167 (.agg [S _])), parsR_none (parse_scs hR (rowsSc_bad hk (hr ▸ rowSc_len (by rw [hW]; simp at hb; omega)))) _, rfl, lr _⟩)
      rintro v _ ⟨rfl, (⟨hb3, h⟩ | ⟨_, h⟩)⟩ <;> cases h
      refine sq_nil (aw_seq ?_)
      obtain ⟨w0, w1, w2, w3, w4, rfl⟩ : ∃ w0 w1 w2 w3 w4, W = [w0, w1, w2, w3, w4] := five (by simp at hb3; omega)
      refine aw_drawc [19] [20] _ mo (by kernel_rfl) (HSub.refl _) ?_
      refine dc_ev rfl (ev_mv (v := .sl _ _) (lr _)) ?_
      refine dc_ev rfl (ev_index_map (k := 1) sl138 (lr _) (lr _) rfl (by simp)) ?_
      refine dc_ev rfl (ev_load_i (lr _) ty9 rfl) ?_
      refine dc_num (w := w1) rfl (lr _) (lr _) (by have := hwl w1 (by simp); omega) (fun s' h hdf => ⟨hdf, .pan (.ifc 167 (.agg [S w1])), parsR_none (parse_scs hR (rowsSc_bad hk (hr ▸ rowSc_1 hW h))) w1, rfl, lr _⟩) ?_
      refine dc_ev rfl (ev_mv (v := .sl _ _) (lr _)) ?_
      refine dc_ev rfl (ev_index_map (k := 2) sl138 (lr _) (lr _) rfl (by simp)) ?_
      refine dc_ev rfl (ev_load_i (lr _) ty9 rfl) ?_
      refine dc_num (w := w2) rfl (lr _) (lr _) (by have := hwl w2 (by simp); omega) (fun s' h hdf => ⟨hdf, .pan (.ifc 167 (.agg [S w2])), parsR_none (parse_scs hR (rowsSc_bad hk (hr ▸ rowSc_2 hW h))) w2, rfl, lr _⟩) ?_
      refine dc_ev rfl (ev_mv (v := .sl _ _) (lr _)) ?_
      refine dc_ev rfl (ev_index_map (k := 3) sl138 (lr _) (lr _) rfl (by simp)) ?_
      refine dc_ev rfl (ev_load_i (lr _) ty9 rfl) ?_
      refine dc_num (w := w3) rfl (lr _) (lr _) (by have := hwl w3 (by simp); omega) (fun s' h hdf => ⟨hdf, .pan (.ifc 167 (.agg [S w3])), parsR_none (parse_scs hR (rowsSc_bad hk (hr ▸ rowSc_3 hW h))) w3, rfl, lr _⟩) ?_
      refine dc_ev rfl (ev_mv (v := .sl _ _) (lr _)) ?_
      refine dc_ev rfl (ev_index_map (k := 0) sl138 (lr _) (lr _) rfl (by simp)) ?_
      refine dc_ev rfl (ev_load_i (lr _) ty9 rfl) ?_
      refine dc_ev rfl (ev_call en154 (lr _) (nnames_pure) trivial) ?_
      refine dc_ev rfl (ev_indexv (k := 2) ar180 ty9 (lr _) (lr _) rfl (by decide) rfl) ?_
      refine dc_ev rfl (ev_seqS (lr _) (lr _)) ?_
      refine dc_ev rfl (ev_build bi84 (numB (cells_numV _) (cells_numV _) (cells_numV _) rfl rfl)) ?_
      refine dc_alloc rfl rfl z84 ?_
      refine dc_eff rfl rfl (eff_store rfl (lr _) (lr _) rfl rfl ty84 rfl rfl) (by apply HL.sub; repeat' (first | exact HL.nil _ | apply HL.same | apply HL.tok)) ?_
      refine dc_nil (aw_seq (aw_seq ?_))
      dsimp only [keepS, St.put, sget, slotsOf, List.map_cons, List.map_nil, List.cons_append, List.nil_append, List.length_cons, List.length_nil, Nat.reduceBEq, Nat.reduceAdd, cond_true, cond_false]
      obtain ⟨n1, h1⟩ | h1 := num_cases w1
      rotate_left
      · exact aw_bot 88 (Less.eq (by show numV w1 = bot; exact numV_none h1))
      obtain ⟨n2, h2⟩ | h2 := num_cases w2
      rotate_left
      · exact aw_bot 92 (Less.eq (by show numV w2 = bot; exact numV_none h2))
      obtain ⟨n3, h3⟩ | h3 := num_cases w3
      rotate_left
      · exact aw_bot 96 (Less.eq (by show numV w3 = bot; exact numV_none h3))
      simp only [numV_some h1, numV_some h2, numV_some h3]
      refine aw_region ?_
      refine sq_ev rfl (ev_mv (v := .sl _ _) (lr _)) ?_
      refine sq_ev rfl (ev_index_map (k := 4) sl138 (lr _) (lr _) rfl (by simp)) ?_
      refine sq_ev rfl (ev_load_i (lr _) ty9 rfl) ?_
      refine sq_ev rfl (ev_sneS (lr _) (lr _)) ?_
      refine sq_nil ?_
      refine aw_cond (lr _) (fun c3 => ?_) (fun c3 => ?_)
      · skip
        have c3' := c3
        try simp only [qq1, qq2, qq3, qq4, qq5, qq6, qq7, qq8, qq9, qq10, qq11, qq12, qq13] at c3'
        refine aw_region ?_
        refine sq_ev rfl (ev_mv (v := .sl _ _) (lr _)) ?_
        refine sq_ev rfl (ev_index_map (k := 4) sl138 (lr _) (lr _) rfl (by simp)) ?_
        refine sq_ev rfl (ev_load_i (lr _) ty9 rfl) ?_
        refine sq_call (args := [S w4]) rfl en153 (lr _) ⟨lr _, trivial⟩ (nnumber_pan _ (by have := hwl w4 (by simp); omega) _) ?_ ?_
        rotate_left
        · (rintro v _ ⟨rfl, h⟩; obtain ⟨hn, rfl⟩ := numR_pan h; exact ⟨rfl, .pan (.ifc 167 (.agg [S _])), parsR_none (parse_scs hR (rowsSc_bad hk (hr ▸ rowSc_4 hW (by simpa using c3) hn))) _, rfl, lr _⟩)
        rintro v _ ⟨rfl, h⟩; obtain ⟨hn, rfl⟩ := numR_ret h
        obtain ⟨x, hx, eS⟩ : ∃ x, rowSc r = some x ∧ ((q ++ [x]).map sc) = q.map sc ++ [[I n1, I n2, I n3, B (decide (w0 = wBattle)), I (valN w4)]] := ⟨⟨n1, n2, n3, decide (w0 = wBattle), valN w4⟩, rowSc_yes hW h1 h2 h3 (by rw [if_neg (by simpa using c3)]; exact hn), by simp⟩
        have hxl : (q ++ [x]).length = q.length + 1 := by simp
        refine sq_ev rfl (ev_fieldAddr fo84_4 (lr _)) ?_
        refine sq_store rfl (lr _) (lr _) rfl rfl ty3 rfl rfl ?_
        refine sq_nil (aw_region ?_)
        refine sq_ev rfl (ev_fieldAddr fo27_3 (lr _)) ?_
        refine sq_ev rfl (ev_load (lr _) rfl ty25 rfl) ?_
        refine sq_ev rfl (ev_load_agg (lr _) rfl ty84 rfl) ?_
        refine sq_ev rfl (ev_buildSlice (es := [[_, _, _, _, _]]) sf25 rfl rfl rfl rfl) ?_
        refine sq_append rfl sf25 Tryz.underlying25 rfl rfl (less_slx _ _) (Nat.succ_pos _) (by simp; omega) (by simp; omega) ?_
        refine sq_ev rfl (ev_fieldAddr fo27_3 (lr _)) ?_
        refine sq_store rfl (lr _) (lr _) rfl rfl ty25 rfl rfl ?_
        refine sq_nil (aw_region ?_)
        refine sq_ev rfl (ev_add (lr _) (lr _) (wr (by omega) (by omega))) ?_
        refine sq_ev rfl (ev_mv (v := .raw _) (lr _)) ?_
        refine sq_nil ?_
        exact ⟨⟨q ++ [x], by omega, okq hok2 hr hx⟩, by simp only; omega, Sub.fin 4 ⟨(by exact less_int (by simp)), lr _, lr _, lr _, lr _, lr _, trivial⟩ (congrArg (fun L => [_, _, AObj.cells ([I (valN a1), I (valN a2), I (valN a3), I (valN a4), I (valN a5), I (valN a6), I (valN a7)] ++ [AV.own 3 5 L]), AObj.tok L.length]) eS.symm) (by simp [slotsIn, objsIn, sget, keepS, AObj.inB, AV.inB, AV.inL, AV.inE, inE_map, inE_ints, inE_sc, -List.map_append, -List.map_take, -List.map_map]) (by simp [slotsIn, objsIn, sget, keepS, AObj.inB, AV.inB, AV.inL, AV.inE, inE_map, inE_ints, inE_sc, -List.map_append, -List.map_take, -List.map_map]) (by simp [he0])⟩
      · skip
        have c3' := c3
        try simp only [qq1, qq2, qq3, qq4, qq5, qq6, qq7, qq8, qq9, qq10, qq11, qq12, qq13] at c3'
        obtain ⟨x, hx, eS⟩ : ∃ x, rowSc r = some x ∧ ((q ++ [x]).map sc) = q.map sc ++ [[I n1, I n2, I n3, B (decide (w0 = wBattle)), I (-1)]] := ⟨⟨n1, n2, n3, decide (w0 = wBattle), -1⟩, rowSc_yes hW h1 h2 h3 (by rw [if_pos (by simpa using c3)]), by simp⟩
        have hxl : (q ++ [x]).length = q.length + 1 := by simp
        refine aw_skip (aw_region ?_)
        refine sq_ev rfl (ev_fieldAddr fo27_3 (lr _)) ?_
        refine sq_ev rfl (ev_load (lr _) rfl ty25 rfl) ?_
        refine sq_ev rfl (ev_load_agg (lr _) rfl ty84 rfl) ?_
        refine sq_ev rfl (ev_buildSlice (es := [[_, _, _, _, _]]) sf25 rfl rfl rfl rfl) ?_
        refine sq_append rfl sf25 Tryz.underlying25 rfl rfl (less_slx _ _) (Nat.succ_pos _) (by simp; omega) (by simp; omega) ?_
        refine sq_ev rfl (ev_fieldAddr fo27_3 (lr _)) ?_
        refine sq_store rfl (lr _) (lr _) rfl rfl ty25 rfl rfl ?_
        refine sq_nil (aw_region ?_)
        refine sq_ev rfl (ev_add (lr _) (lr _) (wr (by omega) (by omega))) ?_
        refine sq_ev rfl (ev_mv (v := .raw _) (lr _)) ?_
        refine sq_nil ?_
        exact ⟨⟨q ++ [x], by omega, okq hok2 hr hx⟩, by simp only; omega, Sub.fin 4 ⟨(by exact less_int (by simp)), lr _, lr _, lr _, lr _, lr _, trivial⟩ (congrArg (fun L => [_, _, AObj.cells ([I (valN a1), I (valN a2), I (valN a3), I (valN a4), I (valN a5), I (valN a6), I (valN a7)] ++ [AV.own 3 5 L]), AObj.tok L.length]) eS.symm) (by simp [slotsIn, objsIn, sget, keepS, AObj.inB, AV.inB, AV.inL, AV.inE, inE_map, inE_ints, inE_sc, -List.map_append, -List.map_take, -List.map_map]) (by simp [slotsIn, objsIn, sget, keepS, AObj.inB, AV.inB, AV.inL, AV.inE, inE_map, inE_ints, inE_sc, -List.map_append, -List.map_take, -List.map_map]) (by simp [he0])⟩
    · skip
      have c2' := c2
      try simp only [qq1, qq2, qq3, qq4, qq5, qq6, qq7, qq8, qq9, qq10, qq11, qq12, qq13] at c2'
      have hqe : q.length = (rs.take (rs.length - 2)).length := by omega
      have hsc : rowsSc (rs.take (rs.length - 2)) = some q := rowsSc_ok hqe (fun i h => hok2 i (by omega) h)
      have hhn : ∀ i (h : i < [a1, a2, a3, a4, a5, a6, a7].length), numOf [a1, a2, a3, a4, a5, a6, a7][i] = some (valN [a1, a2, a3, a4, a5, a6, a7][i]) := fun i h => hok i h h
      have sm0 := smp_head hhn (q := q) (by rw [hqe, List.length_take]; simp only [List.length_cons] at hRl; omega) (fun x hx => by obtain ⟨i, hi, rfl⟩ := List.getElem_of_mem hx; exact ⟨_, hok2 i hi (by omega)⟩)
      obtain ⟨p, hP⟩ : ∃ p, p = headOf [valN a1, valN a2, valN a3, valN a4, valN a5, valN a6, valN a7] q := ⟨_, rfl⟩
      have hp0 : parse0 s = some p := by rw [hP]; exact parse_all hR (by omega) hWh hws7 hns hsc
      have sm : SmP p := by rw [hP]; exact sm0
      have hL : Less (.agg ([I (valN a1), I (valN a2), I (valN a3), I (valN a4), I (valN a5), I (valN a6), I (valN a7)] ++ [.own 3 5 (q.map sc)])) (plan p) := by rw [hP]; exact less_agg ⟨lr _, lr _, lr _, lr _, lr _, lr _, lr _, less_own _ _ _, trivial⟩
      refine aw_exit (aw_seq (aw_region ?_))
      refine sq_ev rfl (ev_load_agg (lr _) rfl ty27 rfl) ?_
      refine sq_ev rfl (ev_call en112 (lr _) (nsheet_pure p sm) ⟨hL, trivial⟩) ?_
      refine sq_ev rfl (ev_mv (v := .raw _) (lr _)) ?_
      refine sq_ev rfl (ev_seqS (lr _) (lr _)) ?_
      refine sq_ev rfl (ev_mv (v := .raw _) (lr _)) ?_
      refine sq_call (args := [B _, S s]) rfl en152 (lr _) ⟨lr _, lr _, trivial⟩ (nsure_pan _ _ _) ?_ ?_
      rotate_left
      · (rintro v _ ⟨rfl, (⟨_, h⟩ | ⟨hb, h⟩)⟩ <;> cases h; exact ⟨rfl, .pan (.ifc 167 (.agg [S _])), parsR_none (by unfold parseL; rw [hp0]; simp only; rw [if_neg (by simpa using hb)]) _, rfl, lr _⟩)
      rintro v _ ⟨rfl, (⟨hb4, h⟩ | ⟨_, h⟩)⟩ <;> cases h
      refine sq_nil (aw_seq (aw_region ?_))
      refine sq_ev rfl (ev_load_agg (lr _) rfl ty27 rfl) ?_
      refine sq_store rfl (lr _) (lr _) rfl rfl ty27 rfl rfl ?_
      refine sq_nil (aw_ret ?_)
      exact retQ_any (vs := [.agg _]) rfl rfl ⟨resVar_cell rfl rfl ty27 rfl, trivial⟩ (⟨.ret (plan p), parsR_some (by unfold parseL; rw [hp0]; simp only; rw [if_pos (by simpa using hb4)]), by simp [ARes.pureB, AV.pureL, AV.pureB, AV.pureE, pureE_map], hL⟩)


end Go.Proofs.YtjghdbdiejaacaaGreatDoor
