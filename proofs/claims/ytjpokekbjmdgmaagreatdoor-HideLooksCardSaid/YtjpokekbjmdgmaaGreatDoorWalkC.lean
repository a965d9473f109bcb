/-
  A part of the proof: conditions: none beyond each theorem's own.
-/
import Derived.Test.YtjpokekbjmdgmaaGreatDoorWalkB
import Derived.Test.YtjpokekbjmdgmaaGreatDoorLogicD
import Derived.KernelRfl
import Derived.Lib.LaidTab
import Derived.Lib.ItoaNum
set_option linter.all false
set_option maxRecDepth 100000
set_option maxHeartbeats 8000000
namespace Go.Proofs.YtjpokekbjmdgmaaGreatDoor
open Go Go.Ab Ni Hd
instance en101 : EnT Tryz.prog 101 := ⟨Ent.of Tryz.func101 (by kernel_rfl) rfl⟩
instance en107 : EnT Tryz.prog 107 := ⟨Ent.of Tryz.func107 (by kernel_rfl) rfl⟩
theorem fit_rt {r : Rg} (gB : RgB r) {h : Nat} {f : List Int} {k : Nat} (hk : k < (fit r h f).length) : rtOK r (fit r h f)[k] = true := ((mem_fit gB).1 (List.getElem_mem hk)).1
theorem fit_okb {r : Rg} {h : Nat} {f : List Int} (hk : r.kinds.length ≤ 1000000) (hh : r.hides.length ≤ 1000000) (hw : ∀ h ∈ r.hides, h.length ≤ 1000000) (hl : f.length ≤ 1000000) (ho : okF r h f = true) (hm : may r h f = true) {b : Bool} (hb : b = true) : APure Tryz.prog 98 [rgA r, I h, ints f, B b] (.tup [fdA r h f, .sl 2 ((fit r h f).map rtC), I 0]) := by subst hb; exact fit_ok hk hh hw hl ho hm
def loK (r : Rg) (h : Nat) (f : List Int) (m k : Nat) : List Int := ((fit r h f).take k).map (lom r h m)
def hiK (r : Rg) (h : Nat) (f : List Int) (m k : Nat) : List Int := ((fit r h f).take k).map (him r h m)
def dyK (r : Rg) (h : Nat) (f : List Int) (near step : Int) (k : Nat) : List Int := ((fit r h f).take k).map (dayX near step)
theorem takeM {g : Rt → Int} {L : List Rt} {k : Nat} (h : k < L.length) : (L.take (k + 1)).map g = (L.take k).map g ++ [g L[k]] := by rw [List.take_succ_eq_append_getElem h, List.map_append]; rfl
theorem takeL (g : Rt → Int) (L : List Rt) (k : Nat) : ((L.take k).map g).length ≤ L.length := by simp; omega
theorem joints_bad (r : Rg) (n : Int) (f : List Int) (hk : r.kinds.length ≤ 1000000) (hh : r.hides.length ≤ 1000000) (hw : ∀ h ∈ r.hides, h.length ≤ 1000000) (hl : f.length ≤ 1000000) (he : fitE r n f true ≠ 0) : APure Tryz.prog 44 [rgA r, I n, ints f] (.tup [ints [], I (fitE r n f true)]) := by
  refine ap Tryz.func44 (fun e0 he0 => ?_)
  refine wz 6 ?_
  refine kz az (fit_pure r n f hk hh hw hl true) ?_
  refine wz 10 ?_
  refine iz (fun c_26 c_26' => ?_) (fun c_26 c_26' => ?_)
  ·refine wz 3 ?_
   exact retQ_pure (v := .tup [.raw _, .raw _]) rfl rfl (less_tup ⟨less_nil 1, jz, trivial⟩)
  exfalso
  simp_all
theorem joints_ok {r : Rg} {h : Nat} {f : List Int} (hk : r.kinds.length ≤ 1000000) (hh : r.hides.length ≤ 1000000) (hw : ∀ h ∈ r.hides, h.length ≤ 1000000) (hl : f.length ≤ 1000000) (ho : okF r h f = true) (hm : may r h f = true) : APure Tryz.prog 44 [rgA r, I h, ints f] (.tup [ints (jointsOf r h f), I 0]) := by
  refine ap Tryz.func44 (fun e0 he0 => ?_)
  refine vz 3 ?_
  refine sq_nil ?_
  refine aw_seq ?_
  obtain ⟨gB, ⟨k0, hk0, hhl⟩, hfl, hrg, hfd⟩ := okF_facts ho
  obtain rfl : h = k0 := by omega
  have hLn := fit_len gB h f
  refine wz 3 ?_
  refine kz az (fit_ok hk hh hw hl ho hm) ?_
  refine wz 10 ?_
  refine iz (fun c_26 c_26' => ?_) (fun c_26 c_26' => ?_)
  ·exfalso
   simp_all
  refine vz 5 ?_
  refine sq_nil ?_
  refine aw_block ?_
  refine aw_sub (sub_token 11 1 jz) ?_
  refine aw_loopk (ι := { k : Nat // k ≤ r.kinds.length }) [8, 9, 29, 30] (fun i => [(31, I i.1), (11, .own 2 1 ((jntK r h f i.1).map fun x => [I x]))]) (fun H i => H.set 2 (.tok ((jntK r h f i.1).map fun x => [I x]).length)) (fun i => r.kinds.length - i.1) (⟨0, Nat.zero_le _⟩) ⟨jz, jz, jz, jz, jz, jz, trivial⟩ rfl ?_
  rintro ⟨m, hm⟩
  refine nz ?_
  have hwl := jntK_len r h f m
  have hnk := gB.nk
  refine wz 1 ?_
  refine iz (fun c_32 c_32' => ?_) (fun c_32 c_32' => ?_)
  ·have hml : m < r.kinds.length := by omega
   refine wz 9 ?_
   refine aw_loopk (ι := { j : Nat // j ≤ (fit r h f).length }) [8, 9, 11, 12, 13, 29, 30, 31, 36, 37] (fun q => [(14, I (cntK r h f m q.1)), (38, I q.1)]) (fun H q => H) (fun q => (fit r h f).length - q.1) (⟨0, Nat.zero_le _⟩) ⟨jz, jz, jz, jz, jz, jz, jz, jz, jz, jz, jz, jz, trivial⟩ rfl ?_
   rintro ⟨j, hj⟩
   refine nz ?_
   have hcl := cntK_le r h f m j
   refine wz 1 ?_
   refine iz (fun c_39 c_39' => ?_) (fun c_39 c_39' => ?_)
   ·have hjl : j < (fit r h f).length := by omega
    refine wz 4 ?_
    refine aw_draw 9 mo (by kernel_rfl) ?_
    refine dz 2 ?_
    refine dkz az (reading_pure) ?_
    refine dz 1 ?_
    refine dkz az (kind_pure _ (by have := gB.kd m hml; rw [kd_at hml] at this; omega)) ?_
    refine dr_ev rfl (ev_indexv (k := kp r m) ar117.h ty116.h jz jz (kd_kp gB hml).1 (kd_kp gB hml).2 (rd_at gB hml)) ?_
    refine dz 1 ?_
    refine dr_ev rfl (ev_call (rd_ent r m) jz (rd_call r m _) ⟨jz, trivial⟩) ?_
    refine dkz az (changed_pure gB hhl hml (rm_bd gB (fit_rt gB hjl) m) hfl) ?_
    refine dr_end ?_
    refine wz 0 ?_
    refine iz (fun c_50 c_50' => ?_) (fun c_50 c_50' => ?_)
    ·have eC : cntK r h f m (j + 1) = cntK r h f m j + 1 := by rw [cntK_succ hjl]; unfold chgM; rw [if_pos c_50]
     refine wz 5 ?_
     exact ⟨⟨j + 1, by omega⟩, by simp only; omega, sb 3 ⟨Less.eq (by rw [eC] <;> rfl), jz, jz, jz, jz, jz, jz, jz, jz, jz, jz, jz, trivial⟩⟩
    have eC : cntK r h f m (j + 1) = cntK r h f m j := by rw [cntK_succ hjl]; unfold chgM; rw [if_neg (by rw [c_50]; simp)]; rfl
    refine wz 2 ?_
    exact ⟨⟨j + 1, by omega⟩, by simp only; omega, sb 3 ⟨Less.eq (by rw [eC] <;> rfl), jz, jz, jz, jz, jz, jz, jz, jz, jz, jz, jz, trivial⟩⟩
   obtain rfl : j = (fit r h f).length := by omega
   have hcm : cntK r h f m (fit r h f).length = manyM r h f m := by unfold cntK manyM; rw [List.take_length]
   refine wz 3 ?_
   refine iz (fun c_58 c_58' => ?_) (fun c_58 c_58' => ?_)
   ·have hwd : jointW r h f m = 1 := by unfold jointW; rw [if_pos (by omega)]
    have eS : ((jntK r h f (m + 1))).map (fun x => [I x]) = ((jntK r h f m)).map (fun x => [I x]) ++ [[I 1]] := by unfold jntK; rw [jointK_succ, List.map_append]; simp only [List.map_cons, List.map_nil]; rw [hwd]
    refine wz 1 ?_
    refine sq_ev rfl (ev_buildSlice (es := [[_]]) sf54.h rfl rfl rfl rfl) ?_
    first | refine sq_append rfl sf54.h Tryz.underlying54 rfl rfl jz (Nat.succ_pos _) (by simp; omega) (by simp; omega) ?_ | refine sq_append rfl sf54.h Tryz.underlying54 rfl rfl (less_slx _ _) (Nat.succ_pos _) (by simp; omega) (by simp; omega) ?_
    refine wz 3 ?_
    exact ⟨⟨m + 1, by omega⟩, by simp only; omega, sb 3 ⟨jz, Less.eq (by rw [eS] <;> rfl), jz, jz, jz, jz, trivial⟩ (hH := (congrArg (fun n => [_, _, AObj.tok n]) (congrArg List.length eS.symm)))⟩
   refine wz 4 ?_
   refine iz (fun c_63 c_63' => ?_) (fun c_63 c_63' => ?_)
   ·have hwd : jointW r h f m = 3 := by unfold jointW; rw [if_neg (by omega), if_pos (by omega)]
    have eS : ((jntK r h f (m + 1))).map (fun x => [I x]) = ((jntK r h f m)).map (fun x => [I x]) ++ [[I 3]] := by unfold jntK; rw [jointK_succ, List.map_append]; simp only [List.map_cons, List.map_nil]; rw [hwd]
    refine wz 1 ?_
    refine sq_ev rfl (ev_buildSlice (es := [[_]]) sf54.h rfl rfl rfl rfl) ?_
    first | refine sq_append rfl sf54.h Tryz.underlying54 rfl rfl jz (Nat.succ_pos _) (by simp; omega) (by simp; omega) ?_ | refine sq_append rfl sf54.h Tryz.underlying54 rfl rfl (less_slx _ _) (Nat.succ_pos _) (by simp; omega) (by simp; omega) ?_
    refine wz 3 ?_
    exact ⟨⟨m + 1, by omega⟩, by simp only; omega, sb 3 ⟨jz, Less.eq (by rw [eS] <;> rfl), jz, jz, jz, jz, trivial⟩ (hH := (congrArg (fun n => [_, _, AObj.tok n]) (congrArg List.length eS.symm)))⟩
   have hwd : jointW r h f m = 2 := by unfold jointW; rw [if_neg (by omega), if_neg (by omega)]
   have eS : ((jntK r h f (m + 1))).map (fun x => [I x]) = ((jntK r h f m)).map (fun x => [I x]) ++ [[I 2]] := by unfold jntK; rw [jointK_succ, List.map_append]; simp only [List.map_cons, List.map_nil]; rw [hwd]
   refine wz 1 ?_
   refine sq_ev rfl (ev_buildSlice (es := [[_]]) sf54.h rfl rfl rfl rfl) ?_
   first | refine sq_append rfl sf54.h Tryz.underlying54 rfl rfl jz (Nat.succ_pos _) (by simp; omega) (by simp; omega) ?_ | refine sq_append rfl sf54.h Tryz.underlying54 rfl rfl (less_slx _ _) (Nat.succ_pos _) (by simp; omega) (by simp; omega) ?_
   refine wz 3 ?_
   exact ⟨⟨m + 1, by omega⟩, by simp only; omega, sb 3 ⟨jz, Less.eq (by rw [eS] <;> rfl), jz, jz, jz, jz, trivial⟩ (hH := (congrArg (fun n => [_, _, AObj.tok n]) (congrArg List.length eS.symm)))⟩
  obtain rfl : m = r.kinds.length := by omega
  refine wz 3 ?_
  exact retQ_pure (v := .tup [.own _ _ _, .raw _]) rfl rfl (less_tup ⟨less_own _ _ _, jz, trivial⟩)
theorem expected_ok {r : Rg} {h : Nat} {f : List Int} (hk : r.kinds.length ≤ 1000000) (hh : r.hides.length ≤ 1000000) (hw : ∀ h ∈ r.hides, h.length ≤ 1000000) (hl : f.length ≤ 1000000) (ho : okF r h f = true) (hm : may r h f = true) {m : Nat} (hmi : msIn r m = true) : APure Tryz.prog 45 [rgA r, I h, ints f, I m] (.tup [.agg [I (expOf r h f m).1, I (expOf r h f m).2], I 0]) := by
  refine ap Tryz.func45 (fun e0 he0 => ?_)
  refine vz 3 ?_
  refine sq_nil ?_
  refine aw_seq ?_
  obtain ⟨gB, ⟨k0, hk0, hhl⟩, hfl, hrg, hfd⟩ := okF_facts ho
  obtain rfl : h = k0 := by omega
  have hLn := fit_len gB h f
  have hml : m < r.kinds.length := by have := msIn_iff.1 hmi; omega
  refine aw_drawc [11] [12] _ mo (by kernel_rfl) (HSub.refl _) ?_
  first | refine dc_ev rfl (ev_load_agg jz rfl ty27.h rfl) ?_ | refine dc_ev rfl (ev_load_agg_i jz ty27.h (by exact Nat.le_of_ble_eq_true rfl)) ?_
  refine dc_ev rfl (ev_mv (v := .raw _) jz) ?_
  first | refine dc_ev rfl (ev_mv (v := .sl _ _) jz) ?_ | refine dc_ev rfl (ev_mv (v := .own _ _ _) jz) ?_ | refine dc_ev rfl (ev_mv (v := .raw _) jz) ?_ | refine dc_ev rfl (ev_mv (v := .slx _ _) jz) ?_ | refine dc_ev rfl (ev_mv (v := .msl _ _ _ _) jz) ?_
  first | refine dc_ev rfl (ev_load_agg jz rfl ty27.h rfl) ?_ | refine dc_ev rfl (ev_load_agg_i jz ty27.h (by exact Nat.le_of_ble_eq_true rfl)) ?_
  refine dc_ev rfl (ev_mv (v := .raw _) jz) ?_
  refine dc_ev rfl (ev_call en101.h jz (ismeasure_pure r _ hk) ⟨jz, jz, trivial⟩) ?_
  refine dc_ev rfl (ev_call en98.h jz (fit_okb hk hh hw hl ho hm hmi) ⟨jz, jz, jz, jz, trivial⟩) ?_
  refine dc_ev rfl (ev_mv (v := .tup _) jz) ?_
  refine dc_ev rfl (ev_extract jz rfl) ?_
  refine dc_ev rfl (ev_extract jz rfl) ?_
  refine dc_ev rfl (ev_extract jz rfl) ?_
  refine dc_alloc rfl rfl z115.h ?_
  refine dc_eff rfl rfl (eff_store rfl jz jz rfl rfl ty115.h rfl rfl) (by apply HL.sub; repeat' (first | exact HL.nil _ | apply HL.same | apply HL.tok)) ?_
  first | refine dc_ev rfl (ev_as (v := .sl _ _) jz) ?_ | refine dc_ev rfl (ev_as (v := .own _ _ _) jz) ?_ | refine dc_ev rfl (ev_as (v := .raw _) jz) ?_ | refine dc_ev rfl (ev_as (v := .slx _ _) jz) ?_ | refine dc_ev rfl (ev_as (v := .msl _ _ _ _) jz) ?_
  refine dc_ev rfl (ev_as (v := .raw _) jz) ?_
  refine dc_nil ?_
  refine wz 2 ?_
  refine iz (fun c_30 c_30' => ?_) (fun c_30 c_30' => ?_)
  ·exfalso
   simp_all
  refine vz 5 ?_
  refine sq_nil ?_
  refine aw_block ?_
  refine aw_sub (sub_token 13 1 jz) ?_
  refine aw_sub (sub_token 14 1 jz) ?_
  refine aw_loopk (ι := { j : Nat // j ≤ (fit r h f).length }) [3, 4, 8, 10, 33, 34] (fun i => [(35, I i.1), (13, .own 3 1 ((loK r h f m i.1).map fun x => [I x])), (14, .own 4 1 ((hiK r h f m i.1).map fun x => [I x]))]) (fun H i => (H.set 3 (.tok ((loK r h f m i.1).map fun x => [I x]).length)).set 4 (.tok ((hiK r h f m i.1).map fun x => [I x]).length)) (fun i => (fit r h f).length - i.1) (⟨0, Nat.zero_le _⟩) ⟨jz, jz, jz, jz, jz, jz, jz, jz, jz, trivial⟩ rfl ?_
  rintro ⟨j, hj⟩
  refine nz ?_
  have hal : (loK r h f m j).length ≤ 1681 := Nat.le_trans (takeL _ _ _) hLn
  have hbl : (hiK r h f m j).length ≤ 1681 := Nat.le_trans (takeL _ _ _) hLn
  refine wz 1 ?_
  refine iz (fun c_36 c_36' => ?_) (fun c_36 c_36' => ?_)
  ·have hjl : j < (fit r h f).length := by omega
   have eL : ((loK r h f m (j + 1)).map fun x => [I x]) = ((loK r h f m j).map fun x => [I x]) ++ [[I (lom r h m (fit r h f)[j])]] := by unfold loK; rw [takeM hjl, List.map_append]; rfl
   have eH : ((hiK r h f m (j + 1)).map fun x => [I x]) = ((hiK r h f m j).map fun x => [I x]) ++ [[I (him r h m (fit r h f)[j])]] := by unfold hiK; rw [takeM hjl, List.map_append]; rfl
   refine wz 4 ?_
   refine aw_draw 14 mo (by kernel_rfl) ?_
   refine dz 2 ?_
   refine dkz az (reading_pure) ?_
   refine dz 5 ?_
   refine dkz az (kind_pure _ (by have := gB.kd m hml; rw [kd_at hml] at this; omega)) ?_
   refine dr_ev rfl (ev_indexv (k := kp r m) ar117.h ty116.h jz jz (kd_kp gB hml).1 (kd_kp gB hml).2 (rd_at gB hml)) ?_
   refine dz 1 ?_
   refine dr_ev rfl (ev_call (rd_ent r m) jz (rd_call r m _) ⟨jz, trivial⟩) ?_
   refine dkz az (unchanged_pure gB hhl hml (rm_bd gB (fit_rt gB hjl) m)) ?_
   refine dr_alloc rfl z25.h ?_
   refine dr_end ?_
   refine wz 1 ?_
   refine aw_drawc [] [4, 9] _ mo (by kernel_rfl) (HSub.refl _) ?_
   first | refine dc_ev rfl (ev_mv (v := .sl _ _) jz) ?_ | refine dc_ev rfl (ev_mv (v := .own _ _ _) jz) ?_ | refine dc_ev rfl (ev_mv (v := .raw _) jz) ?_ | refine dc_ev rfl (ev_mv (v := .slx _ _) jz) ?_ | refine dc_ev rfl (ev_mv (v := .msl _ _ _ _) jz) ?_
   first | refine dc_ev rfl (ev_fieldAddr fo25_0.h jz) ?_ | refine dc_ev rfl (ev_fieldAddr_i fo25_0.h jz) ?_
   first | refine dc_ev rfl (ev_load jz rfl ty3.h rfl) ?_ | refine dc_ev rfl (ev_load_i jz ty3.h rfl) ?_
   refine dc_ev rfl (ev_buildSlice (es := [[_]]) sf28.h rfl rfl rfl rfl) ?_
   refine dc_eff rfl rfl (eff_append rfl sf28.h Tryz.underlying28 rfl rfl (less_slx _ _) (by simp; omega) (by simp; omega)) (by apply HL.sub; repeat' (first | exact HL.nil _ | apply HL.same | apply HL.tok)) ?_
   first | refine dc_ev rfl (ev_mv (v := .sl _ _) jz) ?_ | refine dc_ev rfl (ev_mv (v := .own _ _ _) jz) ?_ | refine dc_ev rfl (ev_mv (v := .raw _) jz) ?_ | refine dc_ev rfl (ev_mv (v := .slx _ _) jz) ?_ | refine dc_ev rfl (ev_mv (v := .msl _ _ _ _) jz) ?_
   first | refine dc_ev rfl (ev_fieldAddr fo25_1.h jz) ?_ | refine dc_ev rfl (ev_fieldAddr_i fo25_1.h jz) ?_
   first | refine dc_ev rfl (ev_load jz rfl ty3.h rfl) ?_ | refine dc_ev rfl (ev_load_i jz ty3.h rfl) ?_
   refine dc_ev rfl (ev_buildSlice (es := [[_]]) sf28.h rfl rfl rfl rfl) ?_
   refine dc_eff rfl rfl (eff_append rfl sf28.h Tryz.underlying28 rfl rfl (less_slx _ _) (by simp; omega) (by simp; omega)) (by apply HL.sub; repeat' (first | exact HL.nil _ | apply HL.same | apply HL.tok)) ?_
   first | refine dc_ev rfl (ev_as (v := .sl _ _) jz) ?_ | refine dc_ev rfl (ev_as (v := .own _ _ _) jz) ?_ | refine dc_ev rfl (ev_as (v := .raw _) jz) ?_ | refine dc_ev rfl (ev_as (v := .slx _ _) jz) ?_ | refine dc_ev rfl (ev_as (v := .msl _ _ _ _) jz) ?_
   first | refine dc_ev rfl (ev_as (v := .sl _ _) jz) ?_ | refine dc_ev rfl (ev_as (v := .own _ _ _) jz) ?_ | refine dc_ev rfl (ev_as (v := .raw _) jz) ?_ | refine dc_ev rfl (ev_as (v := .slx _ _) jz) ?_ | refine dc_ev rfl (ev_as (v := .msl _ _ _ _) jz) ?_
   refine dc_nil ?_
   refine wz 2 ?_
   exact ⟨⟨j + 1, by omega⟩, by simp only; omega, sb 5 ⟨jz, Less.eq (by rw [eL] <;> rfl), Less.eq (by rw [eH] <;> rfl), jz, jz, jz, jz, jz, jz, trivial⟩ (hH := (by rw [eL, eH] <;> rfl))⟩
  obtain rfl : j = (fit r h f).length := by omega
  refine wz 1 ?_
  refine sq_ev rfl (ev_call en102.h jz (smin_pure ((fit r h f).map (lom r h m)) (by simp; exact fit_ne gB hm) (by simp; omega)) ⟨Less.trans (less_own _ _ _) (Less.eq (by simp only [loK, hiK, ints, List.take_length] <;> rfl)), trivial⟩) ?_
  refine wz 1 ?_
  refine sq_ev rfl (ev_call en103.h jz (smax_pure ((fit r h f).map (him r h m)) (by simp; exact fit_ne gB hm) (by simp; omega)) ⟨Less.trans (less_own _ _ _) (Less.eq (by simp only [loK, hiK, ints, List.take_length] <;> rfl)), trivial⟩) ?_
  refine wz 3 ?_
  exact retQ_res (vs := [.agg _, .raw _]) rfl rfl ⟨resVar_cell rfl rfl ty25.h rfl, resVar_tmp _ _ _, trivial⟩ (less_tup ⟨jz, jz, trivial⟩)
theorem days_pure (rate near step : Int) (hr : 0 ≤ rate ∧ rate ≤ 1300) (hn : 0 ≤ near ∧ near ≤ 300) (hs : 1 ≤ step ∧ step ≤ 100) : APure Tryz.prog 107 [I rate, I near, I step] (I (days rate near step)) := by
  refine ap Tryz.func107 (fun e0 he0 => ?_)
  refine vz 9 ?_
  refine sq_nil ?_
  refine aw_seq ?_
  have hq := tdiv_abs (n := max (rate - 1000) (1000 - rate) - near + step - 1) (s := step) (b := 10000) hs.1 (by omega)
  refine wz 5 ?_
  refine sq_ev rfl (ev_quo jz jz (by omega) (wr (by omega) (by omega))) ?_
  refine wz 2 ?_
  exact rz rfl (Less.eq (by unfold days; rfl))
theorem dries_ok {r : Rg} {h : Nat} {f : List Int} (hk : r.kinds.length ≤ 1000000) (hh : r.hides.length ≤ 1000000) (hw : ∀ h ∈ r.hides, h.length ≤ 1000000) (hl : f.length ≤ 1000000) (ho : okF r h f = true) (hm : may r h f = true) {near step : Int} (hds : okD near step = true) : APure Tryz.prog 50 [rgA r, I h, ints f, I near, I step] (.tup [.agg [I (driesOf r h f near step).1, I (driesOf r h f near step).2], I 0]) := by
  refine ap Tryz.func50 (fun e0 he0 => ?_)
  refine vz 3 ?_
  refine sq_nil ?_
  refine aw_seq ?_
  obtain ⟨gB, ⟨k0, hk0, hhl⟩, hfl, hrg, hfd⟩ := okF_facts ho
  obtain rfl : h = k0 := by omega
  have hLn := fit_len gB h f
  have hds2 := okD_iff.1 hds
  refine aw_drawc [14] [15] _ mo (by kernel_rfl) (HSub.refl _) ?_
  first | refine dc_ev rfl (ev_load_agg jz rfl ty27.h rfl) ?_ | refine dc_ev rfl (ev_load_agg_i jz ty27.h (by exact Nat.le_of_ble_eq_true rfl)) ?_
  refine dc_ev rfl (ev_mv (v := .raw _) jz) ?_
  first | refine dc_ev rfl (ev_mv (v := .sl _ _) jz) ?_ | refine dc_ev rfl (ev_mv (v := .own _ _ _) jz) ?_ | refine dc_ev rfl (ev_mv (v := .raw _) jz) ?_ | refine dc_ev rfl (ev_mv (v := .slx _ _) jz) ?_ | refine dc_ev rfl (ev_mv (v := .msl _ _ _ _) jz) ?_
  refine dc_ev rfl (ev_mv (v := .raw _) jz) ?_
  refine dc_ev rfl (ev_call en106.h jz (in_pure _ _ _) ⟨jz, jz, jz, trivial⟩) ?_
  refine dc_ev rfl (ev_mv (v := .raw _) jz) ?_
  refine dc_split 24 jz (fun g1_5 => ?_) (fun g1_5 => ?_)
  ·have g1_5' := g1_5
   try simp only [decide_eq_true_eq, decide_eq_false_iff_not, Bool.not_eq_true', Bool.not_eq_false', Bool.and_eq_true, Bool.or_eq_true, Bool.and_eq_false_iff, Bool.or_eq_false_iff, Bool.not_true, Bool.not_false, List.length_map, ne_eq, Decidable.not_not] at g1_5'
   refine dc_yes rfl rfl (less_b g1_5) rfl (ev_mv (v := .raw _) jz) ?_
   refine dc_yes rfl rfl (less_b g1_5) rfl (ev_call en106.h jz (in_pure _ _ _) ⟨jz, jz, jz, trivial⟩) ?_
   refine dc_ev rfl (ev_pickT (v := .raw _) (less_b g1_5) jz) ?_
   refine dc_ev rfl (ev_call en98.h jz (fit_okb (b := okD near step) hk hh hw hl ho hm hds) ⟨jz, jz, jz, (by exact less_b (by unfold okD; simp [*])), trivial⟩) ?_
   refine dc_ev rfl (ev_mv (v := .tup _) jz) ?_
   refine dc_ev rfl (ev_extract jz rfl) ?_
   refine dc_ev rfl (ev_extract jz rfl) ?_
   refine dc_ev rfl (ev_extract jz rfl) ?_
   refine dc_alloc rfl rfl z115.h ?_
   refine dc_eff rfl rfl (eff_store rfl jz jz rfl rfl ty115.h rfl rfl) (by apply HL.sub; repeat' (first | exact HL.nil _ | apply HL.same | apply HL.tok)) ?_
   first | refine dc_ev rfl (ev_as (v := .sl _ _) jz) ?_ | refine dc_ev rfl (ev_as (v := .own _ _ _) jz) ?_ | refine dc_ev rfl (ev_as (v := .raw _) jz) ?_ | refine dc_ev rfl (ev_as (v := .slx _ _) jz) ?_ | refine dc_ev rfl (ev_as (v := .msl _ _ _ _) jz) ?_
   refine dc_ev rfl (ev_as (v := .raw _) jz) ?_
   refine dc_nil ?_
   refine wz 2 ?_
   refine iz (fun c_33 c_33' => ?_) (fun c_33 c_33' => ?_)
   ·exfalso
    simp_all
   refine vz 4 ?_
   refine sq_nil ?_
   refine aw_block ?_
   refine aw_sub (sub_token 15 1 jz) ?_
   refine aw_loopk (ι := { k : Nat // k ≤ (fit r h f).length }) [3, 4, 10, 36, 37] (fun i => [(38, I i.1), (15, .own 3 1 ((dyK r h f near step i.1).map fun x => [I x]))]) (fun H i => H.set 3 (.tok ((dyK r h f near step i.1).map fun x => [I x]).length)) (fun i => (fit r h f).length - i.1) (⟨0, Nat.zero_le _⟩) ⟨jz, jz, jz, jz, jz, jz, jz, trivial⟩ rfl ?_
   rintro ⟨k, hk⟩
   refine nz ?_
   have hal : (dyK r h f near step k).length ≤ 1681 := Nat.le_trans (takeL _ _ _) hLn
   refine wz 1 ?_
   refine iz (fun c_39 c_39' => ?_) (fun c_39 c_39' => ?_)
   ·have hjl : k < (fit r h f).length := by omega
    have hrb := rates_bd gB (fit_rt gB hjl)
    have hdb := days_bd hrb.1 hds2.1 hds2.2
    have hdb2 := days_bd hrb.2 hds2.1 hds2.2
    have eS : ((dyK r h f near step (k + 1)).map fun x => [I x]) = ((dyK r h f near step k).map fun x => [I x]) ++ [[I (dayX near step (fit r h f)[k])]] := by unfold dyK; rw [takeM hjl, List.map_append]; rfl
    refine wz 4 ?_
    refine aw_draw 13 mo (by kernel_rfl) ?_
    refine dz 2 ?_
    refine dkz az (along_pure _) ?_
    refine dz 2 ?_
    refine dkz az (days_pure _ _ _ (by first | exact hrb.1 | exact hrb.2) hds2.1 hds2.2) ?_
    refine dz 1 ?_
    refine dkz az (across_pure _) ?_
    refine dz 2 ?_
    refine dkz az (days_pure _ _ _ (by first | exact hrb.1 | exact hrb.2) hds2.1 hds2.2) ?_
    refine dz 1 ?_
    refine dr_ev rfl (ev_buildSlice (es := [[_]]) sf28.h rfl rfl rfl rfl) ?_
    refine dr_end ?_
    first | refine sq_append rfl sf28.h Tryz.underlying28 rfl rfl jz (Nat.succ_pos _) (by simp; omega) (by simp; omega) ?_ | refine sq_append rfl sf28.h Tryz.underlying28 rfl rfl (less_slx _ _) (Nat.succ_pos _) (by simp; omega) (by simp; omega) ?_
    refine wz 3 ?_
    exact ⟨⟨k + 1, by omega⟩, by simp only; omega, sb 4 ⟨jz, Less.eq (by rw [eS] <;> rfl), jz, jz, jz, jz, jz, trivial⟩ (hH := (congrArg (fun n => [_, _, _, AObj.tok n]) (congrArg List.length eS.symm)))⟩
   obtain rfl : k = (fit r h f).length := by omega
   refine wz 1 ?_
   refine sq_ev rfl (ev_call en99.h jz (bound_pure ((fit r h f).map (dayX near step)) (by simp; exact fit_ne gB hm) (by simp; omega)) ⟨Less.trans (less_own _ _ _) (Less.eq (by simp only [dyK, ints, List.take_length] <;> rfl)), trivial⟩) ?_
   refine wz 2 ?_
   exact retQ_res (vs := [.agg _, .raw _]) rfl rfl ⟨resVar_cell rfl rfl ty25.h rfl, resVar_tmp _ _ _, trivial⟩ (less_tup ⟨jz, jz, trivial⟩)
  have g1_5' := g1_5
  try simp only [decide_eq_true_eq, decide_eq_false_iff_not, Bool.not_eq_true', Bool.not_eq_false', Bool.and_eq_true, Bool.or_eq_true, Bool.and_eq_false_iff, Bool.or_eq_false_iff, Bool.not_true, Bool.not_false, List.length_map, ne_eq, Decidable.not_not] at g1_5'
  refine dc_no rfl rfl (less_b g1_5) rfl rfl ?_
  refine dc_no rfl rfl (less_b g1_5) rfl rfl ?_
  refine dc_ev rfl (ev_pickF (v := .raw _) (less_b g1_5) jz) ?_
  refine dc_ev rfl (ev_call en98.h jz (fit_okb (b := okD near step) hk hh hw hl ho hm hds) ⟨jz, jz, jz, (by exact less_b (by unfold okD; simp [*])), trivial⟩) ?_
  refine dc_ev rfl (ev_mv (v := .tup _) jz) ?_
  refine dc_ev rfl (ev_extract jz rfl) ?_
  refine dc_ev rfl (ev_extract jz rfl) ?_
  refine dc_ev rfl (ev_extract jz rfl) ?_
  refine dc_alloc rfl rfl z115.h ?_
  refine dc_eff rfl rfl (eff_store rfl jz jz rfl rfl ty115.h rfl rfl) (by apply HL.sub; repeat' (first | exact HL.nil _ | apply HL.same | apply HL.tok)) ?_
  first | refine dc_ev rfl (ev_as (v := .sl _ _) jz) ?_ | refine dc_ev rfl (ev_as (v := .own _ _ _) jz) ?_ | refine dc_ev rfl (ev_as (v := .raw _) jz) ?_ | refine dc_ev rfl (ev_as (v := .slx _ _) jz) ?_ | refine dc_ev rfl (ev_as (v := .msl _ _ _ _) jz) ?_
  refine dc_ev rfl (ev_as (v := .raw _) jz) ?_
  refine dc_nil ?_
  refine wz 2 ?_
  refine iz (fun c_33 c_33' => ?_) (fun c_33 c_33' => ?_)
  ·exfalso
   simp_all
  refine vz 4 ?_
  refine sq_nil ?_
  refine aw_block ?_
  refine aw_sub (sub_token 15 1 jz) ?_
  refine aw_loopk (ι := { k : Nat // k ≤ (fit r h f).length }) [3, 4, 10, 36, 37] (fun i => [(38, I i.1), (15, .own 3 1 ((dyK r h f near step i.1).map fun x => [I x]))]) (fun H i => H.set 3 (.tok ((dyK r h f near step i.1).map fun x => [I x]).length)) (fun i => (fit r h f).length - i.1) (⟨0, Nat.zero_le _⟩) ⟨jz, jz, jz, jz, jz, jz, jz, trivial⟩ rfl ?_
  rintro ⟨k, hk⟩
  refine nz ?_
  have hal : (dyK r h f near step k).length ≤ 1681 := Nat.le_trans (takeL _ _ _) hLn
  refine wz 1 ?_
  refine iz (fun c_39 c_39' => ?_) (fun c_39 c_39' => ?_)
  ·have hjl : k < (fit r h f).length := by omega
   have hrb := rates_bd gB (fit_rt gB hjl)
   have hdb := days_bd hrb.1 hds2.1 hds2.2
   have hdb2 := days_bd hrb.2 hds2.1 hds2.2
   have eS : ((dyK r h f near step (k + 1)).map fun x => [I x]) = ((dyK r h f near step k).map fun x => [I x]) ++ [[I (dayX near step (fit r h f)[k])]] := by unfold dyK; rw [takeM hjl, List.map_append]; rfl
   refine wz 4 ?_
   refine aw_draw 13 mo (by kernel_rfl) ?_
   refine dz 2 ?_
   refine dkz az (along_pure _) ?_
   refine dz 2 ?_
   refine dkz az (days_pure _ _ _ (by first | exact hrb.1 | exact hrb.2) hds2.1 hds2.2) ?_
   refine dz 1 ?_
   refine dkz az (across_pure _) ?_
   refine dz 2 ?_
   refine dkz az (days_pure _ _ _ (by first | exact hrb.1 | exact hrb.2) hds2.1 hds2.2) ?_
   refine dz 1 ?_
   refine dr_ev rfl (ev_buildSlice (es := [[_]]) sf28.h rfl rfl rfl rfl) ?_
   refine dr_end ?_
   first | refine sq_append rfl sf28.h Tryz.underlying28 rfl rfl jz (Nat.succ_pos _) (by simp; omega) (by simp; omega) ?_ | refine sq_append rfl sf28.h Tryz.underlying28 rfl rfl (less_slx _ _) (Nat.succ_pos _) (by simp; omega) (by simp; omega) ?_
   refine wz 3 ?_
   exact ⟨⟨k + 1, by omega⟩, by simp only; omega, sb 4 ⟨jz, Less.eq (by rw [eS] <;> rfl), jz, jz, jz, jz, jz, trivial⟩ (hH := (congrArg (fun n => [_, _, _, AObj.tok n]) (congrArg List.length eS.symm)))⟩
  obtain rfl : k = (fit r h f).length := by omega
  refine wz 1 ?_
  refine sq_ev rfl (ev_call en99.h jz (bound_pure ((fit r h f).map (dayX near step)) (by simp; exact fit_ne gB hm) (by simp; omega)) ⟨Less.trans (less_own _ _ _) (Less.eq (by simp only [dyK, ints, List.take_length] <;> rfl)), trivial⟩) ?_
  refine wz 2 ?_
  exact retQ_res (vs := [.agg _, .raw _]) rfl rfl ⟨resVar_cell rfl rfl ty25.h rfl, resVar_tmp _ _ _, trivial⟩ (less_tup ⟨jz, jz, trivial⟩)
end Go.Proofs.YtjpokekbjmdgmaaGreatDoor
namespace Go.Proofs.YtjpokekbjmdgmaaGreatDoor
open Go Go.Ab Ni Hd
def row (g : Nat → AV) : List AV := (List.range 1001).map g
theorem row_len (g : Nat → AV) : (row g).length = 1001 := by unfold row; rw [List.length_map, List.length_range]
theorem row_congr {g h : Nat → AV} (e : ∀ x, x < 1001 → g x = h x) : row g = row h := List.map_congr_left fun x hx => e x (List.mem_range.1 hx)
theorem row_get {g : Nat → AV} {i : Nat} (hi : i < 1001) : (row g)[i]? = some (g i) := by unfold row; rw [List.getElem?_map, List.getElem?_range hi]; rfl
theorem row_td (g : Nat → AV) : ((row g).drop 0).take 1001 = row g := by rw [List.drop_zero, List.take_of_length_le (by rw [row_len]; exact Nat.le_refl _)]
theorem row_set {g g' : Nat → AV} {v : AV} {i : Nat} (hi : i < 1001) (e : ∀ x, x < 1001 → g' x = if x = i then v else g x) : (row g).take i ++ [v] ++ (row g).drop (i + 1) = row g' := by
  rw [List.append_assoc]
  have h1 : (row g).set i v = (row g).take i ++ v :: (row g).drop (i + 1) := List.set_eq_take_append_cons_drop.trans (if_pos (by rw [row_len]; exact hi))
  have h2 : (row g).take i ++ ([v] ++ (row g).drop (i + 1)) = (row g).set i v := h1.symm
  rw [h2]
  refine List.ext_getElem? fun x => ?_
  rw [List.getElem?_set]
  by_cases hx : x < 1001
  · rw [row_get hx, row_get hx, e x hx]
    by_cases c : i = x
    · subst c; rw [if_pos rfl, if_pos (by rw [row_len]; exact hi), if_pos rfl]
    · rw [if_neg c, if_neg (fun q => c q.symm)]
  · have hn : ∀ f : Nat → AV, (row f)[x]? = none := fun f => List.getElem?_eq_none (by rw [row_len]; omega)
    rw [if_neg (by omega), hn, hn]
theorem in_row {n : Nat} {g : Nat → AV} (h : ∀ x, AV.inB n (g x) = true) : AV.inL n (row g) = true := by
  unfold row
  generalize List.range 1001 = l
  induction l with
  | nil => rfl
  | cons a l ih => rw [List.map_cons, AV.inL, h, ih]; rfl
theorem pure_row {g : Nat → AV} (h : ∀ x, AV.pureB (g x) = true) : AV.pureL (row g) = true := by
  unfold row
  generalize List.range 1001 = l
  induction l with
  | nil => rfl
  | cons a l ih => rw [List.map_cons, AV.pureL, h, ih]; rfl
@[simp] theorem in_rowB (n : Nat) (p : Nat → Bool) : AV.inL n (row fun x => .raw (.bool (p x))) = true := in_row fun _ => rfl
@[simp] theorem in_rowI (n : Nat) (p : Nat → Int) : AV.inL n (row fun x => .raw (.int .i64 (p x))) = true := in_row fun _ => rfl
@[simp] theorem pure_rowB (p : Nat → Bool) : AV.pureL (row fun x => .raw (.bool (p x))) = true := pure_row fun _ => rfl
section
variable {c : Ctx} {ops : Array Oper} {Q : AExit → St → Prop} {rest : List Oper} {s : St} {i : Nat}
variable {d : Option Tmp} {t : TypeId} {p : String} {af : Array Edge}
theorem sq_storeRow {st : TypeId} {x y : Operand} {a v : AV} {j off u : Nat} {bb : Bool} {g : Nat → AV} (g' : Nat → AV) (hd : dOK c.nt d = true) (hdn : d = none)
    (hx : Less (s.op x) (.ptr j off)) (hy : Less (s.op y) a) (hm : a.cells = some [v]) (hj : s.H[j]? = some (.cells (row g))) (ht : tySz c.P st = some (bb, 1)) (ho : off = u) (hu : u < 1001) (e : ∀ x, x < 1001 → g' x = if x = u then v else g x)
    (k : SeqWP c ops Q (i + 1) rest { s with H := s.H.set j (.cells (row g')) }) : SeqWP c ops Q i (⟨d, .store st x y, t, p, af, none⟩ :: rest) s := by
  subst hdn ho
  refine sq_store hd hx hy hm hj ht rfl (by rw [row_len]; exact Nat.ble_eq_true_of_le hu) ?_
  have : (row g).take off ++ [v] ++ (row g).drop (off + [v].length) = row g' := row_set hu e
  rw [this]; exact k
theorem sq_storeFull {st : TypeId} {x y : Operand} {a : AV} {j n : Nat} {bb : Bool} {l m : List AV} (hd : dOK c.nt d = true) (hdn : d = none)
    (hx : Less (s.op x) (.ptr j 0)) (hy : Less (s.op y) a) (hm : a.cells = some m) (hj : s.H[j]? = some (.cells l)) (ht : tySz c.P st = some (bb, n)) (h1 : m.length = n) (h2 : l.length = n)
    (k : SeqWP c ops Q (i + 1) rest { s with H := s.H.set j (.cells m) }) : SeqWP c ops Q i (⟨d, .store st x y, t, p, af, none⟩ :: rest) s := by
  subst hdn
  refine sq_store hd hx hy hm hj ht (by rw [h1]; exact Nat.beq_refl n) (by rw [h2, Nat.zero_add]; exact Nat.ble_eq_true_of_le (Nat.le_refl _)) ?_
  have : l.take 0 ++ m ++ l.drop (0 + m.length) = m := by rw [Nat.zero_add, h1, ← h2, List.drop_length, List.take_zero]; simp
  rw [this]; exact k
end
section
variable {P : Program} {r : Option Nat} {H : List AObj} {ρ : Operand → AV}
variable {d : Option Tmp} {t : TypeId} {p : String} {af : Array Edge} {g : Option (Nat × Bool)} {x y : Operand}
theorem ev_loadRow {j : Nat} {h : Nat → AV} {lt : TypeId} (hx : Less (ρ x) (.ptr j 0)) (hH : H[j]? = some (.cells (row h))) (ht : tySz P lt = some (true, 1001)) : Ev P r ⟨d, .load lt x, t, p, af, g⟩ H ρ (.agg (row h)) :=
  ev_less (ev_load_agg hx hH ht (by rw [row_len]; rfl)) (Less.eq (by rw [row_td]))
end
instance ar153 : ArE Tryz.prog 153 1001 4 1 := ⟨by kernel_rfl⟩
instance ty153 : TyF Tryz.prog 153 true 1001 := ⟨by kernel_rfl⟩
instance ty4 : TyF Tryz.prog 4 false 1 := ⟨by kernel_rfl⟩
instance z153 : ZeO Tryz.prog 153 (row fun _ => B false) := ⟨by kernel_rfl⟩
def cndK (r : Rg) (h : Nat) (f : List Int) (m : Nat) (x n : Int) : Bool := decide (few r h f (1 - kp r m) + ((chs r h f (kp r m) n).length : Int) < r.mends) || (decide (few r h f (1 - kp r m) + ((chs r h f (kp r m) n).length : Int) = r.mends) && inn x (lo r.off (sz r h m * n)) (hi r.off (sz r h m * n)))
def pK (r : Rg) (h : Nat) (f : List Int) (m k : Nat) (x : Nat) : Bool := ((rng (sl r (kp r m)) (sh r (kp r m))).take k).any fun n => cndK r h f m x n
theorem pK_succ {r : Rg} {h : Nat} {f : List Int} {m k x : Nat} (hk : k < (rng (sl r (kp r m)) (sh r (kp r m))).length) : pK r h f m (k + 1) x = (pK r h f m k x || cndK r h f m x (sl r (kp r m) + k)) := by
  unfold pK; rw [List.take_succ_eq_append_getElem hk, List.any_append, rng_get]; simp
theorem pK_all (r : Rg) (h : Nat) (f : List Int) (m x : Nat) : pK r h f m (rng (sl r (kp r m)) (sh r (kp r m))).length x = afterB r h f m x := by unfold pK afterB; rw [List.take_length]; rfl
abbrev afT (r : Rg) (h : Nat) (f : List Int) (m : Nat) (R : List AV) (X : List AObj) : List AObj := .cells (fdC r h f) :: .cells [I m] :: .cells (row fun _ => B false) :: .cells R :: .cells [I (kp r m)] :: .cells [I (few r h f (1 - kp r m))] :: X
theorem row0 (p : Nat → Bool) (a : Int) : (row fun x => B (p x || inn x a (a + ((0 : Nat) : Int) - 1))) = row fun x => B (p x) := row_congr fun x _ => by
  have : inn x a (a + ((0 : Nat) : Int) - 1) = false := by unfold inn; simp; omega
  rw [this, Bool.or_false]
theorem row1 (p : Nat → Bool) {a : Int} {j : Nat} (h0 : 0 ≤ a) : ∀ x, x < 1001 → B (p x || inn x a (a + ((j + 1 : Nat) : Int) - 1)) = if x = (a + j).toNat then B true else B (p x || inn x a (a + (j : Int) - 1)) := fun x _ => by
  by_cases c : x = (a + j).toNat
  · rw [if_pos c]
    have : inn x a (a + ((j + 1 : Nat) : Int) - 1) = true := by unfold inn; simp; omega
    rw [this, Bool.or_true]
  · rw [if_neg c]
    have : inn x a (a + ((j + 1 : Nat) : Int) - 1) = inn x a (a + (j : Int) - 1) := by unfold inn; rw [Bool.eq_iff_iff]; simp; omega
    rw [this]
theorem kindm_pure {r : Rg} (gB : RgB r) {m : Nat} (hm : m < r.kinds.length) : APure Tryz.prog 83 [I r.kinds[m]] (I (kp r m)) := by
  have h := kind_pure r.kinds[m] (by have := gB.kd m hm; rw [kd_at hm] at this; omega)
  rw [(kd_kp gB hm).1] at h; exact h
theorem fewestk_pure {r : Rg} (gB : RgB r) {h : Nat} {f : List Int} (hh : h < r.hides.length) (hf : f.length = r.kinds.length) {m : Nat} (hm : m < r.kinds.length) : APure Tryz.prog 141 [fdA r h f, I (1 - (kp r m : Int))] (I (few r h f (1 - kp r m))) := by
  rcases kp_cases gB hm with ⟨_, e⟩ | ⟨_, e⟩ <;> rw [e]
  · exact fewest1_pure gB hh hf
  · exact fewest0_pure gB hh hf
theorem span_bd {r : Rg} (gB : RgB r) {m : Nat} (hm : m < r.kinds.length) : (700 ≤ sl r (kp r m) ∧ sl r (kp r m) ≤ 1300) ∧ (sl r (kp r m) ≤ sh r (kp r m) ∧ sh r (kp r m) ≤ 1300) := by
  have ha := gB.a; have hb := gB.b
  rcases kp_cases gB hm with ⟨_, e⟩ | ⟨_, e⟩ <;> rw [e]
  · rw [sl0, sh0]; omega
  · rw [sl1, sh1]; omega
theorem after_pure {r : Rg} (gB : RgB r) {h : Nat} {f : List Int} (hhl : h < r.hides.length) (hfl : f.length = r.kinds.length) {m : Nat} (hml : m < r.kinds.length) : APure Tryz.prog 110 [fdA r h f, I m] (.agg (row fun x => B (afterB r h f m x))) := by
  refine apure_of_marks (rs := [.cell 4 153]) Tryz.func110 rfl rfl (Nat.le_of_ble_eq_true rfl) (by simp [AV.pureL, AV.pureB, AV.pureE, pureE_map]) (by simp [AV.pureB]) fun e0 he0 => ?_
  refine aw_seq ?_
  have hsp := span_bd gB hml
  have hfk := few_bd gB h f (k := 1 - kp r m) (by rcases kp_cases gB hml with ⟨_, e⟩ | ⟨_, e⟩ <;> rw [e]; (rw [sl1, sh1]; exact gB.b.2.1.1); (rw [sl0, sh0]; exact gB.a.2.1.1))
  have hoff := gB.off
  have hmd := gB.mends
  have hk2 := (kd_kp gB hml).2
  refine wz 10 ?_
  refine kz az (kindm_pure gB hml) ?_
  refine wz 5 ?_
  refine kz az (fewestk_pure gB hhl hfl hml) ?_
  refine wz 2 ?_
  refine aw_draw 6 mo (by kernel_rfl) ?_
  refine dz 2 ?_
  refine dkz az (spans_pure r) ?_
  refine dz 1 ?_
  refine dr_ev rfl (ev_less (ev_indexv_agg (k := kp r m) ar191.h ty25.h jz jz rfl hk2) (Less.eq (b := .agg [I (sl r (kp r m)), I (sh r (kp r m))]) (by rcases kp_cases gB hml with ⟨_, e⟩ | ⟨_, e⟩ <;> rw [e] <;> rfl))) ?_
  refine dkz az (numbers_pure _ _) ?_
  refine dr_end (sq_nil ?_)
  refine aw_block ?_
  refine nz ?_
  refine aw_rangeFuncP (xs := rngA (sl r (kp r m)) (sh r (kp r m))) (fun k => afT r h f m (row fun x => B (pK r h f m k x)) []) ((rngA (sl r (kp r m)) (sh r (kp r m))).length) (none) (Nat.le_refl _) (fun _ => rfl) (fun h => absurd rfl h) rfl (enters_outer rfl) dd_in jz en166.h ((numbers_iter (by omega) (by omega)).to2) (rfl) (fun _ => rfl) (fun k hk => by simp [objsIn, AObj.inB, AV.inB, AV.inL, in_row]) (fun x hx => rngA_pure hx) rfl rfl ?_ ?_
  ·intro q i x e2 hiq hx he2 hlp hce
   obtain ⟨hd, rfl⟩ := rngA_get hx
   have hrd : 0 ≤ sl r (kp r m) + (i : Int) ∧ sl r (kp r m) + (i : Int) ≤ 1300 := by have h1 := rng_len (sl r (kp r m)) (sh r (kp r m)); omega
   have hcl := chs_le gB h f (kp r m) (sl r (kp r m) + (i : Int))
   have hlg := long_bd gB hhl hml hrd
   have hlb := lo_bd hoff hlg
   have hhb := hi_bd hoff hlg
   refine nz ?_
   refine wz 0 ?_
   refine aw_draw 8 mo (by kernel_rfl) ?_
   refine dz 4 ?_
   refine dkz az (changes_pure gB (kp r m) hhl hrd hfl) ?_
   refine dz 3 ?_
   refine wz 3 ?_
   refine kz az (unchanged_pure gB hhl hml hrd) ?_
   refine wz 7 ?_
   refine iz (fun c_45 c_45' => ?_) (fun c_45 c_45' => ?_)
   ·refine wz 7 ?_
    refine iz (fun c_51 c_51' => ?_) (fun c_51 c_51' => ?_)
    ·have hcn : ∀ x : Nat, cndK r h f m x (sl r (kp r m) + i) = false := fun x => by unfold cndK; rw [decide_eq_false (by omega), decide_eq_false (by omega)]; rfl
     exfalso
     omega
    refine wz 3 ?_
    refine aw_loopk (ι := { j : Nat // j = 0 ∨ 0 + (j : Int) ≤ 1000 + 1 }) [4, 5, 10] (fun q => [(11, I (0 + (q.1 : Int)))]) (fun H q => afT r h f m (row fun x => B (pK r h f m i x || inn x 0 (0 + (q.1 : Int) - 1))) [.cells [I 0, I 1000]]) (fun q => (1000 + 1 - 0 - (q.1 : Int)).toNat) (⟨0, .inl rfl⟩) ⟨(by exact less_int (show (0 : Int) = 0 + ((0 : Nat) : Int) by omega)), jz, jz, jz, trivial⟩ (congrArg (fun R => afT r h f m R [.cells [I 0, I 1000]]) (row0 _ _)) ?_
    rintro ⟨j, hj⟩
    refine nz ?_
    refine wz 4 ?_
    refine iz (fun c_57 c_57' => ?_) (fun c_57 c_57' => ?_)
    ·refine wz 1 ?_
     refine sq_ev rfl (ev_index_box (k := (0 + (j : Int)).toNat) ar153.h jz jz (by omega) (by omega)) ?_
     refine sq_storeRow (g := fun x => B (pK r h f m i x || inn x 0 (0 + (j : Int) - 1))) (fun x => B (pK r h f m i x || inn x 0 (0 + ((j + 1 : Nat) : Int) - 1))) rfl rfl jz jz rfl rfl ty4.h (u := (0 + (j : Int)).toNat) (by omega) (by omega) (row1 _ (by omega)) ?_
     refine wz 3 ?_
     exact ⟨⟨j + 1, by right; omega⟩, by simp only; omega, sb 7 ⟨(by exact less_int (show (0 : Int) + (j : Int) + 1 = 0 + ((j + 1 : Nat) : Int) by omega)), jz, jz, jz, trivial⟩ (hH := rfl) (hn := by simp [he2])⟩
    refine wz 0 ?_
    exact ⟨⟨[.cells [I 0, I 1000]], congrArg (fun R => afT r h f m R [.cells [I 0, I 1000]]) (row_congr fun x hx => by (rw [pK_succ hd]; have e1 : cndK r h f m x (sl r (kp r m) + i) = true := (by unfold cndK; rw [decide_eq_true (by omega)] <;> rfl); have e2 : inn x 0 (0 + (j : Int) - 1) = true := (by unfold inn; rw [Bool.eq_iff_iff]; simp; omega); rw [e1, e2]))⟩, rfl, by split <;> rfl⟩
   refine wz 5 ?_
   refine iz (fun c_51 c_51' => ?_) (fun c_51 c_51' => ?_)
   ·have hcn : ∀ x : Nat, cndK r h f m x (sl r (kp r m) + i) = false := fun x => by unfold cndK; rw [decide_eq_false (by omega), decide_eq_false (by omega)]; rfl
    refine wz 0 ?_
    exact ⟨⟨[.cells [I (lo r.off (sz r h m * (sl r (kp r m) + i))), I (hi r.off (sz r h m * (sl r (kp r m) + i)))]], congrArg (fun R => afT r h f m R [.cells [I (lo r.off (sz r h m * (sl r (kp r m) + i))), I (hi r.off (sz r h m * (sl r (kp r m) + i)))]]) (row_congr fun x hx => by rw [pK_succ hd, hcn x, Bool.or_false])⟩, rfl, by split <;> rfl⟩
   refine wz 3 ?_
   refine aw_loopk (ι := { j : Nat // j = 0 ∨ (lo r.off (sz r h m * (sl r (kp r m) + i))) + (j : Int) ≤ (hi r.off (sz r h m * (sl r (kp r m) + i))) + 1 }) [4, 5, 10] (fun q => [(11, I ((lo r.off (sz r h m * (sl r (kp r m) + i))) + (q.1 : Int)))]) (fun H q => afT r h f m (row fun x => B (pK r h f m i x || inn x (lo r.off (sz r h m * (sl r (kp r m) + i))) ((lo r.off (sz r h m * (sl r (kp r m) + i))) + (q.1 : Int) - 1))) [.cells [I (lo r.off (sz r h m * (sl r (kp r m) + i))), I (hi r.off (sz r h m * (sl r (kp r m) + i)))]]) (fun q => ((hi r.off (sz r h m * (sl r (kp r m) + i))) + 1 - (lo r.off (sz r h m * (sl r (kp r m) + i))) - (q.1 : Int)).toNat) (⟨0, .inl rfl⟩) ⟨(by exact less_int (show ((lo r.off (sz r h m * (sl r (kp r m) + i))) : Int) = (lo r.off (sz r h m * (sl r (kp r m) + i))) + ((0 : Nat) : Int) by omega)), jz, jz, jz, trivial⟩ (congrArg (fun R => afT r h f m R [.cells [I (lo r.off (sz r h m * (sl r (kp r m) + i))), I (hi r.off (sz r h m * (sl r (kp r m) + i)))]]) (row0 _ _)) ?_
   rintro ⟨j, hj⟩
   refine nz ?_
   refine wz 4 ?_
   refine iz (fun c_57 c_57' => ?_) (fun c_57 c_57' => ?_)
   ·refine wz 1 ?_
    refine sq_ev rfl (ev_index_box (k := ((lo r.off (sz r h m * (sl r (kp r m) + i))) + (j : Int)).toNat) ar153.h jz jz (by omega) (by omega)) ?_
    refine sq_storeRow (g := fun x => B (pK r h f m i x || inn x (lo r.off (sz r h m * (sl r (kp r m) + i))) ((lo r.off (sz r h m * (sl r (kp r m) + i))) + (j : Int) - 1))) (fun x => B (pK r h f m i x || inn x (lo r.off (sz r h m * (sl r (kp r m) + i))) ((lo r.off (sz r h m * (sl r (kp r m) + i))) + ((j + 1 : Nat) : Int) - 1))) rfl rfl jz jz rfl rfl ty4.h (u := ((lo r.off (sz r h m * (sl r (kp r m) + i))) + (j : Int)).toNat) (by omega) (by omega) (row1 _ (by omega)) ?_
    refine wz 3 ?_
    exact ⟨⟨j + 1, by right; omega⟩, by simp only; omega, sb 7 ⟨(by exact less_int (show ((lo r.off (sz r h m * (sl r (kp r m) + i))) : Int) + (j : Int) + 1 = (lo r.off (sz r h m * (sl r (kp r m) + i))) + ((j + 1 : Nat) : Int) by omega)), jz, jz, jz, trivial⟩ (hH := rfl) (hn := by simp [he2])⟩
   refine wz 0 ?_
   exact ⟨⟨[.cells [I (lo r.off (sz r h m * (sl r (kp r m) + i))), I (hi r.off (sz r h m * (sl r (kp r m) + i)))]], congrArg (fun R => afT r h f m R [.cells [I (lo r.off (sz r h m * (sl r (kp r m) + i))), I (hi r.off (sz r h m * (sl r (kp r m) + i)))]]) (row_congr fun x hx => by (rw [pK_succ hd]; have e1 : cndK r h f m x (sl r (kp r m) + i) = inn x (lo r.off (sz r h m * (sl r (kp r m) + i))) (hi r.off (sz r h m * (sl r (kp r m) + i))) := (by unfold cndK; rw [decide_eq_false (by omega), decide_eq_true (by omega), Bool.false_or, Bool.true_and]); have e2 : inn x (lo r.off (sz r h m * (sl r (kp r m) + i))) ((lo r.off (sz r h m * (sl r (kp r m) + i))) + (j : Int) - 1) = inn x (lo r.off (sz r h m * (sl r (kp r m) + i))) (hi r.off (sz r h m * (sl r (kp r m) + i))) := (by unfold inn; rw [Bool.eq_iff_iff]; simp; omega); rw [e1, e2]))⟩, rfl, by split <;> rfl⟩
  ·rintro _ rfl
   have hfull : (rngA (sl r (kp r m)) (sh r (kp r m))).length = (rng (sl r (kp r m)) (sh r (kp r m))).length := by simp
   rw [hfull]
   refine nz ?_
   refine wz 0 ?_
   refine sq_ev rfl (ev_loadRow jz rfl ty153.h) ?_
   refine sq_storeFull rfl rfl jz jz rfl rfl ty153.h (row_len _) (row_len _) ?_
   refine wz 0 ?_
   exact retQM_res (vs := [.agg _]) rfl rfl ⟨resVar_cell rfl rfl ty153.h (by rw [row_len]; rfl), trivial⟩ (Less.eq (by show AV.agg _ = AV.agg _; rw [row_td]; exact congrArg AV.agg (row_congr fun x _ => by rw [pK_all])))
end Go.Proofs.YtjpokekbjmdgmaaGreatDoor
namespace Go.Proofs.YtjpokekbjmdgmaaGreatDoor
open Go Go.Ab Ni Hd
section
variable {P : Program} {r : Option Nat} {H : List AObj} {ρ : Operand → AV}
variable {d : Option Tmp} {t : TypeId} {p : String} {af : Array Edge} {g : Option (Nat × Bool)} {x y : Operand}
theorem ev_slice_box_i {xt et : TypeId} {len sz : Nat} {es : List (List AV)} (ht : arrElem P xt = some (len, et, sz)) (h0 : 0 < len) (hx : Less (ρ x) (.iptr es.flatten)) (hl : es.length = len) (hsz : ∀ c ∈ es, c.length = sz) :
    Ev P r ⟨d, .slice xt x none none none, t, p, af, g⟩ H ρ (.sl sz es) :=
  Ev.pure (by intro c h; cases h) fun e ρc ok hE hs => by
    obtain ⟨h1, ti, h2, rfl⟩ := arrElem_und ht
    have := hx e _ (hs x (by simp [Op.operands]))
    rw [Rep] at this
    obtain ⟨b, off, hpv, hc⟩ := this
    refine ⟨.slice (some ⟨b, off, none⟩) len len, ?_, ?_⟩
    · have hb : (Instr.sliceBounds false len len none none none).run P e.w = .ok (0, len, len) e.w := by simp [Instr.sliceBounds]
      have hne : ¬ len = 0 := by omega
      simp [execOp, Instr.sliceAt, hpv, run_und h1, run_size h2, hb, Addr.add_lit, Instr.sureAddr, hne]
    · rw [Rep]
      refine ⟨_, _, _, rfl, hl.symm, Nat.le_refl _, (fun h => by cases h), hsz, fun ad had => ?_⟩
      simp only [Option.some.injEq] at had
      subst had
      exact ⟨fun _ => rfl, ElemsAt.flat.2 hc⟩
end
instance ar152 : ArE Tryz.prog 152 1001 3 1 := ⟨by kernel_rfl⟩
instance bi156 : BdI Tryz.prog 156 [.raw (.int .i64 0), .raw (.int .i64 0)] true [(0, 1), (1, 1)] 0 := ⟨by kernel_rfl⟩
instance en110 : EnT Tryz.prog 110 := ⟨Ent.of Tryz.func110 (by kernel_rfl) rfl⟩
instance en111 : EnT Tryz.prog 111 := ⟨Ent.of Tryz.func111 (by kernel_rfl) rfl⟩
instance en112 : EnT Tryz.prog 112 := ⟨Ent.of Tryz.func112 (by kernel_rfl) rfl⟩
instance fo156_0 : FoF Tryz.prog 156 0 0 3 := ⟨by kernel_rfl⟩
instance fo156_1 : FoF Tryz.prog 156 1 1 3 := ⟨by kernel_rfl⟩
instance sf151 : SlS Tryz.prog 151 156 2 16 := ⟨SlFact.of (by kernel_rfl)⟩
instance sl151 : SlE Tryz.prog 151 156 2 := ⟨by kernel_rfl⟩
instance ty156 : TyF Tryz.prog 156 true 2 := ⟨by kernel_rfl⟩
instance ud151 : UnD Tryz.prog 151 (.slice 156) := ⟨Tryz.underlying151⟩
instance z152 : ZeO Tryz.prog 152 (row fun _ => I 0) := ⟨by kernel_rfl⟩
instance z156 : ZeO Tryz.prog 156 [.raw (.int .i64 0), .raw (.int .i64 0)] := ⟨by kernel_rfl⟩
@[simp] theorem inE_spst (n : Nat) (l : List (Int × Int)) : AV.inE n (l.map fun s => [I s.1, I s.2]).tail = true := by rw [← List.map_tail]; exact inE_map fun x _ => by simp [AV.inL, AV.inB]
theorem bestOf_succ {l : List (Int × Int)} {k : Nat} (h : k + 1 < l.length) : bestOf (l.take (k + 1 + 1)) = better (bestOf (l.take (k + 1))) l[k + 1] := by
  rw [List.take_succ_eq_append_getElem h]
  cases l with
  | nil => simp at h
  | cons a l => simp only [List.take_succ_cons, List.cons_append, bestOf, List.foldl_append]; rfl
theorem bestOf_1 {l : List (Int × Int)} (h : 0 < l.length) : bestOf (l.take (0 + 1)) = l[0] := by cases l with
  | nil => simp at h
  | cons a l => rfl
theorem bestOf_all {l : List (Int × Int)} (h : 0 < l.length) : bestOf (l.take (l.length - 1 + 1)) = bestOf l := by rw [List.take_of_length_le (by omega)]
theorem offers_succ (r : Rg) (f : List Int) (n : Nat) : offers r f (n + 1) = if f.getD n 0 < 0 then offers r f n ++ [((n : Int), worst r f n)] else offers r f n := by
  unfold offers
  rw [List.range_succ, List.filter_append, List.map_append]
  by_cases h : f.getD n 0 < 0
  · rw [if_pos h, List.filter_cons_of_pos (by simpa using h)]; rfl
  · rw [if_neg h, List.filter_cons_of_neg (by simpa using h)]; simp
theorem offers_len (r : Rg) (f : List Int) (n : Nat) : (offers r f n).length ≤ n := by
  unfold offers; rw [List.length_map]; exact Nat.le_trans (List.length_filter_le _ _) (by simp)
def cntX (r : Rg) (f : List Int) (m n x : Nat) : Nat := ((List.range n).filter fun h => afterB r h f m x).length
theorem cntX_succ (r : Rg) (f : List Int) (m n x : Nat) : cntX r f m (n + 1) x = cntX r f m n x + if afterB r n f m x = true then 1 else 0 := by
  unfold cntX; rw [List.range_succ, List.filter_append, List.length_append]
  cases h : afterB r n f m x <;> simp [h]
theorem cntX_le (r : Rg) (f : List Int) (m n x : Nat) : cntX r f m n x ≤ n := by unfold cntX; exact Nat.le_trans (List.length_filter_le _ _) (by simp)
def gN (r : Rg) (f : List Int) (m n j x : Nat) : Int := (cntX r f m n x : Int) + if x < j ∧ afterB r n f m x = true then 1 else 0
theorem gN_bd (r : Rg) (f : List Int) (m n j x : Nat) : 0 ≤ gN r f m n j x ∧ gN r f m n j x ≤ n + 1 := by
  have := cntX_le r f m n x; unfold gN; split <;> omega
theorem gN_all {r : Rg} {f : List Int} {m n : Nat} : (row fun x => I (gN r f m n 1001 x)) = row fun x => I (cntX r f m (n + 1) x : Nat) := row_congr fun x hx => by
  rw [cntX_succ]; unfold gN
  by_cases h : afterB r n f m x = true
  · rw [if_pos ⟨hx, h⟩, if_pos h]; rfl
  · rw [if_neg (fun q => h q.2), if_neg h]; simp
theorem gN_0 {r : Rg} {f : List Int} {m n : Nat} : (row fun x => I (gN r f m n 0 x)) = row fun x => I (cntX r f m n x : Nat) := row_congr fun x _ => by unfold gN; rw [if_neg (by omega), Int.add_zero]
theorem gN_yes {r : Rg} {f : List Int} {m n j : Nat} (h : afterB r n f m j = true) : ∀ x, x < 1001 → I (gN r f m n (j + 1) x) = if x = j then I (gN r f m n j j + 1) else I (gN r f m n j x) := fun x _ => by
  by_cases c : x = j
  · subst c; rw [if_pos rfl]; unfold gN; rw [if_pos ⟨by omega, h⟩, if_neg (by omega), Int.add_zero]
  · rw [if_neg c]; unfold gN
    have : (x < j + 1 ∧ afterB r n f m x = true) ↔ (x < j ∧ afterB r n f m x = true) := by constructor <;> rintro ⟨a, b⟩ <;> exact ⟨by omega, b⟩
    simp only [this]
theorem gN_no {r : Rg} {f : List Int} {m n j : Nat} (h : afterB r n f m j = false) : (row fun x => I (gN r f m n j x)) = row fun x => I (gN r f m n (j + 1) x) := row_congr fun x _ => by
  unfold gN
  have : (x < j + 1 ∧ afterB r n f m x = true) ↔ (x < j ∧ afterB r n f m x = true) := by
    constructor
    · rintro ⟨a, b⟩; refine ⟨?_, b⟩; by_cases c : x = j; (subst c; rw [h] at b; cases b); omega
    · rintro ⟨a, b⟩; exact ⟨by omega, b⟩
  simp only [this]
theorem row_flat (q : Nat → Int) : (((List.range 1001).map q).map fun x => [I x]).flatten = row fun x => I (q x) := by
  unfold row
  generalize List.range 1001 = l
  induction l with
  | nil => rfl
  | cons a l ih => simp only [List.map_cons, List.flatten_cons, ih]; rfl
theorem mx_worst (r : Rg) (f : List Int) (m : Nat) : mxL ((List.range 1001).map fun (x : Nat) => ((manyX r f m x : Nat) : Int)) = worst r f m := by
  unfold worst
  rw [show List.range 1001 = 0 :: (List.range 1001).drop 1 from by rw [List.range_succ_eq_map]; rfl]
  rw [List.map_cons, List.foldl_cons]
  show List.foldl max _ _ = _
  rw [Int.max_eq_right (by omega)]
theorem maxw_pure (r : Rg) (f : List Int) (m : Nat) : APure Tryz.prog 103 [ints ((List.range 1001).map fun (x : Nat) => ((manyX r f m x : Nat) : Int))] (I (worst r f m)) := by
  have h := smax_pure ((List.range 1001).map fun (x : Nat) => ((manyX r f m x : Nat) : Int)) (by simp) (by simp)
  rw [mx_worst] at h; exact h
abbrev nxT (r : Rg) (f : List Int) (m : Nat) (o : AObj) : List AObj := [.cells (rgC r), .dead, hidO (mayK r f r.hides.length), .tok ((offers r f m).map fun s => [I s.1, I s.2]).length, o]
theorem next1_pure (a b : Int × Int) : APure Tryz.prog 112 [.agg [I a.1, I a.2], .agg [I b.1, I b.2]] (B (decide (a.2 < b.2))) := by
  refine ap Tryz.func112 (fun e0 he0 => ?_)
  refine wz 9 ?_
  exact rz rfl jz
theorem bestt_pure (l : List (Int × Int)) (h0 : 0 < l.length) (hm : l.length ≤ 1000000) : APure Tryz.prog 111 [spans l, .fn (.func 112) [] []] (.agg [I (bestOf l).1, I (bestOf l).2]) := by
  refine ap Tryz.func111 (fun e0 he0 => ?_)
  refine wz 2 ?_
  refine sq_ev rfl (ev_index_map (k := 0) sl151.h jz jz rfl h0) ?_
  refine wz 4 ?_
  refine sq_ev rfl (ev_less (ev_slice (lo := 1) (hi := l.length) sl151.h jz jz (by simp) (by omega) (by simp)) (Less.eq (b := spans (l.drop 1)) (by rw [List.take_of_length_le (by simp)]; simp only [spans, List.map_drop]))) ?_
  refine wz 2 ?_
  refine aw_loopk (ι := { k : Nat // k + 1 ≤ l.length }) [1, 4, 5, 12, 13] (fun i => [(14, I i.1)]) (fun H i => H.set 1 (.cells [I (bestOf (l.take (i.1 + 1))).1, I (bestOf (l.take (i.1 + 1))).2])) (fun i => l.length - i.1) (⟨0, by omega⟩) ⟨jz, jz, jz, jz, jz, jz, trivial⟩ (by rw [bestOf_1 h0]; rfl) ?_
  rintro ⟨k, hk⟩
  refine nz ?_
  refine wz 1 ?_
  refine iz (fun c_15 c_15' => ?_) (fun c_15 c_15' => ?_)
  ·have hkl : k + 1 < l.length := by simp at c_15'; omega
   refine wz 0 ?_
   refine sq_ev rfl (ev_less (ev_index_map (k := k) (xs := l.drop 1) sl151.h jz jz rfl (by simp; omega)) (Less.eq (b := .iptr [I l[k + 1].1, I l[k + 1].2]) (by simp [List.getElem_drop, Nat.add_comm]))) ?_
   refine wz 6 ?_
   refine sq_ev rfl (ev_call en112.h jz (next1_pure l[k + 1] (bestOf (l.take (k + 1)))) ⟨jz, jz, trivial⟩) ?_
   refine wz 0 ?_
   refine iz (fun c_21 c_21' => ?_) (fun c_21 c_21' => ?_)
   ·have eB : (bestOf (l.take ((k + 1) + 1))) = l[k + 1] := by rw [bestOf_succ hkl]; unfold better; rw [if_pos (by simpa using c_21)]
    refine wz 4 ?_
    exact ⟨⟨k + 1, by omega⟩, by simp only; omega, sb 2 ⟨jz, jz, jz, jz, jz, jz, trivial⟩ (hH := (by rw [eB]; rfl))⟩
   have eB : (bestOf (l.take ((k + 1) + 1))) = (bestOf (l.take (k + 1))) := by rw [bestOf_succ hkl]; unfold better; rw [if_neg (by simpa using c_21)]
   refine wz 2 ?_
   exact ⟨⟨k + 1, by omega⟩, by simp only; omega, sb 2 ⟨jz, jz, jz, jz, jz, jz, trivial⟩ (hH := (by rw [eB]; rfl))⟩
  obtain rfl : k = l.length - 1 := by simp at c_15'; omega
  refine wz 2 ?_
  exact retQ_res (vs := [.agg _]) rfl rfl ⟨resVar_cell rfl rfl ty156.h rfl, trivial⟩ (Less.eq (by rw [← bestOf_all h0]; rfl))
theorem next_none {r : Rg} {f : List Int} (hk : r.kinds.length ≤ 1000000) (hh : r.hides.length ≤ 1000000) (hw : ∀ h ∈ r.hides, h.length ≤ 1000000) (hl : f.length ≤ 1000000) (ho : okWho r f = true) (hn : 0 < (mays r f).length) (h0 : offers r f r.kinds.length = []) : APure Tryz.prog 52 [rgA r, ints f] (.tup [I 0, I 0, I 5]) := by
  refine ap Tryz.func52 (fun e0 he0 => ?_)
  refine vz 4 ?_
  refine sq_nil ?_
  refine aw_seq ?_
  refine aw_seq ?_
  obtain ⟨gB, hfl⟩ := whoF ho
  have hnk := gB.nk
  refine wz 1 ?_
  refine kz az (isregister_pure r hk hh hw) ?_
  refine wz 2 ?_
  refine sz 18 (fun g1_3 g1_3' => ?_) (fun g1_3 g1_3' => ?_)
  ·exfalso
   revert ho
   unfold okWho
   simp_all
  refine wz 2 ?_
  refine ky az (isfind_pure r f hl) ?_
  refine wz 2 ?_
  refine iz (fun c_23 c_23' => ?_) (fun c_23 c_23' => ?_)
  ·exfalso
   revert ho
   unfold okWho
   simp_all
  refine wz 2 ?_
  refine sq_call (first := []) (cap := []) (args := [rgA r, ints f]) rfl en97.h jz ⟨jz, jz, trivial⟩ (hides_call gB hfl _) ?_ (by rintro v H' ⟨h, _⟩; cases h)
  rintro _ _ ⟨h, rfl⟩; cases h
  refine sq_ev rfl (ev_len_mp mt138 jz rfl) ?_
  refine wz 1 ?_
  refine iz (fun c_28 c_28' => ?_) (fun c_28 c_28' => ?_)
  ·exfalso
   rw [mayK_len] at c_28'
   omega
  refine vz 4 ?_
  refine sq_nil ?_
  refine aw_block ?_
  refine aw_sub (sub_token 7 2 jz) ?_
  refine aw_loopk (ι := { k : Nat // k ≤ f.length }) [1, 2, 29, 30] (fun i => [(31, I i.1), (7, .own 3 2 ((offers r f i.1).map fun s => [I s.1, I s.2]))]) (fun H i => H.set 3 (.tok ((offers r f i.1).map fun s => [I s.1, I s.2]).length)) (fun i => f.length - i.1) (⟨0, Nat.zero_le _⟩) ⟨jz, jz, jz, jz, jz, jz, trivial⟩ rfl ?_
  rintro ⟨m, hm⟩
  refine nz ?_
  have hol := offers_len r f m
  refine wz 1 ?_
  refine iz (fun c_32 c_32' => ?_) (fun c_32 c_32' => ?_)
  ·have hml : m < r.kinds.length := by omega
   have hmf : m < f.length := by omega
   have hgd : f.getD m 0 = f[m] := getD_at hmf
   refine wz 7 ?_
   refine iz (fun c_37 c_37' => ?_) (fun c_37 c_37' => ?_)
   ·have eS : ((offers r f (m + 1)).map fun s => [I s.1, I s.2]) = ((offers r f m).map fun s => [I s.1, I s.2]) := by rw [offers_succ, if_neg (by rw [hgd]; omega)]
    refine wz 2 ?_
    exact ⟨⟨m + 1, by omega⟩, by simp only; omega, sb 4 ⟨jz, Less.eq (by rw [eS] <;> rfl), jz, jz, jz, jz, trivial⟩ (hH := (congrArg (fun n => [_, _, _, AObj.tok n]) (congrArg List.length eS.symm)))⟩
   have eS : ((offers r f (m + 1)).map fun s => [I s.1, I s.2]) = ((offers r f m).map fun s => [I s.1, I s.2]) ++ [[I m, I (worst r f m)]] := by rw [offers_succ, if_pos (by rw [hgd]; omega), List.map_append]; rfl
   refine wz 5 ?_
   refine aw_loopk (ι := { n : Nat // n ≤ r.hides.length }) [1, 2, 7, 8, 10, 29, 30, 31, 40] (fun i => [(41, I i.1)]) (fun H i => H.set 4 (.cells (row fun x => I ((cntX r f m i.1 x : Nat))))) (fun i => r.hides.length - i.1) (⟨0, Nat.zero_le _⟩) ⟨jz, jz, jz, jz, jz, jz, jz, jz, jz, jz, trivial⟩ rfl ?_
   rintro ⟨n, hn2⟩
   refine nz ?_
   have hnh := gB.nh
   refine wz 1 ?_
   refine iz (fun c_42 c_42' => ?_) (fun c_42 c_42' => ?_)
   ·have hnl : n < r.hides.length := by omega
    refine wz 7 ?_
    refine kz az (after_pure gB hnl hfl hml) ?_
    refine wz 1 ?_
    refine aw_loopk (ι := { j : Nat // j ≤ 1001 }) [1, 2, 7, 8, 10, 29, 30, 31, 40, 41, 49] (fun i => [(50, I i.1)]) (fun H i => H.set 4 (.cells (row fun x => I (gN r f m n i.1 x)))) (fun i => 1001 - i.1) (⟨0, by omega⟩) ⟨jz, jz, jz, jz, jz, jz, jz, jz, jz, jz, jz, jz, trivial⟩ (by exact congrArg (fun R => nxT r f m (AObj.cells R)) gN_0) ?_
    rintro ⟨j, hj⟩
    refine nz ?_
    refine wz 1 ?_
    refine iz (fun c_51 c_51' => ?_) (fun c_51 c_51' => ?_)
    ·have hjl : j < 1001 := by omega
     have hgb := gN_bd r f m n j j
     refine wz 1 ?_
     refine sq_ev rfl (ev_indexv (k := j) ar153.h ty4.h jz jz rfl hjl (by rw [Nat.mul_one]; exact row_get hjl)) ?_
     refine wz 3 ?_
     refine iz (fun c_54 c_54' => ?_) (fun c_54 c_54' => ?_)
     ·refine wz 2 ?_
      refine sq_ev rfl (ev_load (v := I (gN r f m n j j)) jz rfl ty3.h (by rw [Nat.zero_add, Nat.mul_one]; exact row_get hjl)) ?_
      refine wz 2 ?_
      refine sq_storeRow (g := fun x => I (gN r f m n j x)) (fun x => I (gN r f m n (j + 1) x)) rfl rfl jz jz rfl rfl ty3.h (u := j) (by omega) hjl (gN_yes c_54) ?_
      refine wz 2 ?_
      exact ⟨⟨j + 1, by omega⟩, by simp only; omega, sb 5 ⟨jz, jz, jz, jz, jz, jz, jz, jz, jz, jz, jz, jz, trivial⟩ (hH := rfl)⟩
     have hno := c_54
     refine wz 2 ?_
     exact ⟨⟨j + 1, by omega⟩, by simp only; omega, sb 5 ⟨jz, jz, jz, jz, jz, jz, jz, jz, jz, jz, jz, jz, trivial⟩ (hH := (congrArg (fun R => nxT r f m (AObj.cells R)) (gN_no hno)))⟩
    obtain rfl : j = 1001 := by omega
    refine wz 2 ?_
    exact ⟨⟨n + 1, by omega⟩, by simp only; omega, sb 5 ⟨jz, jz, jz, jz, jz, jz, jz, jz, jz, jz, trivial⟩ (hH := (congrArg (fun R => nxT r f m (AObj.cells R)) gN_all))⟩
   obtain rfl : n = r.hides.length := by omega
   refine aw_exit ?_
   refine aw_sub (sub_iptrK [1, 2, 6, 7, 8, 29, 30, 31] 10 (j := 4) (l := row fun x => I (cntX r f m r.hides.length x : Nat)) rfl rfl) ?_
   refine nz ?_
   refine wz 2 ?_
   refine sq_ev rfl (ev_slice_box_i (es := ((List.range 1001).map fun (x : Nat) => ((manyX r f m x : Nat) : Int)).map fun x => [I x]) ar152.h (by decide) (Less.eq (congrArg AV.iptr (row_flat _).symm)) (by simp) (fun c hc => by obtain ⟨n, _, rfl⟩ := List.mem_map.1 hc; rfl)) ?_
   refine kz az (maxw_pure r f m) ?_
   refine wz 1 ?_
   refine sq_ev rfl (ev_buildSlice (es := [[_, _]]) sf151.h rfl rfl rfl rfl) ?_
   first | refine sq_append rfl sf151.h Tryz.underlying151 rfl rfl jz (Nat.succ_pos _) (by simp; omega) (by simp; omega) ?_ | refine sq_append rfl sf151.h Tryz.underlying151 rfl rfl (less_slx _ _) (Nat.succ_pos _) (by simp; omega) (by simp; omega) ?_
   refine wz 3 ?_
   exact ⟨⟨m + 1, by omega⟩, by simp only; omega, sb 4 ⟨jz, Less.eq (by rw [eS] <;> rfl), jz, jz, jz, jz, trivial⟩ (hH := (congrArg (fun n => [_, _, _, AObj.tok n]) (congrArg List.length eS.symm)))⟩
  obtain rfl : m = f.length := by omega
  skip
  refine wz 3 ?_
  refine iz (fun c_72 c_72' => ?_) (fun c_72 c_72' => ?_)
  ·refine wz 3 ?_
   exact retQ_pure (v := .tup [.raw _, .raw _, .raw _]) rfl rfl (less_tup ⟨jz, jz, jz, trivial⟩)
  exfalso
  rw [hfl, h0] at c_72'
  simp at c_72'
theorem next_ok {r : Rg} {f : List Int} (hk : r.kinds.length ≤ 1000000) (hh : r.hides.length ≤ 1000000) (hw : ∀ h ∈ r.hides, h.length ≤ 1000000) (hl : f.length ≤ 1000000) (ho : okWho r f = true) (hn : 0 < (mays r f).length) (h0 : 0 < (offers r f r.kinds.length).length) : APure Tryz.prog 52 [rgA r, ints f] (.tup [I (nextOf r f).1, I (nextOf r f).2, I 0]) := by
  refine ap Tryz.func52 (fun e0 he0 => ?_)
  refine vz 4 ?_
  refine sq_nil ?_
  refine aw_seq ?_
  refine aw_seq ?_
  obtain ⟨gB, hfl⟩ := whoF ho
  have hnk := gB.nk
  refine wz 1 ?_
  refine kz az (isregister_pure r hk hh hw) ?_
  refine wz 2 ?_
  refine sz 18 (fun g1_3 g1_3' => ?_) (fun g1_3 g1_3' => ?_)
  ·exfalso
   revert ho
   unfold okWho
   simp_all
  refine wz 2 ?_
  refine ky az (isfind_pure r f hl) ?_
  refine wz 2 ?_
  refine iz (fun c_23 c_23' => ?_) (fun c_23 c_23' => ?_)
  ·exfalso
   revert ho
   unfold okWho
   simp_all
  refine wz 2 ?_
  refine sq_call (first := []) (cap := []) (args := [rgA r, ints f]) rfl en97.h jz ⟨jz, jz, trivial⟩ (hides_call gB hfl _) ?_ (by rintro v H' ⟨h, _⟩; cases h)
  rintro _ _ ⟨h, rfl⟩; cases h
  refine sq_ev rfl (ev_len_mp mt138 jz rfl) ?_
  refine wz 1 ?_
  refine iz (fun c_28 c_28' => ?_) (fun c_28 c_28' => ?_)
  ·exfalso
   rw [mayK_len] at c_28'
   omega
  refine vz 4 ?_
  refine sq_nil ?_
  refine aw_block ?_
  refine aw_sub (sub_token 7 2 jz) ?_
  refine aw_loopk (ι := { k : Nat // k ≤ f.length }) [1, 2, 29, 30] (fun i => [(31, I i.1), (7, .own 3 2 ((offers r f i.1).map fun s => [I s.1, I s.2]))]) (fun H i => H.set 3 (.tok ((offers r f i.1).map fun s => [I s.1, I s.2]).length)) (fun i => f.length - i.1) (⟨0, Nat.zero_le _⟩) ⟨jz, jz, jz, jz, jz, jz, trivial⟩ rfl ?_
  rintro ⟨m, hm⟩
  refine nz ?_
  have hol := offers_len r f m
  refine wz 1 ?_
  refine iz (fun c_32 c_32' => ?_) (fun c_32 c_32' => ?_)
  ·have hml : m < r.kinds.length := by omega
   have hmf : m < f.length := by omega
   have hgd : f.getD m 0 = f[m] := getD_at hmf
   refine wz 7 ?_
   refine iz (fun c_37 c_37' => ?_) (fun c_37 c_37' => ?_)
   ·have eS : ((offers r f (m + 1)).map fun s => [I s.1, I s.2]) = ((offers r f m).map fun s => [I s.1, I s.2]) := by rw [offers_succ, if_neg (by rw [hgd]; omega)]
    refine wz 2 ?_
    exact ⟨⟨m + 1, by omega⟩, by simp only; omega, sb 4 ⟨jz, Less.eq (by rw [eS] <;> rfl), jz, jz, jz, jz, trivial⟩ (hH := (congrArg (fun n => [_, _, _, AObj.tok n]) (congrArg List.length eS.symm)))⟩
   have eS : ((offers r f (m + 1)).map fun s => [I s.1, I s.2]) = ((offers r f m).map fun s => [I s.1, I s.2]) ++ [[I m, I (worst r f m)]] := by rw [offers_succ, if_pos (by rw [hgd]; omega), List.map_append]; rfl
   refine wz 5 ?_
   refine aw_loopk (ι := { n : Nat // n ≤ r.hides.length }) [1, 2, 7, 8, 10, 29, 30, 31, 40] (fun i => [(41, I i.1)]) (fun H i => H.set 4 (.cells (row fun x => I ((cntX r f m i.1 x : Nat))))) (fun i => r.hides.length - i.1) (⟨0, Nat.zero_le _⟩) ⟨jz, jz, jz, jz, jz, jz, jz, jz, jz, jz, trivial⟩ rfl ?_
   rintro ⟨n, hn2⟩
   refine nz ?_
   have hnh := gB.nh
   refine wz 1 ?_
   refine iz (fun c_42 c_42' => ?_) (fun c_42 c_42' => ?_)
   ·have hnl : n < r.hides.length := by omega
    refine wz 7 ?_
    refine kz az (after_pure gB hnl hfl hml) ?_
    refine wz 1 ?_
    refine aw_loopk (ι := { j : Nat // j ≤ 1001 }) [1, 2, 7, 8, 10, 29, 30, 31, 40, 41, 49] (fun i => [(50, I i.1)]) (fun H i => H.set 4 (.cells (row fun x => I (gN r f m n i.1 x)))) (fun i => 1001 - i.1) (⟨0, by omega⟩) ⟨jz, jz, jz, jz, jz, jz, jz, jz, jz, jz, jz, jz, trivial⟩ (by exact congrArg (fun R => nxT r f m (AObj.cells R)) gN_0) ?_
    rintro ⟨j, hj⟩
    refine nz ?_
    refine wz 1 ?_
    refine iz (fun c_51 c_51' => ?_) (fun c_51 c_51' => ?_)
    ·have hjl : j < 1001 := by omega
     have hgb := gN_bd r f m n j j
     refine wz 1 ?_
     refine sq_ev rfl (ev_indexv (k := j) ar153.h ty4.h jz jz rfl hjl (by rw [Nat.mul_one]; exact row_get hjl)) ?_
     refine wz 3 ?_
     refine iz (fun c_54 c_54' => ?_) (fun c_54 c_54' => ?_)
     ·refine wz 2 ?_
      refine sq_ev rfl (ev_load (v := I (gN r f m n j j)) jz rfl ty3.h (by rw [Nat.zero_add, Nat.mul_one]; exact row_get hjl)) ?_
      refine wz 2 ?_
      refine sq_storeRow (g := fun x => I (gN r f m n j x)) (fun x => I (gN r f m n (j + 1) x)) rfl rfl jz jz rfl rfl ty3.h (u := j) (by omega) hjl (gN_yes c_54) ?_
      refine wz 2 ?_
      exact ⟨⟨j + 1, by omega⟩, by simp only; omega, sb 5 ⟨jz, jz, jz, jz, jz, jz, jz, jz, jz, jz, jz, jz, trivial⟩ (hH := rfl)⟩
     have hno := c_54
     refine wz 2 ?_
     exact ⟨⟨j + 1, by omega⟩, by simp only; omega, sb 5 ⟨jz, jz, jz, jz, jz, jz, jz, jz, jz, jz, jz, jz, trivial⟩ (hH := (congrArg (fun R => nxT r f m (AObj.cells R)) (gN_no hno)))⟩
    obtain rfl : j = 1001 := by omega
    refine wz 2 ?_
    exact ⟨⟨n + 1, by omega⟩, by simp only; omega, sb 5 ⟨jz, jz, jz, jz, jz, jz, jz, jz, jz, jz, trivial⟩ (hH := (congrArg (fun R => nxT r f m (AObj.cells R)) gN_all))⟩
   obtain rfl : n = r.hides.length := by omega
   refine aw_exit ?_
   refine aw_sub (sub_iptrK [1, 2, 6, 7, 8, 29, 30, 31] 10 (j := 4) (l := row fun x => I (cntX r f m r.hides.length x : Nat)) rfl rfl) ?_
   refine nz ?_
   refine wz 2 ?_
   refine sq_ev rfl (ev_slice_box_i (es := ((List.range 1001).map fun (x : Nat) => ((manyX r f m x : Nat) : Int)).map fun x => [I x]) ar152.h (by decide) (Less.eq (congrArg AV.iptr (row_flat _).symm)) (by simp) (fun c hc => by obtain ⟨n, _, rfl⟩ := List.mem_map.1 hc; rfl)) ?_
   refine kz az (maxw_pure r f m) ?_
   refine wz 1 ?_
   refine sq_ev rfl (ev_buildSlice (es := [[_, _]]) sf151.h rfl rfl rfl rfl) ?_
   first | refine sq_append rfl sf151.h Tryz.underlying151 rfl rfl jz (Nat.succ_pos _) (by simp; omega) (by simp; omega) ?_ | refine sq_append rfl sf151.h Tryz.underlying151 rfl rfl (less_slx _ _) (Nat.succ_pos _) (by simp; omega) (by simp; omega) ?_
   refine wz 3 ?_
   exact ⟨⟨m + 1, by omega⟩, by simp only; omega, sb 4 ⟨jz, Less.eq (by rw [eS] <;> rfl), jz, jz, jz, jz, trivial⟩ (hH := (congrArg (fun n => [_, _, _, AObj.tok n]) (congrArg List.length eS.symm)))⟩
  obtain rfl : m = f.length := by omega
  skip
  refine wz 3 ?_
  refine iz (fun c_72 c_72' => ?_) (fun c_72 c_72' => ?_)
  ·exfalso
   rw [hfl] at c_72'
   simp at c_72'
   rw [c_72'] at h0
   simp at h0
  refine wz 1 ?_
  refine sq_ev rfl (ev_call en111.h jz (bestt_pure (offers r f f.length) (by rw [hfl]; exact h0) (by have := offers_len r f f.length; omega)) ⟨less_own _ _ _, jz, trivial⟩) ?_
  refine wz 2 ?_
  refine aw_draw 7 mo (by kernel_rfl) ?_
  refine dz 7 ?_
  refine wz 0 ?_
  exact retQ_pure (v := .tup [.raw _, .raw _, .raw _]) rfl rfl (less_tup ⟨Less.eq (by rw [hfl] <;> rfl), Less.eq (by rw [hfl] <;> rfl), jz, trivial⟩)
end Go.Proofs.YtjpokekbjmdgmaaGreatDoor
namespace Go.Proofs.YtjpokekbjmdgmaaGreatDoor
open Go Go.Ab Ni Hd
def msP (r : Rg) (ms : List Int) : Prop := ∀ m ∈ ms, 0 ≤ m ∧ m < r.kinds.length
theorem msP_at {r : Rg} {ms : List Int} (h : msP r ms) {j : Nat} (hj : j < ms.length) : ∃ mm : Nat, ms[j] = (mm : Int) ∧ mm < r.kinds.length := by
  have := h _ (List.getElem_mem hj); exact ⟨ms[j].toNat, by omega, by omega⟩
abbrev fd0 (r : Rg) (h : Nat) : List AV := [ints r.kinds, hds r.hides, I r.al, I r.ah, I r.bl, I r.bh, I r.off, I r.mends, I h, .raw (.slice none 0 0)]
abbrev apT (r : Rg) (h g k : Nat) (ms : List Int) (o : Int) : List AObj := [.cells (rgC r), .cells [ints ms], .cells [I k], .cells (fd0 r h), .cells (fd0 r g), .cells [I o]]
def apO (r : Rg) (h g k : Nat) (ms : List Int) (i j : Nat) : Int := least 6 ((((rng (sl r k) (sh r k)).take i).flatMap fun x => (rng (sl r k) (sh r k)).map fun y => apN r h g k ms x y) ++ ((rng (sl r k) (sh r k)).take j).map fun y => apN r h g k ms (sl r k + i) y)
theorem apO_succ {r : Rg} {h g k : Nat} {ms : List Int} {i j : Nat} (hj : j < (rng (sl r k) (sh r k)).length) : apO r h g k ms i (j + 1) = min (apO r h g k ms i j) (apN r h g k ms (sl r k + i) (sl r k + j)) := by
  unfold apO; rw [List.take_succ_eq_append_getElem hj, List.map_append, ← List.append_assoc, List.map_cons, List.map_nil, least_snoc, rng_get]
theorem apO_row {r : Rg} {h g k : Nat} {ms : List Int} {i : Nat} (hi : i < (rng (sl r k) (sh r k)).length) : apO r h g k ms i (rng (sl r k) (sh r k)).length = apO r h g k ms (i + 1) 0 := by
  unfold apO; rw [List.take_length, List.take_succ_eq_append_getElem hi, List.flatMap_append, rng_get]; simp
theorem apO_end (r : Rg) (h g k : Nat) (ms : List Int) : apO r h g k ms (rng (sl r k) (sh r k)).length 0 = apart r h g k ms := by
  unfold apO apart; rw [List.take_length]; simp
theorem apO_0 (r : Rg) (h g k : Nat) (ms : List Int) : apO r h g k ms 0 0 = 6 := by unfold apO; simp [least]
def apC (r : Rg) (h g k : Nat) (ms : List Int) (x y : Int) (j : Nat) : Nat := ((ms.take j).filter (apK r h g k x y)).length
theorem apC_succ {r : Rg} {h g k : Nat} {ms : List Int} {x y : Int} {j : Nat} (hj : j < ms.length) : apC r h g k ms x y (j + 1) = apC r h g k ms x y j + if apK r h g k x y ms[j] = true then 1 else 0 := by
  unfold apC; rw [List.take_succ_eq_append_getElem hj, List.filter_append, List.length_append]
  cases hc : apK r h g k x y ms[j] <;> simp [hc]
theorem apC_le (r : Rg) (h g k : Nat) (ms : List Int) (x y : Int) (j : Nat) : apC r h g k ms x y j ≤ j := by
  unfold apC; have h1 := List.length_filter_le (apK r h g k x y) (ms.take j); rw [List.length_take] at h1; omega
theorem apK_at {r : Rg} (gB : RgB r) {h g k : Nat} {x y : Int} {mm : Nat} (hml : mm < r.kinds.length) : apK r h g k x y (mm : Int) = (decide ((kp r mm : Int) = (k : Int)) && apB r h g x y mm) := by
  unfold apK
  have h1 : kd r mm - 1 = (kp r mm : Int) := by rw [kd_at hml]; exact (kd_kp gB hml).1
  rw [Int.toNat_natCast, h1]
theorem spank_bd {r : Rg} (gB : RgB r) {k : Nat} (hk : k < 2) : (700 ≤ sl r k ∧ sl r k ≤ 1300) ∧ (sl r k ≤ sh r k ∧ sh r k ≤ 1300) := by
  have ha := gB.a; have hb := gB.b
  rcases (show k = 0 ∨ k = 1 by omega) with rfl | rfl
  · rw [sl0, sh0]; omega
  · rw [sl1, sh1]; omega
theorem apart_bd (r : Rg) (h g k : Nat) (ms : List Int) : 0 ≤ apart r h g k ms ∧ apart r h g k ms ≤ 6 := by
  refine ⟨?_, least_le _ _⟩
  unfold apart
  rcases least_is 6 ((rng (sl r k) (sh r k)).flatMap fun x => (rng (sl r k) (sh r k)).map fun y => apN r h g k ms x y) with e | e
  · rw [e]; decide
  · obtain ⟨x, _, hx⟩ := List.mem_flatMap.1 e
    obtain ⟨y, _, e2⟩ := List.mem_map.1 hx
    rw [← e2]; unfold apN; omega
theorem apart_pure {r : Rg} (gB : RgB r) {h g k : Nat} (hhl : h < r.hides.length) (hgl : g < r.hides.length) (hk2 : k < 2) {ms : List Int} (hms : msP r ms) (hl : ms.length ≤ 1000000) : APure Tryz.prog 158 [rgA r, I h, I g, ints ms, I k] (I (apart r h g k ms)) := by
  refine apure_of_marks (rs := [.tmp 10]) Tryz.func158 rfl rfl (Nat.le_of_ble_eq_true rfl) (by simp [AV.pureL, AV.pureB, AV.pureE, pureE_map]) (by first | rfl | (simp [AV.pureL, AV.pureB, AV.pureE, pureE_map])) fun e0 he0 => ?_
  refine aw_seq ?_
  have hsp := spank_bd gB hk2
  refine wz 4 ?_
  refine aw_drawc [6, 7] [8, 9] _ mo (by kernel_rfl) (HSub.refl _) ?_
  first | refine dc_ev rfl (ev_load_agg jz rfl ty27.h rfl) ?_ | refine dc_ev rfl (ev_load_agg_i jz ty27.h (by exact Nat.le_of_ble_eq_true rfl)) ?_
  refine dc_ev rfl (ev_mv (v := .raw _) jz) ?_
  refine dc_ev rfl (ev_build bi115.h rfl) ?_
  first | refine dc_ev rfl (ev_load_agg jz rfl ty27.h rfl) ?_ | refine dc_ev rfl (ev_load_agg_i jz ty27.h (by exact Nat.le_of_ble_eq_true rfl)) ?_
  refine dc_ev rfl (ev_mv (v := .raw _) jz) ?_
  refine dc_ev rfl (ev_build bi115.h rfl) ?_
  refine dc_alloc rfl rfl z115.h ?_
  refine dc_alloc rfl rfl z115.h ?_
  refine dc_eff rfl rfl (eff_store rfl jz jz rfl rfl ty115.h rfl rfl) (by apply HL.sub; repeat' (first | exact HL.nil _ | apply HL.same | apply HL.tok)) ?_
  refine dc_eff rfl rfl (eff_store rfl jz jz rfl rfl ty115.h rfl rfl) (by apply HL.sub; repeat' (first | exact HL.nil _ | apply HL.same | apply HL.tok)) ?_
  refine dc_nil ?_
  refine wz 2 ?_
  refine aw_draw 5 mo (by kernel_rfl) ?_
  refine dz 1 ?_
  refine dkz az (spans_pure r) ?_
  refine dz 1 ?_
  refine dr_ev rfl (ev_less (ev_indexv_agg (k := k) ar191.h ty25.h jz jz rfl hk2) (Less.eq (b := .agg [I (sl r k), I (sh r k)]) (by rcases (show k = 0 ∨ k = 1 by omega) with e | e <;> subst e <;> rfl))) ?_
  refine dkz az (numbers_pure _ _) ?_
  refine dr_end (sq_nil ?_)
  refine aw_block ?_
  refine nz ?_
  refine aw_rangeFuncQ [5, 8, 9, 11, 12, 13] (xs := rngA (sl r k) (sh r k)) (cl := fun x => [x]) (fun kk => apT r h g k ms (apO r h g k ms kk 0)) ((rngA (sl r k) (sh r k)).length) (none) (Nat.le_refl _) (fun _ => rfl) (fun h => absurd rfl h) rfl (enters_outer rfl) dd_in jz en166.h ((numbers_iter (by omega) (by omega)).to2) (by rw [apO_0]; rfl) (fun _ => rfl) (fun k hk => by simp [objsIn, AObj.inB, AV.inB, AV.inL, inE_ints, inE_hds]) (fun x hx => rngA_pure hx) rfl rfl (by decide) rfl rfl z3.h rfl ty3.h (fun x hx => rngA_cl _ hx) (by decide) (by simp [slotsIn, keepS, sget, AV.inB]) ?_ ?_
  ·intro q i x e2 hiq hx he2 hlp hce
   obtain ⟨hdi, rfl⟩ := rngA_get hx
   have hrdi : 0 ≤ sl r k + (i : Int) ∧ sl r k + (i : Int) ≤ 1300 := by have h1 := rng_len (sl r k) (sh r k); omega
   refine nz ?_
   refine wz 0 ?_
   refine aw_draw 5 mo (by kernel_rfl) ?_
   refine dz 1 ?_
   refine dkz az (spans_pure r) ?_
   refine dz 1 ?_
   refine dr_ev rfl (ev_less (ev_indexv_agg (k := k) ar191.h ty25.h jz jz rfl hk2) (Less.eq (b := .agg [I (sl r k), I (sh r k)]) (by rcases (show k = 0 ∨ k = 1 by omega) with e | e <;> subst e <;> rfl))) ?_
   refine dkz az (numbers_pure _ _) ?_
   refine dr_end (sq_nil ?_)
   refine aw_block ?_
   refine nz ?_
   refine aw_rangeFuncP (xs := rngA (sl r k) (sh r k)) (fun kk => apT r h g k ms (apO r h g k ms i kk)) ((rngA (sl r k) (sh r k)).length) (none) (Nat.le_refl _) (fun _ => rfl) (fun h => absurd rfl h) rfl (enters_inner rfl hlp) dd_nil jz en166.h ((numbers_iter (by omega) (by omega)).to2) (rfl) (fun _ => rfl) (fun k hk => by simp [objsIn, AObj.inB, AV.inB, AV.inL, inE_ints, inE_hds]) (fun x hx => rngA_pure hx) rfl rfl ?_ ?_
   ·intro q2 j y e3 hjq hy he3 hlp2 hce2
    obtain ⟨hdj, rfl⟩ := rngA_get hy
    have hrdj : 0 ≤ sl r k + (j : Int) ∧ sl r k + (j : Int) ≤ 1300 := by have h1 := rng_len (sl r k) (sh r k); omega
    refine nz ?_
    refine wz 4 ?_
    refine aw_loopk (ι := { c : Nat // c ≤ ms.length }) [5, 9, 10, 11, 12, 13, 14, 15, 39, 40] (fun u => [(16, I (apC r h g k ms (sl r k + (i : Int)) (sl r k + (j : Int)) u.1 : Nat)), (41, I u.1)]) (fun H u => H) (fun u => ms.length - u.1) (⟨0, Nat.zero_le _⟩) ⟨jz, jz, jz, jz, jz, jz, jz, jz, jz, jz, jz, jz, trivial⟩ rfl ?_
    rintro ⟨c, hc⟩
    refine nz ?_
    have hcl := apC_le r h g k ms (sl r k + (i : Int)) (sl r k + (j : Int)) c
    refine wz 1 ?_
    refine iz (fun c_42 c_42' => ?_) (fun c_42 c_42' => ?_)
    ·have hcl2 : c < ms.length := by omega
     obtain ⟨mm, hmm, hml⟩ := msP_at hms hcl2
     have hak := apK_at gB (h := h) (g := g) (k := k) (x := (sl r k + (i : Int))) (y := (sl r k + (j : Int))) hml
     refine wz 1 ?_
     refine sq_ev rfl (ev_less (ev_load_i jz ty3.h rfl) (Less.eq (b := I (mm : Int)) (by rw [← hmm] <;> rfl))) ?_
     refine wz 1 ?_
     refine aw_draw 10 mo (by kernel_rfl) ?_
     refine dz 3 ?_
     refine dr_ev rfl (ev_call en81.h jz (unchanged_pure (f := []) gB hhl hml hrdi) ⟨less_agg ⟨jz, jz, jz, jz, jz, jz, jz, jz, jz, less_nil 1, trivial⟩, jz, jz, trivial⟩) ?_
     refine dz 3 ?_
     refine dr_ev rfl (ev_call en81.h jz (unchanged_pure (f := []) gB hgl hml hrdj) ⟨less_agg ⟨jz, jz, jz, jz, jz, jz, jz, jz, jz, less_nil 1, trivial⟩, jz, jz, trivial⟩) ?_
     refine dr_alloc rfl z25.h ?_
     refine dr_alloc rfl z25.h ?_
     refine dr_end ?_
     refine wz 2 ?_
     refine aw_draw 21 mo (by kernel_rfl) ?_
     refine dz 5 ?_
     refine dkz az (kindm_pure gB hml) ?_
     refine dz 3 ?_
     refine dsz 61 (fun g12_8 g12_8' => ?_) (fun g12_8 g12_8' => ?_)
     ·refine dz 12 ?_
      refine wz 0 ?_
      refine iz (fun c_73 c_73' => ?_) (fun c_73 c_73' => ?_)
      ·have eC : apC r h g k ms (sl r k + (i : Int)) (sl r k + (j : Int)) (c + 1) = apC r h g k ms (sl r k + (i : Int)) (sl r k + (j : Int)) c + 1 := by rw [apC_succ hcl2, hmm, hak, g12_8, Bool.true_and, if_pos (by unfold apB; exact c_73)]
       refine wz 5 ?_
       exact ⟨⟨c + 1, by omega⟩, by simp only; omega, sb 6 ⟨Less.eq (by rw [eC] <;> rfl), jz, jz, jz, jz, jz, jz, jz, jz, jz, jz, jz, trivial⟩ (hn := by simp [he3])⟩
      have eC : apC r h g k ms (sl r k + (i : Int)) (sl r k + (j : Int)) (c + 1) = apC r h g k ms (sl r k + (i : Int)) (sl r k + (j : Int)) c := by rw [apC_succ hcl2, hmm, hak, g12_8, Bool.true_and, if_neg (by unfold apB; rw [c_73]; simp), Nat.add_zero]
      refine wz 2 ?_
      exact ⟨⟨c + 1, by omega⟩, by simp only; omega, sb 6 ⟨Less.eq (by rw [eC] <;> rfl), jz, jz, jz, jz, jz, jz, jz, jz, jz, jz, jz, trivial⟩ (hn := by simp [he3])⟩
     have eC : apC r h g k ms (sl r k + (i : Int)) (sl r k + (j : Int)) (c + 1) = apC r h g k ms (sl r k + (i : Int)) (sl r k + (j : Int)) c := by rw [apC_succ hcl2, hmm, hak, g12_8, Bool.false_and, if_neg (by simp), Nat.add_zero]
     refine dz 12 ?_
     refine wz 3 ?_
     exact ⟨⟨c + 1, by omega⟩, by simp only; omega, sb 6 ⟨Less.eq (by rw [eC] <;> rfl), jz, jz, jz, jz, jz, jz, jz, jz, jz, jz, jz, trivial⟩ (hn := by simp [he3])⟩
    obtain rfl : c = ms.length := by omega
    have hcf : ((apC r h g k ms (sl r k + (i : Int)) (sl r k + (j : Int)) ms.length : Nat) : Int) = apN r h g k ms (sl r k + (i : Int)) (sl r k + (j : Int)) := by unfold apC apN; rw [List.take_length]
    refine wz 4 ?_
    exact ⟨⟨[], (congrArg (fun o => apT r h g k ms o) (by rw [apO_succ hdj, ← hcf])).trans (List.append_nil _).symm⟩, rfl, by split <;> rfl⟩
   ·rintro _ rfl
    have hfull2 : (rngA (sl r k) (sh r k)).length = (rng (sl r k) (sh r k)).length := by simp
    rw [hfull2, apO_row hdi]
    refine nz ?_
    exact ⟨⟨[], by simp⟩, rfl, by split <;> rfl⟩
  ·rintro _ rfl
   have hfull : (rngA (sl r k) (sh r k)).length = (rng (sl r k) (sh r k)).length := by simp
   rw [hfull, apO_end]
   refine nz ?_
   refine wz 2 ?_
   exact retQM_pure (v := .raw _) rfl rfl jz
end Go.Proofs.YtjpokekbjmdgmaaGreatDoor
namespace Go.Proofs.YtjpokekbjmdgmaaGreatDoor
open Go Go.Ab Ni Hd
instance en124 : EnT Tryz.prog 124 := ⟨Ent.of Tryz.func124 (by kernel_rfl) rfl⟩
instance en125 : EnT Tryz.prog 125 := ⟨Ent.of Tryz.func125 (by kernel_rfl) rfl⟩
instance en126 : EnT Tryz.prog 126 := ⟨Ent.of Tryz.func126 (by kernel_rfl) rfl⟩
instance en158 : EnT Tryz.prog 158 := ⟨Ent.of Tryz.func158 (by kernel_rfl) rfl⟩
def twA (r : Rg) (ms : List Int) : Nat × Nat := match twinsOf r ms with | some p => p | none => (r.hides.length - 1, r.hides.length)
theorem twA_some {r : Rg} {ms : List Int} {i k : Nat} (h : twinsOf r ms = some (i, k)) : twA r ms = (i, k) ∧ enough r ms = false := by unfold twA enough; rw [h]; exact ⟨rfl, rfl⟩
theorem twA_none {r : Rg} {ms : List Int} (h : ∀ i, i < r.hides.length → pairI r ms i = none) : twA r ms = (r.hides.length - 1, r.hides.length) ∧ enough r ms = true := by
  have e : twinsOf r ms = none := by unfold twinsOf; rw [List.findSome?_eq_none_iff]; exact fun i hi => h i (List.mem_range.1 hi)
  unfold twA enough; rw [e]; exact ⟨rfl, rfl⟩
theorem every_p (r : Rg) : msP r (every r.kinds.length) := fun m hm => by
  obtain ⟨i, hi, rfl⟩ := List.mem_map.1 hm
  have := List.mem_range.1 hi; omega
theorem every_len (n : Nat) : (every n).length = n := by simp [every]
theorem every_succ (n : Nat) : every (n + 1) = every n ++ [(n : Int)] := by unfold every; rw [List.range_succ, List.map_append]; rfl
theorem twins_pure {r : Rg} (gB : RgB r) {ms : List Int} (hms : msP r ms) (hl : ms.length ≤ 1000000) : APure Tryz.prog 124 [rgA r, ints ms] (.tup [I ((twA r ms).1 : Nat), I ((twA r ms).2 : Nat), B (!enough r ms)]) := by
  refine ap Tryz.func124 (fun e0 he0 => ?_)
  refine wz 8 ?_
  refine aw_loopk (ι := { i : Nat // i ≤ r.hides.length ∧ ∀ j, j < i → pairI r ms j = none }) [1, 2, 9] (fun i => [(4, I (i.1 - 1 : Nat)), (5, I (if i.1 = 0 then 0 else r.hides.length : Nat)), (6, B false), (10, I i.1)]) (fun H i => H) (fun i => r.hides.length - i.1) (⟨0, Nat.zero_le _, fun j hj => by omega⟩) ⟨jz, jz, jz, jz, jz, jz, jz, trivial⟩ rfl ?_
  rintro ⟨i, hi, hno⟩
  refine nz ?_
  have hnh := gB.nh
  refine wz 1 ?_
  refine iz (fun c_11 c_11' => ?_) (fun c_11 c_11' => ?_)
  ·have hik : i < r.hides.length := by omega
   refine wz 5 ?_
   refine aw_loopk (ι := { k : Nat // (i + 1 ≤ k ∧ k ≤ r.hides.length) ∧ ∀ j, i < j → j < k → mist r ms i j = false }) [1, 2, 4, 9, 10] (fun u => [(5, I u.1), (6, B false)]) (fun H u => H) (fun u => r.hides.length - u.1) (⟨i + 1, by omega, fun j h1 h2 => by omega⟩) ⟨jz, jz, jz, jz, jz, jz, jz, trivial⟩ rfl ?_
   rintro ⟨k, hk, hno1⟩
   refine nz ?_
   have hmd := gB.mends
   refine wz 5 ?_
   refine iz (fun c_19 c_19' => ?_) (fun c_19 c_19' => ?_)
   ·have hkk : k < r.hides.length := by omega
    have hb0 := apart_bd r i k 0 ms
    have hb1 := apart_bd r i k 1 ms
    refine wz 0 ?_
    refine aw_draw 15 mo (by kernel_rfl) ?_
    refine dz 4 ?_
    refine dkz az (apart_pure gB hik hkk (by omega) hms hl (k := 0)) ?_
    refine dz 4 ?_
    refine dkz az (apart_pure gB hik hkk (by omega) hms hl (k := 1)) ?_
    refine dz 5 ?_
    refine wz 0 ?_
    refine iz (fun c_36 c_36' => ?_) (fun c_36 c_36' => ?_)
    ·have hmi : mist r ms i k = true := by unfold mist; exact c_36
     have htw : twinsOf r ms = some (i, k) := findSome_range hik (pairI_some (by omega) hkk hmi hno1) hno
     obtain ⟨et, ee⟩ := twA_some htw
     refine wz 1 ?_
     repeat (first | refine xe ?_ | refine bo ?_ rfl)
     refine wz 6 ?_
     exact retQ_pure (v := .tup [.raw _, .raw _, .raw _]) rfl rfl (less_tup ⟨Less.eq (by rw [et] <;> rfl), Less.eq (by rw [et] <;> first | rfl | (rw [if_neg (by omega)] <;> rfl)), Less.eq (by rw [ee] <;> rfl), trivial⟩)
    have hmi : mist r ms i k = false := by unfold mist; exact c_36
    refine wz 3 ?_
    exact ⟨⟨k + 1, by omega, fun j h1 h2 => by rcases Nat.lt_or_ge j k with q | q; exact hno1 j h1 q; (obtain rfl : j = k := by omega); exact hmi⟩, by simp only; omega, Sub.slots ⟨jz, jz, jz, jz, jz, jz, jz, trivial⟩⟩
   obtain rfl : k = r.hides.length := by omega
   have hno2 : ∀ j, i < j → j < r.hides.length → mist r ms i j = false := hno1
   refine wz 2 ?_
   exact ⟨⟨i + 1, by omega, fun j hj => by rcases Nat.lt_or_ge j i with q | q; exact hno j q; (obtain rfl : j = i := by omega); exact pairI_none hno2⟩, by simp only; omega, Sub.slots ⟨(by exact less_int (show ((i : Nat) : Int) = ((i + 1 - 1 : Nat) : Int) by omega)), (by exact less_int (show ((r.hides.length : Nat) : Int) = ((if i + 1 = 0 then 0 else r.hides.length : Nat) : Int) by rw [if_neg (by omega)])), jz, jz, jz, jz, jz, trivial⟩⟩
  obtain rfl : i = r.hides.length := by omega
  obtain ⟨et, ee⟩ := twA_none hno
  refine wz 6 ?_
  exact retQ_pure (v := .tup [.raw _, .raw _, .raw _]) rfl rfl (less_tup ⟨Less.eq (by rw [et] <;> rfl), Less.eq (by rw [et] <;> first | rfl | (rw [if_neg (by omega)] <;> rfl)), Less.eq (by rw [ee] <;> rfl), trivial⟩)
theorem every_pure (r : Rg) (hk : r.kinds.length ≤ 1000000) : APure Tryz.prog 125 [rgA r] (ints (every r.kinds.length)) := by
  refine ap Tryz.func125 (fun e0 he0 => ?_) (hr := by simp [AV.pureB])
  refine vz 7 ?_
  refine sq_nil ?_
  refine aw_block ?_
  refine aw_sub (sub_token 3 1 jz) ?_
  refine aw_loopk (ι := { k : Nat // k ≤ r.kinds.length }) [7] (fun i => [(8, I i.1), (3, .own 1 1 ((every i.1).map fun x => [I x]))]) (fun H i => H.set 1 (.tok ((every i.1).map fun x => [I x]).length)) (fun i => r.kinds.length - i.1) (⟨0, Nat.zero_le _⟩) ⟨jz, jz, jz, trivial⟩ rfl ?_
  rintro ⟨k, hk⟩
  refine nz ?_
  have hel := every_len k
  refine wz 1 ?_
  refine iz (fun c_9 c_9' => ?_) (fun c_9 c_9' => ?_)
  ·have eS : ((every (k + 1)).map fun x => [I x]) = ((every k).map fun x => [I x]) ++ [[I k]] := by rw [every_succ, List.map_append]; rfl
   refine wz 4 ?_
   refine sq_ev rfl (ev_buildSlice (es := [[_]]) sf28.h rfl rfl rfl rfl) ?_
   first | refine sq_append rfl sf28.h Tryz.underlying28 rfl rfl jz (Nat.succ_pos _) (by simp; omega) (by simp; omega) ?_ | refine sq_append rfl sf28.h Tryz.underlying28 rfl rfl (less_slx _ _) (Nat.succ_pos _) (by simp; omega) (by simp; omega) ?_
   refine wz 3 ?_
   exact ⟨⟨k + 1, by omega⟩, by simp only; omega, sb 2 ⟨jz, Less.eq (by rw [eS] <;> rfl), jz, trivial⟩ (hH := (congrArg (fun n => [_, AObj.tok n]) (congrArg List.length eS.symm)))⟩
  obtain rfl : k = r.kinds.length := by omega
  refine wz 2 ?_
  exact retQ_pure (v := .own _ _ _) rfl rfl (less_own _ _ _)
theorem ttwins_ok {r : Rg} (hk : r.kinds.length ≤ 1000000) (hh : r.hides.length ≤ 1000000) (hw : ∀ h ∈ r.hides, h.length ≤ 1000000) (ho : rgOK r = true) (he : enough r (every r.kinds.length) = false) : APure Tryz.prog 66 [rgA r] (.tup [I ((twA r (every r.kinds.length)).1 : Nat), I ((twA r (every r.kinds.length)).2 : Nat), I 0]) := by
  refine ap Tryz.func66 (fun e0 he0 => ?_)
  refine vz 4 ?_
  refine sq_nil ?_
  refine aw_seq ?_
  refine aw_seq ?_
  have gB := rgOK_B ho
  refine wz 1 ?_
  refine kz az (isregister_pure r hk hh hw) ?_
  refine wz 1 ?_
  refine iz (fun c_10 c_10' => ?_) (fun c_10 c_10' => ?_)
  ·exfalso
   simp_all
  refine wz 0 ?_
  refine aw_draw 11 mo (by kernel_rfl) ?_
  refine dz 2 ?_
  refine dkz az (every_pure r hk) ?_
  refine dkz az (twins_pure gB (every_p r) (by rw [every_len]; omega)) ?_
  refine dz 7 ?_
  refine wz 2 ?_
  refine iz (fun c_20 c_20' => ?_) (fun c_20 c_20' => ?_)
  ·exfalso
   simp_all
  refine wz 5 ?_
  exact retQ_pure (v := .tup [.raw _, .raw _, .raw _]) rfl rfl (less_tup ⟨jz, jz, jz, trivial⟩)
end Go.Proofs.YtjpokekbjmdgmaaGreatDoor
