/-
  A part of the proof: conditions: none beyond each theorem's own.
-/
import Derived.Test.YtfmpabgblbbcdaaGreatDoorWalkF
import Derived.Test.YtfmpabgblbbcdaaGreatDoorLogicD
import Derived.KernelRfl
import Derived.Lib.LaidTab
import Derived.Lib.ItoaNum
set_option linter.all false
set_option maxRecDepth 100000
set_option maxHeartbeats 8000000
namespace Go.Proofs.YtfmpabgblbbcdaaGreatDoor
open Go Go.Ab Ni St
open Hd hiding sz
instance en21 : EnT Tryz.prog 21 := ⟨Ent.of Tryz.func21 (by kernel_rfl) rfl⟩
instance en25 : EnT Tryz.prog 25 := ⟨Ent.of Tryz.func25 (by kernel_rfl) rfl⟩
instance en30 : EnT Tryz.prog 30 := ⟨Ent.of Tryz.func30 (by kernel_rfl) rfl⟩
instance en31 : EnT Tryz.prog 31 := ⟨Ent.of Tryz.func31 (by kernel_rfl) rfl⟩
instance en34 : EnT Tryz.prog 34 := ⟨Ent.of Tryz.func34 (by kernel_rfl) rfl⟩
instance en35 : EnT Tryz.prog 35 := ⟨Ent.of Tryz.func35 (by kernel_rfl) rfl⟩
instance en44 : EnT Tryz.prog 44 := ⟨Ent.of Tryz.func44 (by kernel_rfl) rfl⟩
instance en45 : EnT Tryz.prog 45 := ⟨Ent.of Tryz.func45 (by kernel_rfl) rfl⟩
instance en52 : EnT Tryz.prog 52 := ⟨Ent.of Tryz.func52 (by kernel_rfl) rfl⟩
instance en56 : EnT Tryz.prog 56 := ⟨Ent.of Tryz.func56 (by kernel_rfl) rfl⟩
instance en61 : EnT Tryz.prog 61 := ⟨Ent.of Tryz.func61 (by kernel_rfl) rfl⟩
instance en71 : EnT Tryz.prog 71 := ⟨Ent.of Tryz.func71 (by kernel_rfl) rfl⟩
instance en72 : EnT Tryz.prog 72 := ⟨Ent.of Tryz.func72 (by kernel_rfl) rfl⟩
instance en73 : EnT Tryz.prog 73 := ⟨Ent.of Tryz.func73 (by kernel_rfl) rfl⟩
instance en74 : EnT Tryz.prog 74 := ⟨Ent.of Tryz.func74 (by kernel_rfl) rfl⟩
def pA : Ply := ⟨2, [5, 2, 1, 4], [⟨1, 5, 1⟩, ⟨1, 3, 1⟩, ⟨2, 4, 1⟩, ⟨3, 6, 2⟩, ⟨3, 2, 1⟩], [⟨[2], [0, 1], 1, []⟩, ⟨[0], [1, 2, 4], 2, []⟩, ⟨[3], [0, 1, 2, 4], 1, []⟩, ⟨[], [2], 0, [3]⟩]⟩
def pB : Ply := ⟨2, [5, 2, 1, 4], [⟨1, 5, 1⟩, ⟨1, 3, 1⟩, ⟨2, 4, 1⟩, ⟨3, 6, 2⟩, ⟨3, 2, 1⟩], [⟨[2], [0, 1], 1, []⟩, ⟨[0], [1, 2, 4], 2, []⟩, ⟨[3], [0, 1, 2, 4], 1, [2]⟩, ⟨[], [2], 0, [3]⟩]⟩
def pC : Ply := ⟨2, [5, 2, 1, 4], [⟨1, 5, 1⟩, ⟨1, 1, 1⟩, ⟨2, 4, 1⟩, ⟨3, 6, 2⟩, ⟨3, 2, 1⟩], [⟨[2], [0, 1], 1, []⟩, ⟨[0], [1, 2, 4], 2, []⟩, ⟨[3], [0, 1, 2, 4], 1, []⟩, ⟨[], [2], 0, [3]⟩]⟩
def pD : Ply := ⟨2, [5, 2, 1, 4], [⟨1, 5, 1⟩, ⟨1, 3, 1⟩, ⟨2, 4, 1⟩, ⟨3, 6, 2⟩, ⟨3, 2, 1⟩], [⟨[2], [0, 1], 1, []⟩, ⟨[0, 3], [1, 2, 4], 2, []⟩, ⟨[3], [0, 1, 2, 4], 1, []⟩, ⟨[], [2], 0, [3]⟩]⟩
def text0 : List UInt8 := [115, 116, 101, 109, 32, 48, 32, 49, 10, 102, 105, 103, 117, 114, 101, 32, 108, 101, 102, 116, 32, 49, 32, 49, 10, 115, 99, 101, 110, 101, 32, 48, 32, 45, 32, 45, 32, 45, 10, 101, 110, 100, 32, 48, 56, 48, 10]
def p0 : Ply := ⟨0, [1], [⟨1, 1, 1⟩], [⟨[], [], 0, []⟩]⟩
theorem e_ok : plOK pA = true ∧ plOK pB = true ∧ plOK pC = true ∧ plOK pD = true ∧ plOK p0 = true := by decide +kernel
theorem e_hands : hands pD (sc pD 1) = 4 := by decide +kernel
theorem e_fC : failsAt pC = some 0 := by decide +kernel
theorem e_lC : lacks pC (sc pC 0) = 3 := by decide +kernel
theorem e_fB : failsAt pB = some 2 := by decide +kernel
theorem e_lB : lacks pB (sc pB 2) = 2 := by decide +kernel
theorem e_fA : failsAt pA = none := by decide +kernel
theorem e_first : arr true pA (sc pA 1) ≠ [] ∧ (arr true pA (sc pA 1)).headD [] = [1, 3, 2] := by decide +kernel
theorem e_places : arr true pA (sc pA 3) ≠ [] ∧ placesOf pA (sc pA 3) 0 = [2] := by decide +kernel
theorem e_plan : pick pA 4 = [[0, 1], [1, 3, 2], [0, 1, 3, 2], [2]] := by decide +kernel
theorem e_tot : totP pA = 1 := by decide +kernel
theorem e_whr : whr pA 1 1 = [1, 1, 1, 3] := by decide +kernel
theorem e_adds : adds pA 0 false = [3, 4] ∧ adds pA 0 true = [4] := by decide +kernel
theorem e_low : lower pC = some 1 := by decide +kernel
theorem e_leaves : leaves pB = some [1] := by decide +kernel
theorem e_parse : parseS text0 = some p0 := by decide +kernel
theorem e_text : textS p0 = text0 := parseS_text e_parse
abbrev fgR : List (List AV) := [[I 1, I 5, I 1], [I 1, I 3, I 1], [I 2, I 4, I 1], [I 3, I 6, I 2], [I 3, I 2, I 1]]
abbrev scR : List (List AV) := pA.scs.map scC
theorem k56 : APure Tryz.prog 56 [plA pD, I 1] (.tup [I 4, I 0]) := by
  have h := xhands_ok (p := pD) (by decide) (by decide) (by decide) (by decide) (k := 1) (by decide) e_ok.2.2.2.1
  rw [e_hands] at h; exact h
theorem k21C : APure Tryz.prog 21 [plA pC] (.tup [I 0, I 3, I 0]) := by
  have h := xfails_ok (p := pC) (by decide) (by decide) (by decide) (by decide) e_ok.2.2.1 e_fC
  rw [e_lC] at h; exact h
theorem k21B : APure Tryz.prog 21 [plA pB] (.tup [I 2, I 2, I 0]) := by
  have h := xfails_ok (p := pB) (by decide) (by decide) (by decide) (by decide) e_ok.2.1 e_fB
  rw [e_lB] at h; exact h
theorem k44 : APure Tryz.prog 44 [plA pA, I 1] (.tup [ints [1, 3, 2], I 0]) := by
  have h := xfirst_ok (p := pA) (by decide) (by decide) (by decide) (by decide) (k := 1) (by decide) e_ok.1
  rw [if_neg e_first.1, e_first.2] at h; exact h
theorem k45 : APure Tryz.prog 45 [plA pA, I 3, I 2] (.tup [ints [2], I 0]) := by
  have h := xplaces_ok (p := pA) (by decide) (by decide) (by decide) (by decide) (k := 3) (by decide) e_ok.1 (g := 2) (i := 0) (by decide) (by decide)
  rw [if_neg e_places.1, e_places.2] at h; exact h
theorem k61 : APure Tryz.prog 61 [plA pA] (.tup [hds [[0, 1], [1, 3, 2], [0, 1, 3, 2], [2]], I 1, I 0]) := by
  have h := xplan_ok (p := pA) (by decide) (by decide) (by decide) (by decide) e_ok.1 e_fA
  rw [show pick pA pA.scs.length = pick pA 4 from rfl, e_plan, e_tot] at h; exact h
theorem k25 : APure Tryz.prog 25 [plA pA, I 1, I 2] (.tup [ints [1, 1, 1, 3], I 0]) := by
  have h := xwhere_ok (p := pA) (by decide) (by decide) (by decide) (by decide) (k := 1) (by decide) e_ok.1 (g := 2) (i := 1) (by decide) (by decide) e_fA
  rw [e_whr] at h; exact h
theorem k30 : APure Tryz.prog 30 [plA pA, I 0] (.tup [ints [3, 4], I 0]) := by
  have h := xadds_ok (p := pA) (by decide) (by decide) (by decide) (by decide) (k := 0) (by decide) e_ok.1
  rw [e_adds.1] at h; exact h
theorem k31 : APure Tryz.prog 31 [plA pA, I 0] (.tup [ints [4], I 0]) := by
  have h := xjoins_ok (p := pA) (by decide) (by decide) (by decide) (by decide) (k := 0) (by decide) e_ok.1
  rw [e_adds.2] at h; exact h
theorem k34 : APure Tryz.prog 34 [plA pC] (.tup [I 1, I 0]) := xlower_ok (p := pC) (by decide) (by decide) (by decide) (by decide) e_ok.2.2.1 e_low
theorem k35 : APure Tryz.prog 35 [plA pB] (.tup [ints [1], I 0]) := xleaves_ok (p := pB) (by decide) (by decide) (by decide) (by decide) e_ok.2.1 e_leaves
theorem k52 : APure Tryz.prog 52 [S text0] (.tup [plA p0, I 0]) := by
  have h := read_pure text0
  rw [readAV, readE_ok (by decide) e_parse e_ok.2.2.2.2] at h; exact h
theorem k53 : APure Tryz.prog 53 [plA p0] (S text0) := by
  have h := rprint_pure (sm_ok e_ok.2.2.2.2)
  rw [e_text] at h; exact h
theorem same_t {l m : List Int} (hl : l.length ≤ 1000000) (hm : m.length ≤ 1000000) (h : l = m) : APure Tryz.prog 32 [ints l, ints m] (B true) := by have q := same_pure l m hl hm; rw [decide_eq_true h] at q; exact q
theorem sameW_t {l m : List Int} (hl : l.length ≤ 1000000) (hm : m.length ≤ 1000000) (h : l = m) : APure Tryz.prog 28 [ints l, ints m] (B true) := by have q := sameW_pure l m hl hm; rw [decide_eq_true h] at q; exact q
theorem sames_t {l m : List (List Int)} (hl : l.length ≤ 1000000) (hm : m.length ≤ 1000000) (la : ∀ x ∈ l, x.length ≤ 1000000) (lb : ∀ x ∈ m, x.length ≤ 1000000) (h : l = m) : APure Tryz.prog 64 [hds l, hds m] (B true) := by have q := sames_pure l m hl hm la lb; rw [decide_eq_true h] at q; exact q
theorem kA_call {o0 : AObj} : ACall Tryz.prog 74 [] [o0] (fun y H' => ∃ l, y = .ret (.agg [I 2, ints [5, 2, 1, 4], .msl 2 0 5 5, .msl 3 0 4 4]) ∧ H' = [o0, .cells l, .cells fgR.flatten, .cells scR.flatten]) := by
  refine acall_of (rs := [.cell 0 26]) Tryz.func74 rfl rfl (Nat.le_of_ble_eq_true rfl) fun e0 he0 => ?_
  refine wz 1 ?_
  refine sq_ev rfl (ev_less (ev_buildSlice (es := [[_], [_], [_], [_]]) sf22.h rfl rfl rfl rfl) (less_slx _ _)) ?_
  refine wz 5 ?_
  refine sq_build (es := fgR) rfl sf23.h rfl rfl rfl rfl ?_
  refine sq_ev rfl (ev_less (ev_buildSlice (es := [[_]]) sf22.h rfl rfl rfl rfl) (less_slx _ _)) ?_
  refine sq_ev rfl (ev_less (ev_buildSlice (es := [[_], [_]]) sf22.h rfl rfl rfl rfl) (less_slx _ _)) ?_
  refine sq_ev rfl (ev_less (ev_build bi41.h rfl) (less_agg (m := scC pA.scs[0]) ⟨jz, jz, jz, less_nil 1, trivial⟩)) ?_
  refine sq_ev rfl (ev_less (ev_buildSlice (es := [[_]]) sf22.h rfl rfl rfl rfl) (less_slx _ _)) ?_
  refine sq_ev rfl (ev_less (ev_buildSlice (es := [[_], [_], [_]]) sf22.h rfl rfl rfl rfl) (less_slx _ _)) ?_
  refine sq_ev rfl (ev_less (ev_build bi41.h rfl) (less_agg (m := scC pA.scs[1]) ⟨jz, jz, jz, less_nil 1, trivial⟩)) ?_
  refine sq_ev rfl (ev_less (ev_buildSlice (es := [[_]]) sf22.h rfl rfl rfl rfl) (less_slx _ _)) ?_
  refine sq_ev rfl (ev_less (ev_buildSlice (es := [[_], [_], [_], [_]]) sf22.h rfl rfl rfl rfl) (less_slx _ _)) ?_
  refine sq_ev rfl (ev_less (ev_build bi41.h rfl) (less_agg (m := scC pA.scs[2]) ⟨jz, jz, jz, less_nil 1, trivial⟩)) ?_
  refine sq_ev rfl (ev_less (ev_buildSlice (es := [[_]]) sf22.h rfl rfl rfl rfl) (less_slx _ _)) ?_
  refine sq_ev rfl (ev_less (ev_buildSlice (es := [[_]]) sf22.h rfl rfl rfl rfl) (less_slx _ _)) ?_
  refine sq_ev rfl (ev_less (ev_build bi41.h rfl) (less_agg (m := scC pA.scs[3]) ⟨less_nil 1, jz, jz, jz, trivial⟩)) ?_
  refine sq_build (es := scR) rfl sf24.h rfl rfl rfl rfl ?_
  refine wz 2 ?_
  exact ⟨rfl, _, rfl, _, rfl, rfl⟩
theorem kA_dead {o0 : AObj} : ACall Tryz.prog 74 [] [o0] (fun y H' => y = .ret (.agg [I 2, ints [5, 2, 1, 4], .msl 2 0 5 5, .msl 3 0 4 4]) ∧ H' = [o0, .dead, .cells fgR.flatten, .cells scR.flatten]) :=
  acall_wk kA_call fun y H1 ⟨l, hy, hH⟩ => ⟨_, _, _, hy, Less.rfl' _, by subst hH; exact .cons (.same _) (.cons (.dead _) (.cons (.same _) (.cons (.same _) .nil))), rfl, rfl⟩
theorem kA_pure  : APure Tryz.prog 74 [] (plA pA) := by
  refine ap Tryz.func74 (fun e0 he0 => ?_) (hr := by simp [AV.pureL, AV.pureB, AV.pureE, pureE_map])
  refine wz 1 ?_
  refine sq_ev rfl (ev_less (ev_buildSlice (es := [[_], [_], [_], [_]]) sf22.h rfl rfl rfl rfl) (less_slx _ _)) ?_
  refine wz 5 ?_
  refine sq_ev rfl (ev_less (ev_buildSlice (es := fgR) sf23.h rfl rfl rfl rfl) (less_slx _ _)) ?_
  refine sq_ev rfl (ev_less (ev_buildSlice (es := [[_]]) sf22.h rfl rfl rfl rfl) (less_slx _ _)) ?_
  refine sq_ev rfl (ev_less (ev_buildSlice (es := [[_], [_]]) sf22.h rfl rfl rfl rfl) (less_slx _ _)) ?_
  refine sq_ev rfl (ev_less (ev_build bi41.h rfl) (less_agg (m := scC pA.scs[0]) ⟨jz, jz, jz, less_nil 1, trivial⟩)) ?_
  refine sq_ev rfl (ev_less (ev_buildSlice (es := [[_]]) sf22.h rfl rfl rfl rfl) (less_slx _ _)) ?_
  refine sq_ev rfl (ev_less (ev_buildSlice (es := [[_], [_], [_]]) sf22.h rfl rfl rfl rfl) (less_slx _ _)) ?_
  refine sq_ev rfl (ev_less (ev_build bi41.h rfl) (less_agg (m := scC pA.scs[1]) ⟨jz, jz, jz, less_nil 1, trivial⟩)) ?_
  refine sq_ev rfl (ev_less (ev_buildSlice (es := [[_]]) sf22.h rfl rfl rfl rfl) (less_slx _ _)) ?_
  refine sq_ev rfl (ev_less (ev_buildSlice (es := [[_], [_], [_], [_]]) sf22.h rfl rfl rfl rfl) (less_slx _ _)) ?_
  refine sq_ev rfl (ev_less (ev_build bi41.h rfl) (less_agg (m := scC pA.scs[2]) ⟨jz, jz, jz, less_nil 1, trivial⟩)) ?_
  refine sq_ev rfl (ev_less (ev_buildSlice (es := [[_]]) sf22.h rfl rfl rfl rfl) (less_slx _ _)) ?_
  refine sq_ev rfl (ev_less (ev_buildSlice (es := [[_]]) sf22.h rfl rfl rfl rfl) (less_slx _ _)) ?_
  refine sq_ev rfl (ev_less (ev_build bi41.h rfl) (less_agg (m := scC pA.scs[3]) ⟨less_nil 1, jz, jz, jz, trivial⟩)) ?_
  refine sq_ev rfl (ev_less (ev_buildSlice (es := pA.scs.map scC) sf24.h rfl rfl rfl rfl) (less_slx _ _)) ?_
  refine wz 2 ?_
  exact retQ_res (vs := [.agg _]) rfl rfl ⟨resVar_cell rfl rfl ty26.h rfl, trivial⟩ jz
theorem kB_pure  : APure Tryz.prog 73 [] (plA pB) := by
  refine ap Tryz.func73 (fun e0 he0 => ?_) (hr := by simp [AV.pureL, AV.pureB, AV.pureE, pureE_map])
  refine wz 1 ?_
  refine sq_call (args := []) rfl en74.h jz trivial kA_dead ?_ (by rintro v H' ⟨h, _⟩; cases h)
  rintro v H' ⟨h, rfl⟩
  cases h
  refine wz 4 ?_
  refine sq_ev rfl (ev_less (ev_buildSlice (es := [[_]]) sf22.h rfl rfl rfl rfl) (less_slx _ _)) ?_
  refine sq_ev rfl (ev_index_msl (k := 2) sl24.h jz jz rfl (by decide)) ?_
  refine wz 1 ?_
  refine sq_store (j := 3) (off := 0 + 2 * 4 + 3) rfl jz jz rfl rfl ty22.h rfl rfl ?_
  refine sq_nil ?_
  refine aw_seq ?_
  refine aw_sub (sub_freeze (j := 3) (n := 4) (cap := 4) (sz := 4) (es := pB.scs.map scC) (rest := []) (sl' := [(0, .ptr 0 0), (1, .ptr 4 0)]) rfl rfl (fun q hq => ?_) (fun q hq => ?_) (FzH.same _ (by decide) (FzH.same _ (by decide) (FzH.same _ (by decide) (FzH.dead _ rfl (FzH.cells (by decide) (FzL.cons (Fz.same _) (FzL.cons (Fz.same _) (FzL.cons (Fz.same _) (FzL.cons Fz.frozen FzL.nil)))) (FzH.nil _))))))) ?_
  ·obtain ⟨x, _, rfl⟩ := List.mem_map.1 (show q ∈ pB.scs.map scC from hq); rfl
  ·simp only [List.mem_cons, List.not_mem_nil, or_false] at hq; rcases hq with rfl | rfl <;> exact Fz.same _
  refine nz ?_
  refine aw_sub (sub_freeze (j := 2) (n := 5) (cap := 5) (sz := 3) (es := pA.figs.map fgC) (rest := []) (sl' := [(0, .ptr 0 0), (1, .ptr 4 0)]) rfl rfl (fun q hq => ?_) (fun q hq => ?_) (FzH.same _ (by decide) (FzH.same _ (by decide) (FzH.dead _ rfl (FzH.same _ (by decide) (FzH.cells (by decide) (FzL.cons (Fz.same _) (FzL.cons (Fz.same _) (FzL.cons Fz.frozen (FzL.cons (Fz.same _) FzL.nil)))) (FzH.nil _))))))) ?_
  ·obtain ⟨x, _, rfl⟩ := List.mem_map.1 (show q ∈ pA.figs.map fgC from hq); rfl
  ·simp only [List.mem_cons, List.not_mem_nil, or_false] at hq; rcases hq with rfl | rfl <;> exact Fz.same _
  refine nz ?_
  refine wz 2 ?_
  exact retQ_res (vs := [.agg _]) rfl rfl ⟨resVar_cell rfl rfl ty26.h rfl, trivial⟩ jz
theorem kC_pure  : APure Tryz.prog 72 [] (plA pC) := by
  refine ap Tryz.func72 (fun e0 he0 => ?_) (hr := by simp [AV.pureL, AV.pureB, AV.pureE, pureE_map])
  refine wz 1 ?_
  refine sq_call (args := []) rfl en74.h jz trivial kA_dead ?_ (by rintro v H' ⟨h, _⟩; cases h)
  rintro v H' ⟨h, rfl⟩
  cases h
  refine wz 4 ?_
  refine sq_ev rfl (ev_index_msl (k := 1) sl23.h jz jz rfl (by decide)) ?_
  refine wz 1 ?_
  refine sq_store (j := 2) (off := 0 + 1 * 3 + 1) rfl jz jz rfl rfl ty3.h rfl rfl ?_
  refine sq_nil ?_
  refine aw_seq ?_
  refine aw_sub (sub_freeze (j := 3) (n := 4) (cap := 4) (sz := 4) (es := scR) (rest := []) (sl' := [(0, .ptr 0 0), (1, .ptr 4 0)]) rfl rfl (fun q hq => ?_) (fun q hq => ?_) (FzH.same _ (by decide) (FzH.same _ (by decide) (FzH.same _ (by decide) (FzH.dead _ rfl (FzH.cells (by decide) (FzL.cons (Fz.same _) (FzL.cons (Fz.same _) (FzL.cons (Fz.same _) (FzL.cons Fz.frozen FzL.nil)))) (FzH.nil _))))))) ?_
  ·obtain ⟨x, _, rfl⟩ := List.mem_map.1 (show q ∈ pA.scs.map scC from hq); rfl
  ·simp only [List.mem_cons, List.not_mem_nil, or_false] at hq; rcases hq with rfl | rfl <;> exact Fz.same _
  refine nz ?_
  refine aw_sub (sub_freeze (j := 2) (n := 5) (cap := 5) (sz := 3) (es := pC.figs.map fgC) (rest := []) (sl' := [(0, .ptr 0 0), (1, .ptr 4 0)]) rfl rfl (fun q hq => ?_) (fun q hq => ?_) (FzH.same _ (by decide) (FzH.same _ (by decide) (FzH.dead _ rfl (FzH.same _ (by decide) (FzH.cells (by decide) (FzL.cons (Fz.same _) (FzL.cons (Fz.same _) (FzL.cons Fz.frozen (FzL.cons (Fz.same _) FzL.nil)))) (FzH.nil _))))))) ?_
  ·obtain ⟨x, _, rfl⟩ := List.mem_map.1 (show q ∈ pC.figs.map fgC from hq); rfl
  ·simp only [List.mem_cons, List.not_mem_nil, or_false] at hq; rcases hq with rfl | rfl <;> exact Fz.same _
  refine nz ?_
  refine wz 2 ?_
  exact retQ_res (vs := [.agg _]) rfl rfl ⟨resVar_cell rfl rfl ty26.h rfl, trivial⟩ jz
theorem kD_pure  : APure Tryz.prog 71 [] (plA pD) := by
  refine ap Tryz.func71 (fun e0 he0 => ?_) (hr := by simp [AV.pureL, AV.pureB, AV.pureE, pureE_map])
  refine wz 1 ?_
  refine sq_call (args := []) rfl en74.h jz trivial kA_dead ?_ (by rintro v H' ⟨h, _⟩; cases h)
  rintro v H' ⟨h, rfl⟩
  cases h
  refine wz 4 ?_
  refine sq_ev rfl (ev_less (ev_buildSlice (es := [[_], [_]]) sf22.h rfl rfl rfl rfl) (less_slx _ _)) ?_
  refine sq_ev rfl (ev_index_msl (k := 1) sl24.h jz jz rfl (by decide)) ?_
  refine wz 1 ?_
  refine sq_store (j := 3) (off := 0 + 1 * 4 + 0) rfl jz jz rfl rfl ty22.h rfl rfl ?_
  refine sq_nil ?_
  refine aw_seq ?_
  refine aw_sub (sub_freeze (j := 3) (n := 4) (cap := 4) (sz := 4) (es := pD.scs.map scC) (rest := []) (sl' := [(0, .ptr 0 0), (1, .ptr 4 0)]) rfl rfl (fun q hq => ?_) (fun q hq => ?_) (FzH.same _ (by decide) (FzH.same _ (by decide) (FzH.same _ (by decide) (FzH.dead _ rfl (FzH.cells (by decide) (FzL.cons (Fz.same _) (FzL.cons (Fz.same _) (FzL.cons (Fz.same _) (FzL.cons Fz.frozen FzL.nil)))) (FzH.nil _))))))) ?_
  ·obtain ⟨x, _, rfl⟩ := List.mem_map.1 (show q ∈ pD.scs.map scC from hq); rfl
  ·simp only [List.mem_cons, List.not_mem_nil, or_false] at hq; rcases hq with rfl | rfl <;> exact Fz.same _
  refine nz ?_
  refine aw_sub (sub_freeze (j := 2) (n := 5) (cap := 5) (sz := 3) (es := pA.figs.map fgC) (rest := []) (sl' := [(0, .ptr 0 0), (1, .ptr 4 0)]) rfl rfl (fun q hq => ?_) (fun q hq => ?_) (FzH.same _ (by decide) (FzH.same _ (by decide) (FzH.dead _ rfl (FzH.same _ (by decide) (FzH.cells (by decide) (FzL.cons (Fz.same _) (FzL.cons (Fz.same _) (FzL.cons Fz.frozen (FzL.cons (Fz.same _) FzL.nil)))) (FzH.nil _))))))) ?_
  ·obtain ⟨x, _, rfl⟩ := List.mem_map.1 (show q ∈ pA.figs.map fgC from hq); rfl
  ·simp only [List.mem_cons, List.not_mem_nil, or_false] at hq; rcases hq with rfl | rfl <;> exact Fz.same _
  refine nz ?_
  refine wz 2 ?_
  exact retQ_res (vs := [.agg _]) rfl rfl ⟨resVar_cell rfl rfl ty26.h rfl, trivial⟩ jz
theorem known_pure  : APure Tryz.prog 20 [] (B true) := by
  refine ap Tryz.func20 (fun e0 he0 => ?_)
  refine wz 1 ?_
  refine kz az (kD_pure) ?_
  refine kz az (k56) ?_
  refine wz 5 ?_
  refine kz az (kC_pure) ?_
  refine kz az (k21C) ?_
  refine wz 7 ?_
  refine kz az (kB_pure) ?_
  refine kz az (k21B) ?_
  refine wz 7 ?_
  refine kz az (kA_pure) ?_
  refine kz az (k44) ?_
  refine wz 5 ?_
  refine kz az (kA_pure) ?_
  refine kz az (k45) ?_
  refine wz 5 ?_
  refine kz az (kA_pure) ?_
  refine kz az (k61) ?_
  refine wz 7 ?_
  refine kz az (kA_pure) ?_
  refine kz az (k25) ?_
  refine wz 5 ?_
  refine kz az (kA_pure) ?_
  refine kz az (k30) ?_
  refine wz 5 ?_
  refine kz az (kA_pure) ?_
  refine kz az (k31) ?_
  refine wz 5 ?_
  refine kz az (kC_pure) ?_
  refine kz az (k34) ?_
  refine wz 5 ?_
  refine kz az (kB_pure) ?_
  refine kz az (k35) ?_
  refine wz 5 ?_
  refine kz az (k52) ?_
  refine wz 73 ?_
  refine sq_yes rfl rfl jz rfl (ev_buildSlice (es := [[_], [_], [_]]) sf22.h rfl rfl rfl rfl) ?_
  refine sq_yes rfl rfl jz rfl (ev_call en32.h jz (same_t (l := [1, 3, 2]) (m := [1, 3, 2]) (by decide) (by decide) rfl) ⟨jz, less_slx _ _, trivial⟩) ?_
  refine wz 4 ?_
  refine sq_yes rfl rfl jz rfl (ev_buildSlice (es := [[_]]) sf22.h rfl rfl rfl rfl) ?_
  refine sq_yes rfl rfl jz rfl (ev_call en32.h jz (same_t (l := [2]) (m := [2]) (by decide) (by decide) rfl) ⟨jz, less_slx _ _, trivial⟩) ?_
  refine wz 8 ?_
  refine sq_yes rfl rfl jz rfl (ev_less (ev_buildSlice (es := [[_], [_]]) sf22.h rfl rfl rfl rfl) (less_slx _ _)) ?_
  refine sq_yes rfl rfl jz rfl (ev_less (ev_buildSlice (es := [[_], [_], [_]]) sf22.h rfl rfl rfl rfl) (less_slx _ _)) ?_
  refine sq_yes rfl rfl jz rfl (ev_less (ev_buildSlice (es := [[_], [_], [_], [_]]) sf22.h rfl rfl rfl rfl) (less_slx _ _)) ?_
  refine sq_yes rfl rfl jz rfl (ev_less (ev_buildSlice (es := [[_]]) sf22.h rfl rfl rfl rfl) (less_slx _ _)) ?_
  refine sq_yes rfl rfl jz rfl (ev_less (ev_buildSlice (es := ([[0, 1], [1, 3, 2], [0, 1, 3, 2], [2]] : List (List Int)).map fun h => [ints h]) sf61.h rfl rfl rfl rfl) (less_slx _ _)) ?_
  refine ky az (sames_t (l := [[0, 1], [1, 3, 2], [0, 1, 3, 2], [2]]) (m := [[0, 1], [1, 3, 2], [0, 1, 3, 2], [2]]) (by decide) (by decide) (by decide) (by decide) rfl) ?_
  refine wz 8 ?_
  refine sq_ev rfl (ev_buildSlice (es := [[_], [_], [_], [_]]) sf35.h rfl rfl rfl rfl) ?_
  refine sq_ev rfl (ev_call en28.h jz (sameW_t (l := [1, 1, 1, 3]) (m := [1, 1, 1, 3]) (by decide) (by decide) rfl) ⟨jz, less_slx _ _, trivial⟩) ?_
  refine wz 2 ?_
  refine sq_yes rfl rfl jz rfl (ev_buildSlice (es := [[_], [_]]) sf22.h rfl rfl rfl rfl) ?_
  refine sq_yes rfl rfl jz rfl (ev_call en32.h jz (same_t (l := [3, 4]) (m := [3, 4]) (by decide) (by decide) rfl) ⟨jz, less_slx _ _, trivial⟩) ?_
  refine wz 3 ?_
  refine sq_yes rfl rfl jz rfl (ev_buildSlice (es := [[_]]) sf22.h rfl rfl rfl rfl) ?_
  refine sq_yes rfl rfl jz rfl (ev_call en32.h jz (same_t (l := [4]) (m := [4]) (by decide) (by decide) rfl) ⟨jz, less_slx _ _, trivial⟩) ?_
  refine wz 7 ?_
  refine sq_yes rfl rfl jz rfl (ev_buildSlice (es := [[_]]) sf22.h rfl rfl rfl rfl) ?_
  refine sq_yes rfl rfl jz rfl (ev_call en32.h jz (same_t (l := [1]) (m := [1]) (by decide) (by decide) rfl) ⟨jz, less_slx _ _, trivial⟩) ?_
  refine wz 3 ?_
  refine ky az (k53) ?_
  refine sq_yes rfl rfl jz rfl (ev_less (ev_seqS (a := text0) (b := text0) jz jz) (Less.eq (b := B true) (by rw [decide_eq_true rfl]))) ?_
  refine wz 2 ?_
  exact rz rfl jz
end Go.Proofs.YtfmpabgblbbcdaaGreatDoor
