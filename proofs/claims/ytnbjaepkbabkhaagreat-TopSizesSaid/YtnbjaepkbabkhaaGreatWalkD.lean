/-
  A part of the proof: conditions: none beyond each theorem's own.
-/
import Derived.Test.YtnbjaepkbabkhaaGreatWalkC
import Derived.Test.YtnbjaepkbabkhaaGreatLogicD
import Derived.KernelRfl
import Derived.Lib.LaidTab
import Derived.Lib.ItoaNum
set_option linter.all false
set_option maxRecDepth 100000
set_option maxHeartbeats 8000000
namespace Go.Proofs.YtnbjaepkbabkhaaGreat
open Go Go.Ab Br Hd
open Ni hiding fw bw lo hi can
instance bi121 : BdI Tryz.prog 121 [.raw (.int .i64 0), .raw (.slice none 0 0), .raw (.slice none 0 0), .raw (.int .i64 0), .raw (.int .i64 0), .raw (.int .i64 0), .raw (.int .i64 0), .raw (.int .i64 0), .raw (.int .i64 0), .raw (.int .i64 0), .raw (.slice none 0 0)] true [(0, 3), (3, 7), (10, 1)] 0 := ⟨by kernel_rfl⟩
instance en10 : EnT Tryz.prog 10 := ⟨Ent.of Tryz.func10 (by kernel_rfl) rfl⟩
instance en17 : EnT Tryz.prog 17 := ⟨Ent.of Tryz.func17 (by kernel_rfl) rfl⟩
instance en42 : EnT Tryz.prog 42 := ⟨Ent.of Tryz.func42 (by kernel_rfl) rfl⟩
instance en9 : EnT Tryz.prog 9 := ⟨Ent.of Tryz.func9 (by kernel_rfl) rfl⟩
instance sf115 : SlS Tryz.prog 115 121 11 136 := ⟨SlFact.of (by kernel_rfl)⟩
instance sf51 : SlS Tryz.prog 51 55 1 8 := ⟨SlFact.of (by kernel_rfl)⟩
instance sl115 : SlE Tryz.prog 115 121 11 := ⟨by kernel_rfl⟩
instance ty115 : TyF Tryz.prog 115 false 1 := ⟨by kernel_rfl⟩
instance ty51 : TyF Tryz.prog 51 false 1 := ⟨by kernel_rfl⟩
instance ud115 : UnD Tryz.prog 115 (.slice 121) := ⟨Tryz.underlying115⟩
instance ud51 : UnD Tryz.prog 51 (.slice 55) := ⟨Tryz.underlying51⟩
instance z121 : ZeO Tryz.prog 121 [.raw (.int .i64 0), .raw (.slice none 0 0), .raw (.slice none 0 0), .raw (.int .i64 0), .raw (.int .i64 0), .raw (.int .i64 0), .raw (.int .i64 0), .raw (.int .i64 0), .raw (.int .i64 0), .raw (.int .i64 0), .raw (.slice none 0 0)] := ⟨by kernel_rfl⟩
theorem sto_B {s : Sto} (h : stoOK s = true) : ParB s ∧ cnt s 0 ≤ 40 ∧ lng s 0 ≤ 10 := by
  unfold stoOK at h
  rw [Bool.and_eq_true, Bool.and_eq_true, decide_eq_true_eq, decide_eq_true_eq] at h
  exact ⟨parOK_iff.1 h.1, h.2.1, h.2.2⟩
theorem play_B {s : Sto} (h : stoOK s = true) {l : List Int} (hl : l ∈ Br.plays s) : l.length ≤ 10 ∧ ∀ x ∈ l, 0 ≤ x ∧ x < s.scs.length :=
  derP_mem (sto_B h).1 (sto_B h).2.2 (plays_mem.1 hl)
theorem plays_40 {s : Sto} (h : stoOK s = true) : (Br.plays s).length ≤ 40 := Nat.le_trans (plays_len (sto_B h).1) (sto_B h).2.1
def bothOK (s : Sto) (n : Evg) : Bool := stoOK s && evgOK n
def fitP (s : Sto) (n : Evg) : List (List Int) := (Br.plays s).filter fun l => decide (vdc s n l = 4)
def fitL (s : Sto) (n : Evg) : List (List Int) := if bothOK s n = true then fitP s n else []
def fitE (s : Sto) (n : Evg) : Int := if bothOK s n = true then (if (fitP s n).isEmpty = true then 5 else 0) else 2
def plyL (s : Sto) : List (List Int) := if stoOK s = true then Br.plays s else []
def eveC (s : Sto) (n : Evg) : List Nat := match fitL s n with | [] => [] | l :: _ => progC (plnOf s n l)
def eveL (s : Sto) (n : Evg) : List Int := match fitL s n with | [] => [] | l :: _ => progL (plnOf s n l)
def eveE (s : Sto) (n : Evg) : Int := match fitL s n with | [] => fitE s n | l :: _ => progE (plnOf s n l)
theorem inE_stg (m : Nat) (s : Sto) (n : Evg) (L : List (List Int)) : AV.inE m (L.map (stgC s n)) = true := inE_map fun x _ => by simp [AV.inL, AV.inB]
theorem pureE_stg (s : Sto) (n : Evg) (L : List (List Int)) : AV.pureE (L.map (stgC s n)) = true := pureE_map fun x _ => by simp [AV.pureL, AV.pureB]
theorem fitE_nil {s : Sto} {n : Evg} (h : fitE s n ≠ 0) : fitL s n = [] := by
  unfold fitE at h; unfold fitL
  split
  · rename_i q
    rw [if_pos q] at h
    cases hf : fitP s n with
    | nil => rfl
    | cons a l => rw [hf] at h; exact absurd rfl h
  · rfl
theorem fitE_cons {s : Sto} {n : Evg} (h : fitE s n = 0) : bothOK s n = true ∧ ∃ l L, fitL s n = l :: L := by
  unfold fitE at h; unfold fitL
  by_cases q : bothOK s n = true
  · rw [if_pos q] at h ⊢
    refine ⟨q, ?_⟩
    cases hf : fitP s n with
    | nil => rw [hf] at h; exact absurd h (by decide)
    | cons a l => exact ⟨a, l, rfl⟩
  · rw [if_neg q] at h; exact absurd h (by decide)
theorem fitL_mem {s : Sto} {n : Evg} {l : List Int} (h : l ∈ fitL s n) : stoOK s = true ∧ evgOK n = true ∧ l ∈ Br.plays s ∧ vdc s n l = 4 := by
  unfold fitL at h
  by_cases q : bothOK s n = true
  · rw [if_pos q] at h
    unfold bothOK at q
    rw [Bool.and_eq_true] at q
    have h2 := List.mem_filter.1 h
    exact ⟨q.1, q.2, h2.1, of_decide_eq_true h2.2⟩
  · rw [if_neg q] at h; cases h
theorem filt_take {L : List (List Int)} {q : List Int → Bool} {k : Nat} (h : k < L.length) : (L.take (k + 1)).filter q = (L.take k).filter q ++ (if q L[k] = true then [L[k]] else []) := by
  rw [List.take_succ_eq_append_getElem h, List.filter_append]
  congr 1
  by_cases e : q L[k] = true
  · rw [if_pos e, List.filter_cons_of_pos e]; rfl
  · rw [if_neg e, List.filter_cons_of_neg e]; rfl
theorem xplays_pure (s : Sto) (hs : s.scs.length ≤ 1000000) (hr : s.rules.length ≤ 1000000) : APure Tryz.prog 9 [stoA s] (.tup [hds (plyL s), I (if stoOK s = true then 0 else 2)]) := by
  refine ap Tryz.func9 (fun e0 he0 => ?_)
  refine wz 4 ?_
  refine kz az (story_pure s hs hr) ?_
  refine wz 1 ?_
  refine iz (fun c_6 c_6' => ?_) (fun c_6 c_6' => ?_)
  ·have hok : ¬ stoOK s = true := by simpa using c_6
   refine wz 2 ?_
   exact retQ_pure (v := .tup [.raw _, .raw _]) rfl rfl (less_tup ⟨(less_nil 1).trans (Less.eq (by unfold plyL; rw [if_neg hok]; rfl)), Less.eq (by rw [if_neg hok]), trivial⟩)
  have hok : stoOK s = true := by simpa using c_6
  refine wz 1 ?_
  refine kz az (tell_pure (sto_B hok).1) ?_
  refine kz az (plays_pure (sto_B hok).1 (sto_B hok).2.2 (sto_B hok).2.1) ?_
  refine wz 2 ?_
  exact retQ_pure (v := .tup [.sl _ _, .raw _]) rfl rfl (less_tup ⟨Less.eq (by unfold plyL; rw [if_pos hok]), Less.eq (by rw [if_pos hok]), trivial⟩)
theorem fitting_pure (s : Sto) (n : Evg) (hs : s.scs.length ≤ 1000000) (hr : s.rules.length ≤ 1000000) : APure Tryz.prog 42 [stoA s, evgA n] (.tup [.sl 11 ((fitL s n).map (stgC s n)), I (fitE s n)]) := by
  refine ap Tryz.func42 (fun e0 he0 => ?_) (hr := by simp [AV.pureL, AV.pureB, pureE_stg])
  refine wz 5 ?_
  refine kz az (story_pure s hs hr) ?_
  refine wz 2 ?_
  refine sz 13 (fun g1_3 g1_3' => ?_) (fun g1_3 g1_3' => ?_)
  ·have hno : ¬ bothOK s n = true := by unfold bothOK; simp_all
   refine wz 7 ?_
   exact retQ_pure (v := .tup [.raw _, .raw _]) rfl rfl (less_tup ⟨(less_nil 11).trans (Less.eq (by unfold fitL; rw [if_neg hno]; rfl)), Less.eq (by unfold fitE; rw [if_neg hno]), trivial⟩)
  have hok : stoOK s = true := by simpa using g1_3
  refine wz 1 ?_
  refine ky az (isev_pure n) ?_
  refine wz 2 ?_
  refine iz (fun c_17 c_17' => ?_) (fun c_17 c_17' => ?_)
  ·have hno : ¬ bothOK s n = true := by unfold bothOK; simp_all
   refine wz 2 ?_
   exact retQ_pure (v := .tup [.raw _, .raw _]) rfl rfl (less_tup ⟨(less_nil 11).trans (Less.eq (by unfold fitL; rw [if_neg hno]; rfl)), Less.eq (by unfold fitE; rw [if_neg hno]), trivial⟩)
  have hev : evgOK n = true := by simp_all
  have hbo : bothOK s n = true := by unfold bothOK; rw [hok, hev]; rfl
  have h40 := plays_40 hok
  refine wz 2 ?_
  refine kz az (tell_pure (sto_B hok).1) ?_
  refine kz az (plays_pure (sto_B hok).1 (sto_B hok).2.2 (sto_B hok).2.1) ?_
  refine vz 2 ?_
  refine sq_nil ?_
  refine aw_block ?_
  refine aw_sub (sub_token 6 11 jz) ?_
  refine nz ?_
  refine aw_loopk (ι := { k : Nat // k ≤ (Br.plays s).length }) [2, 3, 20, 21] (fun g => [(22, I (g.1 : Nat)), (6, .own 2 11 ((((Br.plays s).take g.1).filter fun l => decide (vdc s n l = 4)).map (stgC s n)))]) (fun H g => [.cells (stoC s), .cells (evgC n), .tok ((((Br.plays s).take g.1).filter fun l => decide (vdc s n l = 4)).map (stgC s n)).length]) (fun g => (Br.plays s).length - g.1) (⟨0, Nat.zero_le _⟩) ⟨jz, jz, jz, jz, jz, jz, trivial⟩ rfl ?_
  rintro ⟨k, hk⟩
  refine nz ?_
  have hfl : ((Br.plays s).take k |>.filter fun l => decide (vdc s n l = 4)).length ≤ 40 := Nat.le_trans (List.length_filter_le _ _) (by rw [List.length_take]; omega)
  refine wz 1 ?_
  refine iz (fun c_23 c_23' => ?_) (fun c_23 c_23' => ?_)
  ·have hkL : k < (Br.plays s).length := by omega
   have hpb := play_B hok (List.getElem_mem hkL)
   refine wz 10 ?_
   refine kz az (verdict_pure s n (Br.plays s)[k] hs hpb.1 hpb.2) ?_
   refine wz 1 ?_
   refine iz (fun c_32 c_32' => ?_) (fun c_32 c_32' => ?_)
   ·have eS : (((Br.plays s).take (k + 1)).filter fun l => decide (vdc s n l = 4)).map (stgC s n) = (((Br.plays s).take k).filter fun l => decide (vdc s n l = 4)).map (stgC s n) ++ [stgC s n (Br.plays s)[k]] := by rw [filt_take hkL, if_pos (by simpa using c_32), List.map_append]; rfl
    refine wz 2 ?_
    refine sq_ev rfl (ev_buildSlice (es := [[_, _, _, _, _, _, _, _, _, _, _]]) sf115.h rfl rfl rfl rfl) ?_
    first | refine sq_append rfl sf115.h Tryz.underlying115 rfl rfl jz (Nat.succ_pos _) (by simp; omega) (by simp; omega) ?_ | refine sq_append rfl sf115.h Tryz.underlying115 rfl rfl (less_slx _ _) (Nat.succ_pos _) (by simp; omega) (by simp; omega) ?_
    refine wz 3 ?_
    exact ⟨⟨k + 1, by omega⟩, by simp only; omega, sb 3 ⟨jz, Less.eq (b := .own 2 11 ((((Br.plays s).take (k + 1)).filter fun l => decide (vdc s n l = 4)).map (stgC s n))) (by rw [eS] <;> rfl), jz, jz, jz, jz, trivial⟩ (hH := (congrArg (fun m => [AObj.cells (stoC s), .cells (evgC n), .tok m]) (congrArg List.length eS.symm))) (h1 := (by simp [slotsIn, keepS, sget, AV.inB, AV.inL, inE_stg, -List.map_take, -List.filter_append])) (h2 := (by simp [objsIn, AObj.inB, AV.inB, AV.inL]))⟩
   have eS : (((Br.plays s).take (k + 1)).filter fun l => decide (vdc s n l = 4)).map (stgC s n) = (((Br.plays s).take k).filter fun l => decide (vdc s n l = 4)).map (stgC s n) := by rw [filt_take hkL, if_neg (by simpa using c_32), List.append_nil]
   refine wz 2 ?_
   exact ⟨⟨k + 1, by omega⟩, by simp only; omega, sb 3 ⟨jz, Less.eq (b := .own 2 11 ((((Br.plays s).take (k + 1)).filter fun l => decide (vdc s n l = 4)).map (stgC s n))) (by rw [eS] <;> rfl), jz, jz, jz, jz, trivial⟩ (hH := (congrArg (fun m => [AObj.cells (stoC s), .cells (evgC n), .tok m]) (congrArg List.length eS.symm))) (h1 := (by simp [slotsIn, keepS, sget, AV.inB, AV.inL, inE_stg, -List.map_take, -List.filter_append])) (h2 := (by simp [objsIn, AObj.inB, AV.inB, AV.inL]))⟩
  obtain rfl : k = (Br.plays s).length := by omega
  have ef : ((Br.plays s).take (Br.plays s).length).filter (fun l => decide (vdc s n l = 4)) = fitL s n := by unfold fitL fitP; rw [if_pos hbo, List.take_length]
  refine wz 3 ?_
  refine iz (fun c_40 c_40' => ?_) (fun c_40 c_40' => ?_)
  ·have hnil : fitL s n = [] := by rw [← ef]; exact List.length_eq_zero_iff.1 (by simpa using c_40)
   have hE : fitE s n = 5 := by unfold fitL at hnil; unfold fitE; rw [if_pos hbo] at hnil ⊢; rw [hnil]; rfl
   refine wz 2 ?_
   exact retQ_pure (v := .tup [.raw _, .raw _]) rfl rfl (less_tup ⟨(less_nil 11).trans (Less.eq (by rw [hnil]; rfl)), Less.eq (by rw [hE]), trivial⟩)
  have hne : fitL s n ≠ [] := by rw [← ef]; intro q; rw [q] at c_40; simp at c_40
  have hE : fitE s n = 0 := by unfold fitL at hne; unfold fitE; rw [if_pos hbo] at hne ⊢; cases hf : fitP s n with | nil => exact absurd hf hne | cons a l => rfl
  refine wz 3 ?_
  exact retQ_pure (v := .tup [.own _ _ _, .raw _]) rfl rfl (less_tup ⟨(less_own _ _ _).trans (Less.eq (by rw [ef])), Less.eq (by rw [hE]), trivial⟩)
end Go.Proofs.YtnbjaepkbabkhaaGreat
namespace Go.Proofs.YtnbjaepkbabkhaaGreat
open Go Go.Ab Br Hd
open Ni hiding fw bw lo hi can
instance bi101 : BdI Tryz.prog 101 [.raw (.int .i64 0), .raw (.int .i64 0), .raw (.int .i64 0), .raw (.bool false), .raw (.bool false)] true [(0, 1), (1, 1), (2, 1), (3, 1), (4, 1)] 0 := ⟨by kernel_rfl⟩
instance bi104 : BdI Tryz.prog 104 [.raw (.int .i64 0), .raw (.slice none 0 0)] true [(0, 1), (1, 1)] 0 := ⟨by kernel_rfl⟩
instance bi25 : BdI Tryz.prog 25 [.raw (.int .i64 0), .raw (.slice none 0 0), .raw (.slice none 0 0)] true [(0, 1), (1, 1), (2, 1)] 0 := ⟨by kernel_rfl⟩
instance bi28 : BdI Tryz.prog 28 [.raw (.int .i64 0), .raw (.int .i64 0), .raw (.int .i64 0), .raw (.int .i64 0)] false [] 2 := ⟨by kernel_rfl⟩
instance bi30 : BdI Tryz.prog 30 [.raw (.int .i64 0), .raw (.int .i64 0), .raw (.int .i64 0), .raw (.int .i64 0), .raw (.int .i64 0), .raw (.int .i64 0), .raw (.int .i64 0)] true [(0, 1), (1, 4), (5, 2)] 0 := ⟨by kernel_rfl⟩
instance en29 : EnT Tryz.prog 29 := ⟨Ent.of Tryz.func29 (by kernel_rfl) rfl⟩
instance en37 : EnT Tryz.prog 37 := ⟨Ent.of Tryz.func37 (by kernel_rfl) rfl⟩
instance en38 : EnT Tryz.prog 38 := ⟨Ent.of Tryz.func38 (by kernel_rfl) rfl⟩
instance en78 : EnT Tryz.prog 78 := ⟨Ent.of Tryz.func78 (by kernel_rfl) rfl⟩
instance en8 : EnT Tryz.prog 8 := ⟨Ent.of Tryz.func8 (by kernel_rfl) rfl⟩
instance sf22 : SlS Tryz.prog 22 101 5 32 := ⟨SlFact.of (by kernel_rfl)⟩
instance sf23 : SlS Tryz.prog 23 104 2 32 := ⟨SlFact.of (by kernel_rfl)⟩
instance z30 : ZeO Tryz.prog 30 [.raw (.int .i64 0), .raw (.int .i64 0), .raw (.int .i64 0), .raw (.int .i64 0), .raw (.int .i64 0), .raw (.int .i64 0), .raw (.int .i64 0)] := ⟨by kernel_rfl⟩
theorem eve_nil {s : Sto} {n : Evg} (h : fitL s n = []) : eveC s n = [] ∧ eveL s n = [] ∧ eveE s n = fitE s n := by unfold eveC eveL eveE; rw [h]; exact ⟨rfl, rfl, rfl⟩
theorem eve_cons {s : Sto} {n : Evg} {l : List Int} {L : List (List Int)} (h : fitL s n = l :: L) : eveC s n = progC (plnOf s n l) ∧ eveL s n = progL (plnOf s n l) ∧ eveE s n = progE (plnOf s n l) := by unfold eveC eveL eveE; rw [h]; exact ⟨rfl, rfl, rfl⟩
theorem evening_none (s : Sto) (n : Evg) (hs : s.scs.length ≤ 1000000) (hr : s.rules.length ≤ 1000000) (h0 : fitE s n ≠ 0) : APure Tryz.prog 10 [stoA s, evgA n] (.tup [ints ((fitL s n).headD []), nats (eveC s n), ints (eveL s n), I (eveE s n)]) := by
  refine ap Tryz.func10 (fun e0 he0 => ?_)
  refine vz 6 ?_
  refine sq_nil ?_
  refine aw_seq ?_
  have hnil := fitE_nil h0
  obtain ⟨e1, e2, e3⟩ := eve_nil hnil
  refine wz 2 ?_
  refine kz az (fitting_pure s n hs hr) ?_
  refine wz 6 ?_
  refine sq_ev rfl (ev_less (ev_neq jz jz) (Less.eq (b := B true) (by simp [h0]))) ?_
  refine wz 6 ?_
  exact retQ_pure (v := .tup [.raw _, .raw _, .raw _, .raw _]) rfl rfl (less_tup ⟨(less_nil 1).trans (Less.eq (by rw [hnil]; rfl)), (less_nil 1).trans (Less.eq (by rw [e1]; rfl)), (less_nil 1).trans (Less.eq (by rw [e2]; rfl)), Less.eq (by rw [e3]), trivial⟩)
theorem evening_some (s : Sto) (n : Evg) (hs : s.scs.length ≤ 1000000) (hr : s.rules.length ≤ 1000000) (h0 : fitE s n = 0) : APure Tryz.prog 10 [stoA s, evgA n] (.tup [ints ((fitL s n).headD []), nats (eveC s n), ints (eveL s n), I (eveE s n)]) := by
  refine ap Tryz.func10 (fun e0 he0 => ?_)
  refine vz 6 ?_
  refine sq_nil ?_
  refine aw_seq ?_
  obtain ⟨hbo, l, L, hl⟩ := fitE_cons h0
  obtain ⟨e1, e2, e3⟩ := eve_cons hl
  have hmem := fitL_mem (show l ∈ fitL s n by rw [hl]; exact List.mem_cons_self)
  have hpb := play_B hmem.1 hmem.2.2.1
  have hix : ((fitL s n).map (stgC s n))[0]? = some (stgC s n l) := by rw [hl]; rfl
  refine wz 2 ?_
  refine kz az (fitting_pure s n hs hr) ?_
  refine wz 6 ?_
  refine sq_ev rfl (ev_less (ev_neq jz jz) (Less.eq (b := B false) (by simp [h0]))) ?_
  refine wz 2 ?_
  refine sq_ev rfl (ev_index (k := 0) sl115.h jz jz rfl hix) ?_
  refine wz 1 ?_
  refine kz az (splan_pure s n l hpb.1 hpb.2) ?_
  refine kz az (prog_pure (plnOf s n l) (by show (scsOf s l).length ≤ _; unfold scsOf; rw [List.length_map]; have := hpb.1; omega)) ?_
  refine wz 8 ?_
  refine sq_ev rfl (ev_index (k := 0) sl115.h jz jz rfl hix) ?_
  refine wz 9 ?_
  exact retQ_pure (v := .tup [.sl _ _, .sl _ _, .sl _ _, .raw _]) rfl rfl (less_tup ⟨Less.eq (by rw [hl]; rfl), Less.eq (by rw [e1]), Less.eq (by rw [e2]), Less.eq (by rw [e3]), trivial⟩)
theorem evening_pure (s : Sto) (n : Evg) (hs : s.scs.length ≤ 1000000) (hr : s.rules.length ≤ 1000000) : APure Tryz.prog 10 [stoA s, evgA n] (.tup [ints ((fitL s n).headD []), nats (eveC s n), ints (eveL s n), I (eveE s n)]) := by
  by_cases h0 : fitE s n = 0
  · exact evening_some s n hs hr h0
  · exact evening_none s n hs hr h0
end Go.Proofs.YtnbjaepkbabkhaaGreat
namespace Go.Proofs.YtnbjaepkbabkhaaGreat
open Go Go.Ab Br Hd
open Ni hiding fw bw lo hi can
instance z28 : ZeO Tryz.prog 28 [.raw (.int .i64 0), .raw (.int .i64 0), .raw (.int .i64 0), .raw (.int .i64 0)] := ⟨by kernel_rfl⟩
def sameBad (a b : List Int) (h : a.length = b.length) (i : Nat) (hi : i < a.length) : Bool := !decide (a[i] = b[i]'(by omega))
theorem same_okAll {a b : List Int} (h : a.length = b.length) : okAll a.length (sameBad a b h) = decide (a = b) := by
  rw [Bool.eq_iff_iff, okAll_iff, decide_eq_true_eq]
  constructor
  · intro k
    exact List.ext_getElem h fun i h1 h2 => by have := k i h1; simpa [sameBad] using this
  · rintro rfl i hi; simp [sameBad]
theorem same_pure (a b : List Int) (ha : a.length ≤ 100000000) (hb : b.length ≤ 100000000) : APure Tryz.prog 29 [ints a, ints b] (B (decide (a = b))) := by
  refine ap Tryz.func29 (fun e0 he0 => ?_)
  refine wz 6 ?_
  refine iz (fun c1 c1' => ?_) (fun c1 c1' => ?_)
  ·refine wz 1 ?_
   exact rz rfl (Less.eq (by rw [show decide (a = b) = false from (by simp only [decide_eq_false_iff_not]; rintro rfl; exact c1' rfl)]))
  have hlen : a.length = b.length := by omega
  refine wz 1 ?_
  refine aw_loopk (ι := { k : Nat // k ≤ a.length ∧ ∀ i, (h : i < a.length) → i < k → sameBad a b hlen i h = false }) [0, 1] (fun i => [(5, I i.1)]) (fun H i => H) (fun i => a.length - i.1) (⟨0, Nat.zero_le _, by omega⟩) ⟨jz, jz, jz, trivial⟩ rfl ?_
  rintro ⟨k, hk, hok⟩
  refine nz ?_
  refine wz 4 ?_
  refine iz (fun c2 c2' => ?_) (fun c2 c2' => ?_)
  ·refine wz 0 ?_
   refine aw_draw 9 mo (by kernel_rfl) ?_
   refine dz 9 ?_
   refine wz 0 ?_
   refine iz (fun c3 c3' => ?_) (fun c3 c3' => ?_)
   ·refine wz 1 ?_
    exact rz rfl (Less.eq (by rw [← same_okAll hlen, okAll_bad (i := k) (by omega) (by first | (simp [sameBad, *]; done) | (simp_all [sameBad]; done))]))
   refine vz 3 ?_
   refine sq_nil ?_
   have hgood : sameBad a b hlen k (by omega) = false := by first | (simp [sameBad, *]; done) | (simp_all [sameBad]; done)
   exact ⟨⟨k + 1, by omega, fun i h hi => (by by_cases e : i = k; (subst e; exact hgood); exact hok i h (by omega))⟩, by simp only; omega, Sub.slots ⟨jz, jz, jz, trivial⟩⟩
  refine wz 1 ?_
  exact rz rfl (Less.eq (by rw [← same_okAll hlen, okAll_end hk c2' hok]))
def knS : Sto := ⟨3, [⟨0, 40, 50, false, true⟩, ⟨0, 20, 30, true, false⟩, ⟨1, 50, 60, false, false⟩, ⟨1, 30, 40, true, false⟩, ⟨2, 55, 70, false, true⟩],
  [⟨0, [3, 1, 7]⟩, ⟨1, [4, 2]⟩, ⟨1, [2]⟩, ⟨2, [5]⟩, ⟨2, [5, 6]⟩, ⟨2, [6]⟩]⟩
def knN : Evg := ⟨0, 60, 70, 120, 130, 180, 200⟩
theorem kn_sto : stoOK knS = true := by decide +kernel
theorem kn_evg : evgOK knN = true := by decide +kernel
theorem kn_once : once (derP knS) = [[0, 1, 2, 4], [0, 1, 2, 3, 4], [0, 1, 3, 4], [0, 2, 4], [0, 2, 3, 4], [0, 3, 4]] := by decide +kernel
theorem kn_plays : Br.plays knS = [[0, 1, 2, 3, 4], [0, 1, 2, 4], [0, 1, 3, 4], [0, 2, 3, 4], [0, 2, 4], [0, 3, 4]] := by
  refine sorted_eq ((plays_perm knS).trans ?_) (plays_le knS) (by decide)
  rw [kn_once]
  decide
theorem kn_plok : Ni.PlOK (plnOf knS knN [0, 1, 2, 3, 4]) = true := by decide +kernel
theorem kn_ch : Ni.choicesC (plnOf knS knN [0, 1, 2, 3, 4]) = [[0, 1, 2, 4]] := by decide +kernel
theorem kn_first : Ni.firstL (plnOf knS knN [0, 1, 2, 3, 4]) [0, 1, 2, 4] = [40, 20, 60, 60] := by decide +kernel
theorem kn_vdc : vdc knS knN [0, 1, 2, 3, 4] = 4 := by
  unfold vdc possP
  rw [kn_plok, kn_ch, if_pos (by decide)]; rfl
theorem kn_both : bothOK knS knN = true := by unfold bothOK; rw [kn_sto, kn_evg]; rfl
theorem kn_fit : ∃ L, fitL knS knN = [0, 1, 2, 3, 4] :: L := by
  unfold fitL fitP
  rw [if_pos kn_both, kn_plays, List.filter_cons_of_pos (by rw [kn_vdc]; rfl)]
  exact ⟨_, rfl⟩
theorem kn_eve : (fitL knS knN).headD [] = [0, 1, 2, 3, 4] ∧ eveC knS knN = [0, 1, 2, 4] ∧ eveL knS knN = [40, 20, 60, 60] ∧ eveE knS knN = 0 := by
  obtain ⟨L, hL⟩ := kn_fit
  obtain ⟨e1, e2, e3⟩ := eve_cons hL
  refine ⟨by rw [hL]; rfl, ?_, ?_, ?_⟩
  · rw [e1]; unfold progC; rw [if_pos kn_plok, kn_ch]; rfl
  · rw [e2]; unfold progL; rw [if_pos kn_plok, kn_ch]; exact kn_first
  · rw [e3]; unfold progE; rw [if_pos kn_plok, kn_ch]; rfl
theorem span_pure (a b : Int) : APure Tryz.prog 78 [I a, I b] (.agg [I a, I b]) := by
  refine ap (rs := [.cell 4 27]) Tryz.func78 (fun e0 he0 => ?_)
  refine wz 5 ?_
  exact retQ_res (vs := [.agg _]) rfl rfl ⟨resVar_cell rfl rfl ty27.h rfl, trivial⟩ (jz)
theorem knS_pure  : APure Tryz.prog 37 [] (stoA knS) := by
  refine ap (rs := [.cell 0 25]) Tryz.func37 (fun e0 he0 => ?_)
  refine wz 6 ?_
  refine sq_ev rfl (ev_less (ev_buildSlice (es := [[_, _, _, _, _], [_, _, _, _, _], [_, _, _, _, _], [_, _, _, _, _], [_, _, _, _, _]]) sf22.h rfl rfl rfl rfl) (less_slx 5 _)) ?_
  refine sq_ev rfl (ev_less (ev_buildSlice (es := [[_], [_], [_]]) sf31.h rfl rfl rfl rfl) (less_slx 1 _)) ?_
  refine wz 1 ?_
  refine sq_ev rfl (ev_less (ev_buildSlice (es := [[_], [_]]) sf31.h rfl rfl rfl rfl) (less_slx 1 _)) ?_
  refine wz 1 ?_
  refine sq_ev rfl (ev_less (ev_buildSlice (es := [[_]]) sf31.h rfl rfl rfl rfl) (less_slx 1 _)) ?_
  refine wz 1 ?_
  refine sq_ev rfl (ev_less (ev_buildSlice (es := [[_]]) sf31.h rfl rfl rfl rfl) (less_slx 1 _)) ?_
  refine wz 1 ?_
  refine sq_ev rfl (ev_less (ev_buildSlice (es := [[_], [_]]) sf31.h rfl rfl rfl rfl) (less_slx 1 _)) ?_
  refine wz 1 ?_
  refine sq_ev rfl (ev_less (ev_buildSlice (es := [[_]]) sf31.h rfl rfl rfl rfl) (less_slx 1 _)) ?_
  refine wz 1 ?_
  refine sq_ev rfl (ev_less (ev_buildSlice (es := [[_, _], [_, _], [_, _], [_, _], [_, _], [_, _]]) sf23.h rfl rfl rfl rfl) (less_slx 2 _)) ?_
  refine wz 2 ?_
  exact retQ_res (vs := [.agg _]) rfl rfl ⟨resVar_cell rfl rfl ty25.h rfl, trivial⟩ (jz)
theorem knN_pure  : APure Tryz.prog 38 [] (evgA knN) := by
  refine ap (rs := [.cell 0 30]) Tryz.func38 (fun e0 he0 => ?_)
  refine wz 1 ?_
  refine kz az (span_pure _ _) ?_
  refine kz az (span_pure _ _) ?_
  refine wz 1 ?_
  refine kz az (span_pure _ _) ?_
  refine wz 2 ?_
  exact retQ_res (vs := [.agg _]) rfl rfl ⟨resVar_cell rfl rfl ty30.h rfl, trivial⟩ (jz)
theorem kn_evening : APure Tryz.prog 10 [stoA knS, evgA knN] (.tup [ints [0, 1, 2, 3, 4], nats [0, 1, 2, 4], ints [40, 20, 60, 60], I 0]) := by
  have h := evening_pure knS knN (by decide) (by decide)
  obtain ⟨h1, h2, h3, h4⟩ := kn_eve
  rw [h1, h2, h3, h4] at h; exact h
theorem known_pure  : APure Tryz.prog 8 [] (B true) := by
  refine ap Tryz.func8 (fun e0 he0 => ?_)
  refine wz 1 ?_
  refine kz az (knS_pure) ?_
  refine kz az (knN_pure) ?_
  refine kz az (kn_evening) ?_
  refine wz 13 ?_
  refine sq_yes rfl rfl jz rfl (ev_buildSlice (es := [[_], [_], [_], [_], [_]]) sf31.h rfl rfl rfl rfl) ?_
  refine sq_yes rfl rfl jz rfl (ev_call en29.h jz (same_pure [0, 1, 2, 3, 4] [0, 1, 2, 3, 4] (by decide) (by decide)) ⟨jz, less_slx 1 [[I 0], [I 1], [I 2], [I 3], [I 4]], trivial⟩) ?_
  refine wz 3 ?_
  refine sq_yes rfl rfl jz rfl (ev_buildSlice (es := [[_], [_], [_], [_]]) sf31.h rfl rfl rfl rfl) ?_
  refine sq_yes rfl rfl jz rfl (ev_call en29.h jz (same_pure [0, 1, 2, 4] [0, 1, 2, 4] (by decide) (by decide)) ⟨jz, less_slx 1 [[I 0], [I 1], [I 2], [I 4]], trivial⟩) ?_
  refine wz 3 ?_
  refine sq_yes rfl rfl jz rfl (ev_buildSlice (es := [[_], [_], [_], [_]]) sf31.h rfl rfl rfl rfl) ?_
  refine sq_yes rfl rfl jz rfl (ev_call en29.h jz (same_pure [40, 20, 60, 60] [40, 20, 60, 60] (by decide) (by decide)) ⟨jz, less_slx 1 [[I 40], [I 20], [I 60], [I 60]], trivial⟩) ?_
  refine wz 2 ?_
  exact rz rfl jz
end Go.Proofs.YtnbjaepkbabkhaaGreat
