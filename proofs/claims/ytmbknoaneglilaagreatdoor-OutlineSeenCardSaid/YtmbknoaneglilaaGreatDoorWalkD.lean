/-
  A part of the proof: conditions: none beyond each theorem's own.
-/
import Derived.Test.YtmbknoaneglilaaGreatDoorWalkC
import Derived.Test.YtmbknoaneglilaaGreatDoorLogicE
import Derived.Test.YtmbknoaneglilaaGreatDoorLogicD
import Derived.Test.YtmbknoaneglilaaGreatDoorShelf
import Derived.Test.YtmbknoaneglilaaGreatDoorSpecA
set_option linter.all false
set_option maxRecDepth 100000
set_option maxHeartbeats 8000000
namespace Go.Proofs.YtmbknoaneglilaaGreatDoor
open Go Go.Ab Ni Ol
instance fo73_1 : FoF Tryz.prog 73 1 1 28 := ⟨by kernel_rfl⟩
instance sf64 : SlS Tryz.prog 64 3 1 8 := ⟨SlFact.of (by kernel_rfl)⟩
instance ud64 : UnD Tryz.prog 64 (.slice 3) := ⟨Tryz.underlying64⟩
def misE (x : Sn) : Int × Int × Int := if snOK x = true then (match misOf x with | none => (0, 0, 5) | some (i, k) => (i, k, 0)) else (0, 0, 2)
theorem misE_no {x : Sn} (h : snOK x = false) : misE x = (0, 0, 2) := by unfold misE; rw [h]; rfl
theorem misE_none {x : Sn} (h : snOK x = true) (h2 : (misA x).2.2 = 0) : misE x = (0, 0, 5) := by
  unfold misE; rw [if_pos h]
  unfold misA at h2
  cases hm : misOf x with
  | none => rfl
  | some q => rw [hm] at h2; simp at h2
theorem misE_some {x : Sn} (h : snOK x = true) (h2 : ¬ (misA x).2.2 = 0) : misE x = ((misA x).1, (misA x).2.1, 0) := by
  unfold misE; rw [if_pos h]
  unfold misA at h2 ⊢
  cases hm : misOf x with
  | none => rw [hm] at h2; simp at h2
  | some q => rfl
def tolOK (x : Sn) (fig : Int) : Bool := snOK x && inn fig 0 (x.l.length - 1)
theorem tol_1 {x : Sn} {fig : Int} (h : snOK x = false) : tolOK x fig = false := by unfold tolOK; rw [h]; rfl
theorem tol_2 {x : Sn} {fig : Int} (h : inn fig 0 (x.l.length - 1) = false) : tolOK x fig = false := by unfold tolOK; rw [h]; simp
theorem tol_3 {x : Sn} {fig : Int} (h : snOK x = true) (h2 : inn fig 0 (x.l.length - 1) = true) : tolOK x fig = true := by unfold tolOK; rw [h, h2]; rfl
def badK (L : List (List Th)) (fig : Nat) (near : Int) (t : Th) (k : Nat) : Bool := decide (t.rd.p.near = near) && (decide (k ≠ fig) && mist t (L.getD k []))
theorem badK_eq {L : List (List Th)} {fig k : Nat} {near : Int} {t : Th} (hk : k < L.length) : badK L fig near t k = (decide (t.rd.p.near = near) && (decide ((k : Int) ≠ (fig : Int)) && mist t L[k])) := by
  unfold badK; rw [getD_get hk]
  have : decide (k ≠ fig) = decide ((k : Int) ≠ (fig : Int)) := by rw [Bool.eq_iff_iff]; simp only [decide_eq_true_eq]; omega
  rw [this]
theorem miss_yes {L : List (List Th)} {fig j k : Nat} {near : Int} (hf : fig < L.length) (hj : j < L[fig].length) (hk : k < L.length) (h : badK L fig near L[fig][j] k = true) : missAt L fig near = true := by
  unfold missAt
  rw [getD_get hf, List.any_eq_true]
  refine ⟨_, List.getElem_mem hj, ?_⟩
  rw [List.any_eq_true]
  exact ⟨k, List.mem_range.2 hk, h⟩
theorem miss_no {L : List (List Th)} {fig : Nat} {near : Int} (hf : fig < L.length) (h : ∀ j, (hj : j < L[fig].length) → ∀ k, k < L.length → badK L fig near L[fig][j] k = false) : missAt L fig near = false := by
  unfold missAt
  rw [getD_get hf, List.any_eq_false]
  intro t ht
  obtain ⟨j, hj, rfl⟩ := List.getElem_of_mem ht
  rw [Bool.not_eq_true, List.any_eq_false]
  intro k hk
  rw [Bool.not_eq_true]
  exact h j hj k (List.mem_range.1 hk)
theorem toldK_len (L : List (List Th)) (fig : Nat) (lo : Int) (n : Nat) : (toldK L fig lo n).length ≤ n := by unfold toldK; exact Nat.le_trans (List.length_filter_le _ _) (by simp)
theorem mistaken_pure (x : Sn) (hl : x.l.length ≤ 1000000) : APure Tryz.prog 44 [stA x.s, figs x.l, rcA x.r] (.tup [I (misE x).1, I (misE x).2.1, I (misE x).2.2]) := by
  refine apure_of (rs := [.tmp 6, .tmp 7, .tmp 8]) Tryz.func44 rfl rfl (Nat.le_of_ble_eq_true rfl) (by simp [AV.pureL, AV.pureB, AV.pureE, pureE_map]) (by first | rfl | (simp [AV.pureL, AV.pureB, AV.pureE, pureE_map])) fun e0 he0 => ?_
  refine W 12 ?_
  refine cl A (isscene_pure x hl) ?_
  refine W 1 ?_
  refine aw_cond J (fun c_19 => ?_) (fun c_19 => ?_)
  · skip
    have c_19' := c_19
    try simp only [qq] at c_19'
    refine W 3 ?_
    exact retQ_pure (v := .tup [.raw _, .raw _, .raw _]) rfl rfl (less_tup ⟨Less.eq (by rw [misE_no (by simpa using c_19)]), Less.eq (by rw [misE_no (by simpa using c_19)]), Less.eq (by rw [misE_no (by simpa using c_19)]), trivial⟩)
  · skip
    have c_19' := c_19
    try simp only [qq] at c_19'
    have hxo : snOK x = true := by simpa using c_19
    refine W 2 ?_
    refine sq_call (args := [.fn (.func 116) [snA x] []]) rfl en115.h J ⟨J, trivial⟩ (attdis_call (H := [.cells (stC x.s), .cells (rcC x.r), .cells (snC x)]) hxo (by simp [objsIn, AObj.inB, AV.inB, AV.inL, AV.inE, inE_figs, inE_strs])) ?_ (by rintro v H' ⟨_, h⟩; cases h)
    rintro _ _ ⟨rfl, h⟩; cases h
    refine W 9 ?_
    refine iff (fun c_28 c_28' => ?_) (fun c_28 c_28' => ?_)
    · skip
      refine W 3 ?_
      exact retQ_pure (v := .tup [.raw _, .raw _, .raw _]) rfl rfl (less_tup ⟨Less.eq (by rw [misE_none hxo c_28']), Less.eq (by rw [misE_none hxo c_28']), Less.eq (by rw [misE_none hxo c_28']), trivial⟩)
    · skip
      refine W 5 ?_
      exact retQ_pure (v := .tup [.raw _, .raw _, .raw _]) rfl rfl (less_tup ⟨Less.eq (by rw [misE_some hxo c_28']), Less.eq (by rw [misE_some hxo c_28']), Less.eq (by rw [misE_some hxo c_28']), trivial⟩)
theorem told_pure (x : Sn) (fig : Int) (hl : x.l.length ≤ 1000000) : APure Tryz.prog 45 [stA x.s, figs x.l, rcA x.r, I fig] (.tup [ints (if tolOK x fig = true then toldOf x fig.toNat else []), I (er (tolOK x fig))]) := by
 refine apure_of (rs := [.tmp 8, .tmp 9]) Tryz.func45 rfl rfl (Nat.le_of_ble_eq_true rfl) (by simp [AV.pureL, AV.pureB, AV.pureE, pureE_map]) (by first | rfl | (simp [AV.pureL, AV.pureB, AV.pureE, pureE_map])) fun e0 he0 => ?_
 refine aw_seq (aw_region (sq_box rfl J rfl (sq_box rfl J rfl ?_)))
 first | refine ass rfl J ?_ | refine sq_ev rfl (ev_as (v := .own _ _ _) J) ?_ | refine asr J rfl ?_ | refine sq_ev rfl (ev_as (v := .slx _ _) J) ?_ | refine sq_ev rfl (ev_as (v := .msl _ _ _ _) J) ?_
 refine asr J rfl (sq_nil (aw_scope (aw_seq (aw_region ?_))))
 first | refine sq_ev rfl (ev_load_agg J rfl ty23.h rfl) ?_ | refine sq_ev rfl (ev_load_agg_i J ty23.h (by exact Nat.le_of_ble_eq_true rfl)) ?_
 first | refine mvs rfl J ?_ | refine sq_ev rfl (ev_mv (v := .own _ _ _) J) ?_ | refine mvr J rfl ?_ | refine sq_ev rfl (ev_mv (v := .slx _ _) J) ?_ | refine sq_ev rfl (ev_mv (v := .msl _ _ _ _) J) ?_
 first | refine sq_ev rfl (ev_load_agg J rfl ty49.h rfl) ?_ | refine sq_ev rfl (ev_load_agg_i J ty49.h (by exact Nat.le_of_ble_eq_true rfl)) ?_
 refine sq_ev rfl (ev_build bi145.h rfl) ?_
 refine sq_alloc rfl z145.h ?_
 refine sq_store rfl J J rfl rfl ty145.h rfl rfl ?_
 refine sq_nil (aw_seq (aw_seq (aw_region ?_)))
 first | refine sq_ev rfl (ev_load_agg J rfl ty145.h rfl) ?_ | refine sq_ev rfl (ev_load_agg_i J ty145.h (by exact Nat.le_of_ble_eq_true rfl)) ?_
 refine sq_ev rfl (ev_call en101.h J (isscene_pure x hl) ⟨J, trivial⟩) ?_
 refine sq_ev rfl (ev_not J) ?_
 refine mvr J rfl ?_
 refine sq_split 25 J (fun g2_3 => ?_) (fun g2_3 => ?_)
 ·
  have g2_3' := g2_3
  try simp only [qq] at g2_3'
  refine sq_no rfl rfl (less_b g2_3) rfl rfl ?_
  refine sq_no rfl rfl (less_b g2_3) rfl rfl ?_
  refine sq_no rfl rfl (less_b g2_3) rfl rfl ?_
  refine sq_no rfl rfl (less_b g2_3) rfl rfl ?_
  refine sq_no rfl rfl (less_b g2_3) rfl rfl ?_
  refine sq_no rfl rfl (less_b g2_3) rfl rfl ?_
  refine sq_ev rfl (ev_pickT (v := .raw _) (less_b g2_3) J) ?_
  refine sq_nil ?_
  refine aw_true J ?_
  refine aw_seq (aw_region ?_)
  first | refine ass rfl J ?_ | refine sq_ev rfl (ev_as (v := .own _ _ _) J) ?_ | refine asr J rfl ?_ | refine sq_ev rfl (ev_as (v := .slx _ _) J) ?_ | refine sq_ev rfl (ev_as (v := .msl _ _ _ _) J) ?_
  refine asr J rfl (sq_nil (aw_ret ?_))
  exact retQ_pure (v := .tup [.raw _, .raw _]) rfl rfl (less_tup ⟨Less.trans (less_nil 1) (Less.eq (by rw [tol_1 g2_3']; rfl)), Less.eq (by rw [tol_1 g2_3']; rfl), trivial⟩)
 have g2_3' := g2_3
 try simp only [qq] at g2_3'
 refine sq_yes rfl rfl (less_b g2_3) rfl (ev_mv (v := .raw _) J) ?_
 first | refine sq_yes rfl rfl (less_b g2_3) rfl (ev_mv (v := .sl _ _) J) ?_ | refine sq_yes rfl rfl (less_b g2_3) rfl (ev_mv (v := .own _ _ _) J) ?_ | refine sq_yes rfl rfl (less_b g2_3) rfl (ev_mv (v := .raw _) J) ?_ | refine sq_yes rfl rfl (less_b g2_3) rfl (ev_mv (v := .slx _ _) J) ?_ | refine sq_yes rfl rfl (less_b g2_3) rfl (ev_mv (v := .msl _ _ _ _) J) ?_
 first | refine sq_yes rfl rfl (less_b g2_3) rfl (ev_len_map sl45.h J) ?_ | refine sq_yes rfl rfl (less_b g2_3) rfl (ev_len_map sl45.h (less_own _ _ _)) ?_ | refine sq_yes rfl rfl (less_b g2_3) rfl (ev_len sl45.h J rfl) ?_ | refine sq_yes rfl rfl (less_b g2_3) rfl (ev_len sl45.h (less_own _ _ _) rfl) ?_ | refine sq_yes rfl rfl (less_b g2_3) rfl (ev_len sl45.h (less_nil _) rfl) ?_ | refine sq_yes rfl rfl (less_b g2_3) rfl (ev_len_msl sl45.h J) ?_ | refine sq_yes rfl rfl (less_b g2_3) rfl (ev_len sl45.h (less_slx _ _) rfl) ?_
 refine sq_yes rfl rfl (less_b g2_3) rfl (ev_sub J J (wr (by omega) (by omega))) ?_
 refine sq_yes rfl rfl (less_b g2_3) rfl (ev_call en117.h J (in_pure _ _ _) ⟨J, J, J, trivial⟩) ?_
 refine sq_yes rfl rfl (less_b g2_3) rfl (ev_not J) ?_
 refine sq_ev rfl (ev_pickF (v := .raw _) (less_b g2_3) J) ?_
 refine sq_nil ?_
 refine aw_cond J (fun c_32 => ?_) (fun c_32 => ?_)
 ·
  have c_32' := c_32
  try simp only [qq] at c_32'
  refine aw_seq (aw_region ?_)
  first | refine ass rfl J ?_ | refine sq_ev rfl (ev_as (v := .own _ _ _) J) ?_ | refine asr J rfl ?_ | refine sq_ev rfl (ev_as (v := .slx _ _) J) ?_ | refine sq_ev rfl (ev_as (v := .msl _ _ _ _) J) ?_
  refine asr J rfl (sq_nil (aw_ret ?_))
  exact retQ_pure (v := .tup [.raw _, .raw _]) rfl rfl (less_tup ⟨Less.trans (less_nil 1) (Less.eq (by rw [tol_2 (by simpa using c_32)]; rfl)), Less.eq (by rw [tol_2 (by simpa using c_32)]; rfl), trivial⟩)
 have c_32' := c_32
 try simp only [qq] at c_32'
 have hxo : snOK x = true := by cases h : snOK x <;> simp_all
 have hin : inn fig 0 (x.l.length - 1) = true := by cases h : inn fig 0 (x.l.length - 1) <;> simp_all
 have hok := tol_3 hxo hin
 obtain ⟨f, rfl⟩ : ∃ f : Nat, fig = (f : Int) := ⟨fig.toNat, by unfold inn at hin; simp only [Bool.and_eq_true, decide_eq_true_eq] at hin; omega⟩
 have hbl := byF_len x
 have hfL : f < (byF x).length := by unfold inn at hin; simp only [Bool.and_eq_true, decide_eq_true_eq] at hin; omega
 have hlb := (sn_facts hxo).1
 have hrc := rcOK_facts (sn_facts hxo).2.2.1
 have hst := stOK_iff.1 (sn_facts hxo).2.1
 have hfm := byF_mx hxo hfL
 refine aw_skip (aw_seq (aw_region ?_))
 first | refine sq_ev rfl (ev_load_agg J rfl ty145.h rfl) ?_ | refine sq_ev rfl (ev_load_agg_i J ty145.h (by exact Nat.le_of_ble_eq_true rfl)) ?_
 refine sq_ev rfl (ev_call en118.h J (by_pure hxo) ⟨J, trivial⟩) ?_
 first | refine ass rfl J ?_ | refine sq_ev rfl (ev_as (v := .own _ _ _) J) ?_ | refine asr J rfl ?_ | refine sq_ev rfl (ev_as (v := .slx _ _) J) ?_ | refine sq_ev rfl (ev_as (v := .msl _ _ _ _) J) ?_
 refine sq_nil (aw_seq (aw_region ?_))
 first | refine ass rfl J ?_ | refine sq_ev rfl (ev_as (v := .own _ _ _) J) ?_ | refine asr J rfl ?_ | refine sq_ev rfl (ev_as (v := .slx _ _) J) ?_ | refine sq_ev rfl (ev_as (v := .msl _ _ _ _) J) ?_
 refine sq_nil (aw_seq (aw_label (aw_seq (aw_seq (aw_region ?_)))))
 first | refine sq_ev rfl (ev_fieldAddr fo49_0.h J) ?_ | refine sq_ev rfl (ev_fieldAddr_i fo49_0.h J) ?_
 first | refine sq_ev rfl (ev_fieldAddr fo47_0.h J) ?_ | refine sq_ev rfl (ev_fieldAddr_i fo47_0.h J) ?_
 first | refine sq_ev rfl (ev_load J rfl ty3.h rfl) ?_ | refine sq_ev rfl (ev_load_i J ty3.h rfl) ?_
 refine asr J rfl (sq_nil (aw_block ?_))
 refine aw_sub (sub_token 12 1 J) ?_
 refine aw_loopk (ι := { n : Nat // n ≤ nN x }) [3, 6, 11] (fun i => [(12, .own 3 1 ((toldK (byF x) f x.r.nl i.1).map fun x => [I x])), (13, I (x.r.nl + (i.1 : Nat)))]) (fun H i => H.set 3 (.tok ((toldK (byF x) f x.r.nl i.1).map fun x => [I x]).length)) (fun i => nN x - i.1) (⟨0, Nat.zero_le _⟩) ⟨J, (by exact less_int (by simp)), J, J, J, trivial⟩ rfl ?_
 rintro ⟨n, hn⟩
 dsimp only [keepS, St.put, sget, slotsOf, nn1, nn2, nn3, nn4, nn5, nn6, Nat.reduceBEq, Nat.reduceAdd, nn7, nn8]
 have htl := toldK_len (byF x) f x.r.nl n
 refine aw_seq (aw_seq (aw_region (mvr J rfl ?_)))
 first | refine sq_ev rfl (ev_fieldAddr fo49_0.h J) ?_ | refine sq_ev rfl (ev_fieldAddr_i fo49_0.h J) ?_
 first | refine sq_ev rfl (ev_fieldAddr fo47_1.h J) ?_ | refine sq_ev rfl (ev_fieldAddr_i fo47_1.h J) ?_
 first | refine sq_ev rfl (ev_load J rfl ty3.h rfl) ?_ | refine sq_ev rfl (ev_load_i J ty3.h rfl) ?_
 refine sq_ev rfl (ev_leq J J) ?_
 refine sq_nil ?_
 refine aw_cond J (fun c_42 => ?_) (fun c_42 => ?_)
 ·
  have c_42' := c_42
  try simp only [qq] at c_42'
  have hnl : n < nN x := by unfold nN; omega
  refine aw_skip (aw_seq (aw_block (aw_seq (aw_seq (aw_region ?_)))))
  first | refine mvs rfl J ?_ | refine sq_ev rfl (ev_mv (v := .own _ _ _) J) ?_ | refine mvr J rfl ?_ | refine sq_ev rfl (ev_mv (v := .slx _ _) J) ?_ | refine sq_ev rfl (ev_mv (v := .msl _ _ _ _) J) ?_
  refine mvr J rfl (sq_ev rfl (ev_index_map (k := f) sl166.h J J rfl hfL) ?_)
  first | refine sq_ev rfl (ev_load J rfl ty146.h rfl) ?_ | refine sq_ev rfl (ev_load_i J ty146.h rfl) ?_
  first | refine sq_ev rfl (ev_len_map sl146.h J) ?_ | refine sq_ev rfl (ev_len_map sl146.h (less_own _ _ _)) ?_ | refine sq_ev rfl (ev_len sl146.h J rfl) ?_ | refine sq_ev rfl (ev_len sl146.h (less_own _ _ _) rfl) ?_ | refine sq_ev rfl (ev_len sl146.h (less_nil _) rfl) ?_ | refine sq_ev rfl (ev_len_msl sl146.h J) ?_ | refine sq_ev rfl (ev_len sl146.h (less_slx _ _) rfl) ?_
  refine mvr J rfl (sq_nil (aw_block ?_))
  refine aw_loopk (ι := { j : Nat // j ≤ (byF x)[f].length ∧ ∀ a, (ha : a < (byF x)[f].length) → a < j → ∀ q, q < (byF x).length → badK (byF x) f (x.r.nl + (n : Nat)) (byF x)[f][a] q = false }) [3, 6, 11, 12, 13, 48, 49] (fun i => [(50, I i.1)]) (fun H i => H) (fun i => (byF x)[f].length - i.1) (⟨0, Nat.zero_le _, by omega⟩) ⟨J, J, J, J, J, J, J, J, trivial⟩ rfl ?_
  rintro ⟨j, hj, hok⟩
  dsimp only [keepS, St.put, sget, slotsOf, nn1, nn2, nn3, nn4, nn5, nn6, Nat.reduceBEq, Nat.reduceAdd, nn7, nn8]
  refine aw_seq (aw_region (sq_ev rfl (ev_lss J J) ?_))
  refine sq_nil (aw_seq ?_)
  refine aw_cond J (fun c_51 => ?_) (fun c_51 => ?_)
  ·
   have c_51' := c_51
   try simp only [qq] at c_51'
   have hjL : j < (byF x)[f].length := by omega
   refine aw_skip (aw_seq (aw_block (aw_seq (aw_region ?_))))
   first | refine sq_ev rfl (ev_index_map sl146.h J J rfl (by omega)) ?_ | refine sq_ev rfl (ev_index sl146.h J J rfl rfl) ?_
   first | refine sq_ev rfl (ev_load_agg J rfl ty152.h rfl) ?_ | refine sq_ev rfl (ev_load_agg_i J ty152.h (by exact Nat.le_of_ble_eq_true rfl)) ?_
   refine sq_alloc rfl z152.h ?_
   refine sq_store rfl J J rfl rfl ty152.h rfl rfl ?_
   refine sq_nil (aw_seq (aw_region ?_))
   first | refine mvs rfl J ?_ | refine sq_ev rfl (ev_mv (v := .own _ _ _) J) ?_ | refine mvr J rfl ?_ | refine sq_ev rfl (ev_mv (v := .slx _ _) J) ?_ | refine sq_ev rfl (ev_mv (v := .msl _ _ _ _) J) ?_
   first | refine sq_ev rfl (ev_len_map sl166.h J) ?_ | refine sq_ev rfl (ev_len_map sl166.h (less_own _ _ _)) ?_ | refine sq_ev rfl (ev_len sl166.h J rfl) ?_ | refine sq_ev rfl (ev_len sl166.h (less_own _ _ _) rfl) ?_ | refine sq_ev rfl (ev_len sl166.h (less_nil _) rfl) ?_ | refine sq_ev rfl (ev_len_msl sl166.h J) ?_ | refine sq_ev rfl (ev_len sl166.h (less_slx _ _) rfl) ?_
   refine mvr J rfl (sq_nil (aw_block ?_))
   refine aw_loopk (ι := { k : Nat // k ≤ (byF x).length ∧ ∀ q, q < k → badK (byF x) f (x.r.nl + (n : Nat)) (byF x)[f][j] q = false }) [3, 6, 11, 12, 13, 15, 48, 49, 50, 54, 55] (fun i => [(56, I i.1)]) (fun H i => H) (fun i => (byF x).length - i.1) (⟨0, Nat.zero_le _, by omega⟩) ⟨J, J, J, J, J, J, J, J, J, J, J, J, trivial⟩ rfl ?_
   rintro ⟨k, hk, hok2⟩
   dsimp only [keepS, St.put, sget, slotsOf, nn1, nn2, nn3, nn4, nn5, nn6, Nat.reduceBEq, Nat.reduceAdd, nn7, nn8]
   refine aw_seq (aw_region (sq_ev rfl (ev_lss J J) ?_))
   refine sq_nil (aw_seq ?_)
   refine aw_cond J (fun c_57 => ?_) (fun c_57 => ?_)
   ·
    have c_57' := c_57
    try simp only [qq] at c_57'
    have hkL : k < (byF x).length := by omega
    refine aw_skip (aw_seq (aw_block (aw_seq (aw_region (mvr J rfl ?_)))))
    first | refine sq_ev rfl (ev_index_map sl166.h J J rfl (by omega)) ?_ | refine sq_ev rfl (ev_index sl166.h J J rfl rfl) ?_
    first | refine sq_ev rfl (ev_load J rfl ty146.h rfl) ?_ | refine sq_ev rfl (ev_load_i J ty146.h rfl) ?_
    refine asr J rfl ?_
    first | refine ass rfl J ?_ | refine sq_ev rfl (ev_as (v := .own _ _ _) J) ?_ | refine asr J rfl ?_ | refine sq_ev rfl (ev_as (v := .slx _ _) J) ?_ | refine sq_ev rfl (ev_as (v := .msl _ _ _ _) J) ?_
    refine sq_nil (aw_seq (aw_region ?_))
    first | refine sq_ev rfl (ev_fieldAddr fo152_0.h J) ?_ | refine sq_ev rfl (ev_fieldAddr_i fo152_0.h J) ?_
    first | refine sq_ev rfl (ev_fieldAddr fo73_1.h J) ?_ | refine sq_ev rfl (ev_fieldAddr_i fo73_1.h J) ?_
    first | refine sq_ev rfl (ev_fieldAddr fo28_0.h J) ?_ | refine sq_ev rfl (ev_fieldAddr_i fo28_0.h J) ?_
    first | refine sq_ev rfl (ev_load J rfl ty3.h rfl) ?_ | refine sq_ev rfl (ev_load_i J ty3.h rfl) ?_
    refine mvr J rfl (sq_ev rfl (ev_eql J J) ?_)
    refine mvr J rfl ?_
    refine sq_split 67 J (fun g15_6 => ?_) (fun g15_6 => ?_)
    ·
     have g15_6' := g15_6
     try simp only [qq] at g15_6'
     refine sq_yes rfl rfl (less_b g15_6) rfl (ev_mv (v := .raw _) J) ?_
     refine sq_yes rfl rfl (less_b g15_6) rfl (ev_mv (v := .raw _) J) ?_
     refine sq_yes rfl rfl (less_b g15_6) rfl (ev_neq J J) ?_
     refine sq_ev rfl (ev_pickT (v := .raw _) (less_b g15_6) J) ?_
     refine mvr J rfl ?_
     refine sq_split 72 J (fun g15_11 => ?_) (fun g15_11 => ?_)
     ·
      have g15_11' := g15_11
      try simp only [qq] at g15_11'
      first | refine sq_yes rfl rfl (less_b g15_11) rfl (ev_load_agg J rfl ty152.h rfl) ?_ | refine sq_yes rfl rfl (less_b g15_11) rfl (ev_load_agg_i J ty152.h (by exact Nat.le_of_ble_eq_true rfl)) ?_
      first | refine sq_yes rfl rfl (less_b g15_11) rfl (ev_mv (v := .sl _ _) J) ?_ | refine sq_yes rfl rfl (less_b g15_11) rfl (ev_mv (v := .own _ _ _) J) ?_ | refine sq_yes rfl rfl (less_b g15_11) rfl (ev_mv (v := .raw _) J) ?_ | refine sq_yes rfl rfl (less_b g15_11) rfl (ev_mv (v := .slx _ _) J) ?_ | refine sq_yes rfl rfl (less_b g15_11) rfl (ev_mv (v := .msl _ _ _ _) J) ?_
      refine sq_yes rfl rfl (less_b g15_11) rfl (ev_call en119.h J (mist_pure (byF x)[f][j] (byF x)[k] (by have := byF_mx hxo hkL; omega) (fun u hu => byF_fit hxo (byF_mem hfL (List.getElem_mem hjL)) (byF_mem hkL hu))) ⟨J, J, trivial⟩) ?_
      refine sq_ev rfl (ev_pickT (v := .raw _) (less_b g15_11) J) ?_
      refine sq_nil ?_
      refine aw_cond J (fun c_76 => ?_) (fun c_76 => ?_)
      ·
       have c_76' := c_76
       try simp only [qq] at c_76'
       have hmiss : missAt (byF x) f (x.r.nl + (n : Nat)) = true := miss_yes hfL hjL hkL (by rw [badK_eq hkL]; simp [*])
       have eS : (toldK (byF x) f x.r.nl (n + 1)).map (fun x => [I x]) = (toldK (byF x) f x.r.nl n).map (fun x => [I x]) := by rw [toldK_succ, if_pos hmiss]
       refine aw_exit (aw_region (mvr J rfl (sq_ev rfl (ev_add J J (wr (by omega) (by omega))) ?_)))
       refine asr J rfl (sq_nil ?_)
       exact ⟨⟨n + 1, by omega⟩, by simp only; omega, Sub.fin 4 ⟨Less.eq (b := .own 3 1 ((toldK (byF x) f x.r.nl (n + 1)).map fun x => [I x])) (by rw [eS] <;> rfl), (by exact less_int (by simp <;> omega)), J, J, J, trivial⟩ (congrArg (fun n => [_, _, _, AObj.tok n]) (congrArg List.length eS.symm)) (by simp [slotsIn, objsIn, sget, keepS, AObj.inB, AV.inB, AV.inL, St.op, St.put, inE_thss, inE_ints, inE_ths, inE_figs, inE_strs, -List.map_append, -List.map_take, -List.map_map]) (by simp [slotsIn, objsIn, sget, keepS, AObj.inB, AV.inB, AV.inL, St.op, St.put, inE_thss, inE_ints, inE_ths, inE_figs, inE_strs, -List.map_append, -List.map_take, -List.map_map]) (by simp [he0])⟩
      have c_76' := c_76
      try simp only [qq] at c_76'
      refine aw_skip (aw_region (sq_ev rfl (ev_add J J (wr (by omega) (by omega))) ?_))
      refine mvr J rfl (sq_nil ?_)
      have hgood : badK (byF x) f (x.r.nl + (n : Nat)) (byF x)[f][j] k = false := by rw [badK_eq hkL]; simp [*]
      exact ⟨⟨k + 1, by omega, fun q hq => (by by_cases e : q = k; (subst e; exact hgood); exact hok2 q (by omega))⟩, by simp only; omega, Sub.slots ⟨J, J, J, J, J, J, J, J, J, J, J, J, trivial⟩⟩
     have g15_11' := g15_11
     try simp only [qq] at g15_11'
     refine sq_no rfl rfl (less_b g15_11) rfl rfl ?_
     refine sq_no rfl rfl (less_b g15_11) rfl rfl ?_
     refine sq_no rfl rfl (less_b g15_11) rfl rfl ?_
     refine sq_ev rfl (ev_pickF (v := .raw _) (less_b g15_11) J) ?_
     refine sq_nil ?_
     refine aw_false J ?_
     refine aw_skip (aw_region (sq_ev rfl (ev_add J J (wr (by omega) (by omega))) ?_))
     refine mvr J rfl (sq_nil ?_)
     have hgood : badK (byF x) f (x.r.nl + (n : Nat)) (byF x)[f][j] k = false := by rw [badK_eq hkL]; simp [*]
     exact ⟨⟨k + 1, by omega, fun q hq => (by by_cases e : q = k; (subst e; exact hgood); exact hok2 q (by omega))⟩, by simp only; omega, Sub.slots ⟨J, J, J, J, J, J, J, J, J, J, J, J, trivial⟩⟩
    have g15_6' := g15_6
    try simp only [qq] at g15_6'
    refine sq_no rfl rfl (less_b g15_6) rfl rfl ?_
    refine sq_no rfl rfl (less_b g15_6) rfl rfl ?_
    refine sq_no rfl rfl (less_b g15_6) rfl rfl ?_
    refine sq_ev rfl (ev_pickF (v := .raw _) (less_b g15_6) J) ?_
    refine mvr J rfl (sq_no rfl rfl J rfl rfl (sq_no rfl rfl J rfl rfl (sq_no rfl rfl J rfl rfl (pf rfl J J (sq_nil ?_)))))
    refine aw_false J ?_
    refine aw_skip (aw_region (sq_ev rfl (ev_add J J (wr (by omega) (by omega))) ?_))
    refine mvr J rfl (sq_nil ?_)
    have hgood : badK (byF x) f (x.r.nl + (n : Nat)) (byF x)[f][j] k = false := by rw [badK_eq hkL]; simp [*]
    exact ⟨⟨k + 1, by omega, fun q hq => (by by_cases e : q = k; (subst e; exact hgood); exact hok2 q (by omega))⟩, by simp only; omega, Sub.slots ⟨J, J, J, J, J, J, J, J, J, J, J, J, trivial⟩⟩
   have c_57' := c_57
   try simp only [qq] at c_57'
   refine aw_exit (aw_region (sq_ev rfl (ev_add J J (wr (by omega) (by omega))) ?_))
   refine mvr J rfl (sq_nil ?_)
   exact ⟨⟨j + 1, by omega, fun a ha h => (by by_cases e : a = j; (subst e; exact fun q hq => hok2 q (by omega)); exact hok a ha (by omega))⟩, by simp only; omega, Sub.fin 4 ⟨J, J, J, J, J, J, J, J, trivial⟩ rfl (by simp [slotsIn, objsIn, sget, keepS, AObj.inB, AV.inB, AV.inL, St.op, St.put, inE_thss, inE_ints, inE_ths, inE_figs, inE_strs, -List.map_append, -List.map_take, -List.map_map]) (by simp [slotsIn, objsIn, sget, keepS, AObj.inB, AV.inB, AV.inL, St.op, St.put, inE_thss, inE_ints, inE_ths, inE_figs, inE_strs, -List.map_append, -List.map_take, -List.map_map]) (by simp [he0])⟩
  have c_51' := c_51
  try simp only [qq] at c_51'
  have hmiss : missAt (byF x) f (x.r.nl + (n : Nat)) = false := miss_no hfL fun a ha q hq => hok a ha (by omega) q hq
  have eS : (toldK (byF x) f x.r.nl (n + 1)).map (fun x => [I x]) = (toldK (byF x) f x.r.nl n).map (fun x => [I x]) ++ [[I (x.r.nl + (n : Nat))]] := by rw [toldK_succ, if_neg (by rw [hmiss]; simp), List.map_append]; rfl
  refine aw_exit (aw_region ?_)
  first | refine mvs rfl J ?_ | refine sq_ev rfl (ev_mv (v := .own _ _ _) J) ?_ | refine mvr J rfl ?_ | refine sq_ev rfl (ev_mv (v := .slx _ _) J) ?_ | refine sq_ev rfl (ev_mv (v := .msl _ _ _ _) J) ?_
  refine mvr J rfl (sq_ev rfl (ev_buildSlice (es := [[_]]) sf64.h rfl rfl rfl rfl) ?_)
  first | refine sq_append rfl sf64.h Tryz.underlying64 rfl rfl J (Nat.succ_pos _) (by simp; omega) (by simp; omega) ?_ | refine sq_append rfl sf64.h Tryz.underlying64 rfl rfl (less_slx _ _) (Nat.succ_pos _) (by simp; omega) (by simp; omega) ?_
  first | refine ass rfl J ?_ | refine sq_ev rfl (ev_as (v := .own _ _ _) J) ?_ | refine asr J rfl ?_ | refine sq_ev rfl (ev_as (v := .slx _ _) J) ?_ | refine sq_ev rfl (ev_as (v := .msl _ _ _ _) J) ?_
  refine sq_nil (aw_region (mvr J rfl (sq_ev rfl (ev_add J J (wr (by omega) (by omega))) ?_)))
  refine asr J rfl (sq_nil ?_)
  exact ⟨⟨n + 1, by omega⟩, by simp only; omega, Sub.fin 4 ⟨Less.eq (b := .own 3 1 ((toldK (byF x) f x.r.nl (n + 1)).map fun x => [I x])) (by rw [eS] <;> rfl), (by exact less_int (by simp <;> omega)), J, J, J, trivial⟩ (congrArg (fun n => [_, _, _, AObj.tok n]) (congrArg List.length eS.symm)) (by simp [slotsIn, objsIn, sget, keepS, AObj.inB, AV.inB, AV.inL, St.op, St.put, inE_thss, inE_ints, inE_ths, inE_figs, inE_strs, -List.map_append, -List.map_take, -List.map_map]) (by simp [slotsIn, objsIn, sget, keepS, AObj.inB, AV.inB, AV.inL, St.op, St.put, inE_thss, inE_ints, inE_ths, inE_figs, inE_strs, -List.map_append, -List.map_take, -List.map_map]) (by simp [he0])⟩
 have c_42' := c_42
 try simp only [qq] at c_42'
 obtain rfl : n = nN x := by unfold nN at *; omega
 refine aw_exit (aw_seq (aw_region ?_))
 first | refine mvs rfl J ?_ | refine sq_ev rfl (ev_mv (v := .own _ _ _) J) ?_ | refine mvr J rfl ?_ | refine sq_ev rfl (ev_mv (v := .slx _ _) J) ?_ | refine sq_ev rfl (ev_mv (v := .msl _ _ _ _) J) ?_
 first | refine ass rfl J ?_ | refine sq_ev rfl (ev_as (v := .own _ _ _) J) ?_ | refine asr J rfl ?_ | refine sq_ev rfl (ev_as (v := .slx _ _) J) ?_ | refine sq_ev rfl (ev_as (v := .msl _ _ _ _) J) ?_
 refine asr J rfl (sq_nil (aw_ret ?_))
 exact retQ_pure (v := .tup [.own _ _ _, .raw _]) rfl rfl (less_tup ⟨Less.trans (less_own _ _ _) (Less.eq (by rw [if_pos hok, Int.toNat_natCast] <;> rfl)), Less.eq (by rw [hok] <;> rfl), trivial⟩)
end Go.Proofs.YtmbknoaneglilaaGreatDoor
namespace Go.Proofs.YtmbknoaneglilaaGreatDoor
open Go Go.Ab Ni Ol
instance en131 : EnT Tryz.prog 131 := ⟨Ent.of Tryz.func131 (by kernel_rfl) rfl⟩
instance en132 : EnT Tryz.prog 132 := ⟨Ent.of Tryz.func132 (by kernel_rfl) rfl⟩
instance en167 : EnT Tryz.prog 167 := ⟨Ent.of Tryz.func167 (by kernel_rfl) rfl⟩
instance en168 : EnT Tryz.prog 168 := ⟨Ent.of Tryz.func168 (by kernel_rfl) rfl⟩
instance en186 : EnT Tryz.prog 186 := ⟨Ent.of Tryz.func186 (by kernel_rfl) rfl⟩
instance sl64 : SlE Tryz.prog 64 3 1 := ⟨by kernel_rfl⟩
theorem cg_eq {s : Sg} {l : List Int} {i : Nat} (hi : i < l.length) : (inn (l.getD i 0) 0 (s.wide * s.high - 1) && upto l i) = (inn l[i] 0 (s.wide * s.high - 1) && (decide (i = 0) || decide (l[i - 1] < l[i]))) := by
  unfold upto
  have h1 : l.getD i 0 = l[i] := by simp [List.getD, List.getElem?_eq_getElem hi]
  have h2 : l.getD (i - 1) 0 = l[i - 1] := by simp [List.getD, List.getElem?_eq_getElem (show i - 1 < l.length by omega)]
  rw [h1, h2]
theorem wh_bd {s : Sg} (hs : stOK s = true) : 0 ≤ s.wide * s.high ∧ s.wide * s.high ≤ 256 := by
  have h := stOK_iff.1 hs
  exact ⟨Int.mul_nonneg (by omega) (by omega), by have := mulb (a := s.wide) (b := s.high) (A := 16) (B := 16) (by omega) (by omega) (by omega) (by omega); omega⟩
theorem ce_in {s : Sg} {l : List Int} (h : ceOK s l = true) : (∀ n ∈ l, 0 ≤ n ∧ n < s.wide * s.high) ∧ l.length ≤ 8 := by
  unfold ceOK at h
  simp only [Bool.and_eq_true, List.all_eq_true, decide_eq_true_eq] at h
  refine ⟨fun n hn => ?_, by omega⟩
  obtain ⟨i, hi, rfl⟩ := List.getElem_of_mem hn
  have := (h.1 i (List.mem_range.2 hi)).1
  rw [show l.getD i 0 = l[i] by simp [List.getD, List.getElem?_eq_getElem hi]] at this
  unfold inn at this
  simp only [Bool.and_eq_true, decide_eq_true_eq] at this
  omega
def CloL (s : Sg) (L : List (List Th)) : Prop := ∀ l ∈ L, ∀ t ∈ l, Clo s t.sh
def tellRow (w : Int) (L : List (List Th)) (cells : List Int) (a : Nat) : Bool := (List.range a).all fun k => tellAB w (L.getD a []) (L.getD k []) cells
theorem tellAll_no {w : Int} {L : List (List Th)} {cells : List Int} {i k : Nat} (hi : i < L.length) (hk : k < i) (h : tellAB w L[i] (L[k]'(by omega)) cells = false) : tellAll w L cells = false := by
  unfold tellAll; rw [List.all_eq_false]
  refine ⟨i, List.mem_range.2 hi, ?_⟩
  rw [Bool.not_eq_true, List.all_eq_false]
  refine ⟨k, List.mem_range.2 hk, ?_⟩
  rw [getD_get hi, getD_get (show k < L.length by omega), h]; simp
theorem tellAll_yes {w : Int} {L : List (List Th)} {cells : List Int} (h : ∀ i, i < L.length → tellRow w L cells i = true) : tellAll w L cells = true := by
  unfold tellAll; rw [List.all_eq_true]; exact fun i hi => h i (List.mem_range.1 hi)
theorem tellRow_yes {w : Int} {L : List (List Th)} {cells : List Int} {i : Nat} (hi : i < L.length) (h : ∀ k, (hk : k < i) → tellAB w L[i] (L[k]'(by omega)) cells = true) : tellRow w L cells i = true := by
  unfold tellRow; rw [List.all_eq_true]
  intro k hk
  have hk := List.mem_range.1 hk
  rw [getD_get hi, getD_get (show k < L.length by omega)]; exact h k hk
theorem tellAB_no {w : Int} {l m : List Th} {cells : List Int} {a b : Nat} (ha : a < l.length) (hb : b < m.length) (h : tells w l[a] m[b] cells = false) : tellAB w l m cells = false := by
  unfold tellAB; rw [List.all_eq_false]
  refine ⟨_, List.getElem_mem ha, ?_⟩
  rw [Bool.not_eq_true, List.all_eq_false]
  exact ⟨_, List.getElem_mem hb, by rw [h]; simp⟩
theorem tellAB_yes {w : Int} {l m : List Th} {cells : List Int} (h : ∀ a, (ha : a < l.length) → ∀ b, (hb : b < m.length) → tells w l[a] m[b] cells = true) : tellAB w l m cells = true := by
  unfold tellAB; rw [List.all_eq_true]
  intro t ht; obtain ⟨a, ha, rfl⟩ := List.getElem_of_mem ht
  rw [List.all_eq_true]
  intro u hu; obtain ⟨b, hb, rfl⟩ := List.getElem_of_mem hu
  exact h a ha b hb
theorem byF_clo {x : Sn} (hx : snOK x = true) : CloL x.s (byF x) := fun l hl t ht => by
  obtain ⟨i, hi, rfl⟩ := List.getElem_of_mem hl
  exact rdgs_clo hx (byF_mem hi ht)
theorem pureE_thss (L : List (List Th)) : AV.pureE (L.map fun l => [ths l]) = true := pureE_map fun l _ => by simp [AV.pureL, AV.pureB, pureE_ths]
theorem arecells_pure (s : Sg) (l : List Int) (hs : stOK s = true) (hl : l.length ≤ 1000000) : APure Tryz.prog 131 [stA s, ints l] (B (ceOK s l)) := by
  refine apure_of (rs := [.tmp 4]) Tryz.func131 rfl rfl (Nat.le_of_ble_eq_true rfl) (by simp [AV.pureL, AV.pureB, AV.pureE, pureE_map]) (by first | rfl | (simp [AV.pureL, AV.pureB, AV.pureE, pureE_map])) fun e0 he0 => ?_
  have hwh := wh_bd hs
  refine W 5 ?_
  refine aw_loopk (ι := { i : Nat // i ≤ l.length ∧ ∀ a, a < i → (inn (l.getD a 0) 0 (s.wide * s.high - 1) && upto l a) = true }) [1, 2, 7, 8] (fun g => [(9, I g.1)]) (fun H g => H) (fun g => l.length - g.1) (⟨0, Nat.zero_le _, by omega⟩) ⟨J, J, J, J, J, trivial⟩ rfl ?_
  rintro ⟨i, hi, hok⟩
  dsimp only [keepS, St.put, sget, slotsOf, nn1, nn2, nn3, nn4, nn5, nn6, Nat.reduceBEq, Nat.reduceAdd, nn7, nn8]
  refine W 1 ?_
  refine iff (fun c_10 c_10' => ?_) (fun c_10 c_10' => ?_)
  · skip
    have hil : i < l.length := by omega
    refine W 12 ?_
    refine cl A (in_pure _ _ _) ?_
    refine W 2 ?_
    refine sq_split 23 J (fun g4_9 => ?_) (fun g4_9 => ?_)
    · skip
      have g4_9' := g4_9
      try simp only [qq] at g4_9'
      refine W 14 ?_
      exact retQ_pure (v := .raw _) rfl rfl (Less.eq (by rw [ce_bad hil (by rw [cg_eq hil, g4_9']; rfl)]))
    · skip
      have g4_9' := g4_9
      try simp only [qq] at g4_9'
      refine W 3 ?_
      refine sq_split 26 J (fun g4_12 => ?_) (fun g4_12 => ?_)
      · skip
        have g4_12' := g4_12
        try simp only [qq] at g4_12'
        refine W 4 ?_
        refine sq_yes rfl rfl (less_b g4_12) rfl (ev_index_map (k := i - 1) sl64.h J J (by omega) (by omega)) ?_
        refine W 4 ?_
        refine aw_cond J (fun c_35 => ?_) (fun c_35 => ?_)
        · skip
          have c_35' := c_35
          try simp only [qq] at c_35'
          refine W 1 ?_
          exact retQ_pure (v := .raw _) rfl rfl (Less.eq (by rw [ce_bad hil (by rw [cg_eq hil, Bool.and_eq_false_iff]; right; simp only [Bool.or_eq_false_iff, decide_eq_false_iff_not]; omega)]))
        · skip
          have c_35' := c_35
          try simp only [qq] at c_35'
          refine V 2 ?_
          refine sq_nil ?_
          have hgood : (inn (l.getD i 0) 0 (s.wide * s.high - 1) && upto l i) = true := by rw [cg_eq hil, g4_9'] ; simp only [Bool.true_and, Bool.or_eq_true, decide_eq_true_eq]; omega
          exact ⟨⟨i + 1, by omega, fun a ha => (by by_cases e : a = i; (subst e; exact hgood); exact hok a (by omega))⟩, by simp only; omega, Sub.slots ⟨J, J, J, J, J, trivial⟩⟩
      · skip
        have g4_12' := g4_12
        try simp only [qq] at g4_12'
        refine V 12 ?_
        refine sq_nil ?_
        have hgood : (inn (l.getD i 0) 0 (s.wide * s.high - 1) && upto l i) = true := by rw [cg_eq hil, g4_9'] ; simp only [Bool.true_and, Bool.or_eq_true, decide_eq_true_eq]; omega
        exact ⟨⟨i + 1, by omega, fun a ha => (by by_cases e : a = i; (subst e; exact hgood); exact hok a (by omega))⟩, by simp only; omega, Sub.slots ⟨J, J, J, J, J, trivial⟩⟩
  · skip
    obtain rfl : i = l.length := by omega
    refine W 4 ?_
    exact retQ_pure (v := .raw _) rfl rfl (Less.eq (by rw [ce_end fun a ha => hok a ha]))
theorem intF_ix {f : FuncId} {cap : List AV} {q : Int → Bool} (E : List (Int)) (hE : E.length ≤ 1000000) (en : Ent Tryz.prog f) (hc : ∀ i, (hi : i < E.length) → APure Tryz.prog f (I E[i] :: cap) (B (q E[i]))) (hp : AV.pureL cap = true) : APure Tryz.prog 186 [.sl 1 (E.map fun x => [I x]), .fn (.func f) [] cap] (I (ixQ q E)) := by
 refine apure_of (rs := [.tmp 4]) Tryz.func186 rfl rfl (Nat.le_of_ble_eq_true rfl) (by simp [AV.pureL, AV.pureB, AV.pureE, pureE_map, hp]) (by first | rfl | (simp [AV.pureL, AV.pureB, AV.pureE, pureE_map])) fun e0 he0 => ?_
 refine W 4 ?_
 refine aw_loopk (ι := { k : Nat // k ≤ E.length ∧ ∀ i, (hi : i < E.length) → i < k → q E[i] = false }) [0, 1, 7] (fun i => [(8, I i.1)]) (fun H i => H) (fun i => E.length - i.1) (⟨0, Nat.zero_le _, by omega⟩) ⟨J, J, J, J, trivial⟩ rfl ?_
 rintro ⟨k, hk, hok⟩
 dsimp only [keepS, St.put, sget, slotsOf, nn1, nn2, nn3, nn4, nn5, nn6, Nat.reduceBEq, Nat.reduceAdd, nn7, nn8]
 refine W 1 ?_
 refine iff (fun c_9 c_9' => ?_) (fun c_9 c_9' => ?_)
 ·
  have hkL : k < E.length := by omega
  refine W 7 ?_
  refine sq_ev rfl (ev_call en J (hc k hkL) ⟨J, LessL.rfl' _⟩) ?_
  refine W 0 ?_
  refine aw_cond J (fun c_16 => ?_) (fun c_16 => ?_)
  ·
   have c_16' := c_16
   try simp only [qq] at c_16'
   refine W 2 ?_
   exact retQ_pure (v := .raw _) rfl rfl (Less.eq (by rw [ixQ_at hkL (by simpa using c_16') hok]))
  have c_16' := c_16
  try simp only [qq] at c_16'
  refine W 2 ?_
  exact ⟨⟨k + 1, by omega, fun i hi h => (by by_cases e : i = k; (subst e; simpa using c_16'); exact hok i hi (by omega))⟩, by simp only; omega, Sub.slots ⟨J, J, J, J, trivial⟩⟩
 refine W 1 ?_
 exact retQ_pure (v := .raw _) rfl rfl (Less.eq (by rw [ixQ_no fun i hi => hok i hi (by omega)]))
theorem intF_any {f : FuncId} {cap : List AV} {q : Int → Bool} (E : List (Int)) (hE : E.length ≤ 1000000) (en : Ent Tryz.prog f) (hc : ∀ i, (hi : i < E.length) → APure Tryz.prog f (I E[i] :: cap) (B (q E[i]))) (hp : AV.pureL cap = true) : APure Tryz.prog 167 [.sl 1 (E.map fun x => [I x]), .fn (.func f) [] cap] (B (E.any q)) := by
 refine apure_of (rs := [.tmp 4]) Tryz.func167 rfl rfl (Nat.le_of_ble_eq_true rfl) (by simp [AV.pureL, AV.pureB, AV.pureE, pureE_map, hp]) (by first | rfl | (simp [AV.pureL, AV.pureB, AV.pureE, pureE_map])) fun e0 he0 => ?_
 refine W 3 ?_
 refine cl A (intF_ix E hE en hc hp) ?_
 refine W 2 ?_
 exact retQ_pure (v := .raw _) rfl rfl (Less.eq (by rw [← ixQ_any]))
theorem tell1_pure {x : Sn} (a b : Th) (k : Nat) (hs : stOK x.s = true) (ha : Clo x.s a.sh) (hb : Clo x.s b.sh) (hk : (k : Int) < x.s.wide * x.s.high) : APure Tryz.prog 168 [I k, .iptr (thC a), .iptr (snC x), .iptr (thC b)] (B (opp (chAt x.s.wide a.sh k) (chAt x.s.wide b.sh k))) := by
 refine apure_of (rs := [.tmp 5]) Tryz.func168 rfl rfl (Nat.le_of_ble_eq_true rfl) (by simp [AV.pureL, AV.pureB, AV.pureE, pureE_map]) (by first | rfl | (simp [AV.pureL, AV.pureB, AV.pureE, pureE_map])) fun e0 he0 => ?_
 have hsb := stOK_iff.1 hs
 have hwh := wh_bd hs
 obtain ⟨a1, a2, a3⟩ := chAt_get hs ha hk
 obtain ⟨b1, b2, b3⟩ := chAt_get hs hb hk
 have hla : a.sh[k / x.s.wide.toNat].length ≤ 1000 := by rw [ha.row _ (List.getElem_mem a1)]; omega
 have hlb : b.sh[k / x.s.wide.toNat].length ≤ 1000 := by rw [hb.row _ (List.getElem_mem b1)]; omega
 have hna := ha.len
 have hnb := hb.len
 refine W 1 ?_
 refine aw_draw 32 mo (by kernel_rfl) ?_
 refine WD 6 ?_
 refine dr_ev rfl (ev_quo (q := ((k / x.s.wide.toNat : Nat) : Int)) J J (by omega) (quo_nat (by omega) (by omega))) ?_
 refine dr_ev rfl (ev_index_map (k := k / x.s.wide.toNat) sl24.h J J rfl a1) ?_
 refine WD 5 ?_
 refine dr_ev rfl (ev_less (ev_rem J J (by omega)) (less_int (rem_nat (by omega)))) ?_
 refine WD 7 ?_
 refine dr_ev rfl (ev_quo (q := ((k / x.s.wide.toNat : Nat) : Int)) J J (by omega) (quo_nat (by omega) (by omega))) ?_
 refine dr_ev rfl (ev_index_map (k := k / x.s.wide.toNat) sl24.h J J rfl b1) ?_
 refine WD 5 ?_
 refine dr_ev rfl (ev_less (ev_rem J J (by omega)) (less_int (rem_nat (by omega)))) ?_
 refine WD 1 ?_
 refine dcl A (differ_pure _ _) ?_
 refine WD 1 ?_
 refine W 0 ?_
 exact retQ_pure (v := .raw _) rfl rfl (Less.eq (by rw [a3, b3]))
theorem tell_pure {x : Sn} (L : List (List Th)) (cells : List Int) (hs : stOK x.s = true) (hL : CloL x.s L) (hn : L.length ≤ 100) (hm : ∀ l ∈ L, l.length ≤ 1000) (hc : ∀ n ∈ cells, 0 ≤ n ∧ n < x.s.wide * x.s.high) (hcl : cells.length ≤ 1000) : APure Tryz.prog 132 [snA x, thss L, ints cells] (B (tellAll x.s.wide L cells)) := by
 refine apure_of (rs := [.tmp 6]) Tryz.func132 rfl rfl (Nat.le_of_ble_eq_true rfl) (by simp [AV.pureL, AV.pureB, AV.pureE, pureE_map, pureE_thss]) (by first | rfl | (simp [AV.pureL, AV.pureB, AV.pureE, pureE_map])) fun e0 he0 => ?_
 refine V 2 ?_
 refine sq_nil (aw_seq (aw_seq ?_))
 refine aw_sub (sub_iptrK [1, 2] 3 (j := 0) (l := snC x) rfl rfl) ?_
 refine W 3 ?_
 refine aw_loopk (ι := { i : Nat // i ≤ L.length ∧ ∀ a, a < i → tellRow x.s.wide L cells a = true }) [1, 2, 3, 15, 16] (fun g => [(17, I g.1)]) (fun H g => H) (fun g => L.length - g.1) (⟨0, Nat.zero_le _, by omega⟩) ⟨J, J, J, J, J, J, trivial⟩ rfl ?_
 rintro ⟨i, hi, ok1⟩
 dsimp only [keepS, St.put, sget, slotsOf, nn1, nn2, nn3, nn4, nn5, nn6, Nat.reduceBEq, Nat.reduceAdd, nn7, nn8]
 refine W 1 ?_
 refine iff (fun c_18 c_18' => ?_) (fun c_18 c_18' => ?_)
 ·
  have hiL : i < L.length := by omega
  have hmi := hm _ (List.getElem_mem hiL)
  refine W 7 ?_
  refine sq_ev rfl (ev_less (ev_slice (lo := 0) (hi := i) sl166.h J rfl J (by omega) (by simp; omega)) (Less.eq (b := thss (L.take i)) (by simp [thss, List.map_take]))) ?_
  refine sq_ev rfl (ev_less (ev_len_map sl166.h J) (Less.eq (b := I i) (by rw [List.length_take, Nat.min_eq_left (by omega)]))) ?_
  refine W 1 ?_
  refine aw_loopk (ι := { k : Nat // k ≤ i ∧ ∀ a, (ha : a < i) → a < k → tellAB x.s.wide L[i] (L[a]'(by omega)) cells = true }) [1, 2, 3, 8, 15, 16, 17, 24, 25] (fun g => [(26, I g.1)]) (fun H g => H) (fun g => i - g.1) (⟨0, Nat.zero_le _, by omega⟩) ⟨J, J, J, J, J, J, J, J, J, J, trivial⟩ rfl ?_
  rintro ⟨k, hk, ok2⟩
  dsimp only [keepS, St.put, sget, slotsOf, nn1, nn2, nn3, nn4, nn5, nn6, Nat.reduceBEq, Nat.reduceAdd, nn7, nn8]
  refine W 1 ?_
  refine iff (fun c_27 c_27' => ?_) (fun c_27 c_27' => ?_)
  ·
   have hki : k < i := by omega
   have hkL : k < L.length := by omega
   have hmk := hm _ (List.getElem_mem hkL)
   refine W 0 ?_
   refine sq_ev rfl (ev_less (ev_index_map (k := k) (xs := L.take i) sl166.h J J rfl (by simp; omega)) (Less.eq (b := .iptr [ths L[k]]) (by rw [List.getElem_take]))) ?_
   refine W 5 ?_
   refine aw_loopk (ι := { j : Nat // j ≤ L[i].length ∧ ∀ a, (ha : a < L[i].length) → a < j → ∀ b, (hb : b < L[k].length) → tells x.s.wide L[i][a] L[k][b] cells = true }) [1, 2, 3, 8, 10, 15, 16, 17, 24, 25, 26, 30, 31] (fun g => [(32, I g.1)]) (fun H g => H) (fun g => L[i].length - g.1) (⟨0, Nat.zero_le _, by omega⟩) ⟨J, J, J, J, J, J, J, J, J, J, J, J, J, J, trivial⟩ rfl ?_
   rintro ⟨j, hj, ok3⟩
   dsimp only [keepS, St.put, sget, slotsOf, nn1, nn2, nn3, nn4, nn5, nn6, Nat.reduceBEq, Nat.reduceAdd, nn7, nn8]
   refine W 1 ?_
   refine iff (fun c_33 c_33' => ?_) (fun c_33 c_33' => ?_)
   ·
    have hjL : j < L[i].length := by omega
    refine V 4 ?_
    refine sq_nil (aw_seq ?_)
    refine aw_sub (sub_iptrK [1, 2, 3, 8, 10, 15, 16, 17, 24, 25, 26, 30, 31, 32] 12 (j := 1) (l := thC L[i][j]) rfl rfl) ?_
    refine W 3 ?_
    refine aw_loopk (ι := { m : Nat // m ≤ L[k].length ∧ ∀ b, (hb : b < L[k].length) → b < m → tells x.s.wide L[i][j] L[k][b] cells = true }) [1, 2, 3, 8, 10, 12, 15, 16, 17, 24, 25, 26, 30, 31, 32, 36, 37] (fun g => [(38, I g.1)]) (fun H g => H) (fun g => L[k].length - g.1) (⟨0, Nat.zero_le _, by omega⟩) ⟨J, J, J, J, J, J, J, J, J, J, J, J, J, J, J, J, J, J, trivial⟩ rfl ?_
    rintro ⟨m, hmm, ok4⟩
    dsimp only [keepS, St.put, sget, slotsOf, nn1, nn2, nn3, nn4, nn5, nn6, Nat.reduceBEq, Nat.reduceAdd, nn7, nn8]
    refine W 1 ?_
    refine iff (fun c_39 c_39' => ?_) (fun c_39 c_39' => ?_)
    ·
     have hmL : m < L[k].length := by omega
     refine V 4 ?_
     refine sq_nil (aw_seq ?_)
     refine aw_sub (sub_iptrK [1, 2, 3, 8, 10, 12, 15, 16, 17, 24, 25, 26, 30, 31, 32, 36, 37, 38] 14 (j := 2) (l := thC L[k][m]) rfl rfl) ?_
     have hclo : ∀ q, (hq : q < cells.length) → APure Tryz.prog 168 (I cells[q] :: [.iptr (thC L[i][j]), .iptr (snC x), .iptr (thC L[k][m])]) (B (opp (chAt x.s.wide L[i][j].sh cells[q]) (chAt x.s.wide L[k][m].sh cells[q]))) := fun q hq => (by obtain ⟨z1, z2⟩ := hc _ (List.getElem_mem hq); obtain ⟨z, hz⟩ : ∃ z : Nat, cells[q] = (z : Int) := ⟨cells[q].toNat, by omega⟩; rw [hz] at z2 ⊢; exact tell1_pure L[i][j] L[k][m] z hs (hL _ (List.getElem_mem hiL) _ (List.getElem_mem hjL)) (hL _ (List.getElem_mem hkL) _ (List.getElem_mem hmL)) z2)
     refine W 2 ?_
     refine sq_ev rfl (ev_call en167.h J (intF_any (q := fun n => opp (chAt x.s.wide L[i][j].sh n) (chAt x.s.wide L[k][m].sh n)) cells (by omega) en168.h hclo (by simp [AV.pureL, AV.pureB, AV.pureE, pureE_map])) ⟨J, J, trivial⟩) ?_
     refine W 1 ?_
     refine aw_cond J (fun c_45 => ?_) (fun c_45 => ?_)
     ·
      have c_45' := c_45
      try simp only [qq] at c_45'
      refine W 1 ?_
      exact retQ_pure (v := .raw _) rfl rfl (Less.eq (by rw [tellAll_no hiL hki (tellAB_no hjL hmL (by unfold tells; simpa using c_45))]))
     have c_45' := c_45
     try simp only [qq] at c_45'
     refine V 2 ?_
     refine sq_nil ?_
     have good4 : tells x.s.wide L[i][j] L[k][m] cells = true := by unfold tells; simpa using c_45
     exact ⟨⟨m + 1, by omega, fun b hb h => (by by_cases e : b = m; (subst e; exact good4); exact ok4 b hb (by omega))⟩, by simp only; omega, Sub.fin 2 ⟨J, J, J, J, J, J, J, J, J, J, J, J, J, J, J, J, J, J, trivial⟩ rfl (by simp [slotsIn, objsIn, sget, keepS, AObj.inB, AV.inB, AV.inL, St.op, St.put, inE_thss, inE_ints, inE_ths, inE_figs, inE_strs, -List.map_append, -List.map_take, -List.map_map]) (by simp [slotsIn, objsIn, sget, keepS, AObj.inB, AV.inB, AV.inL, St.op, St.put, inE_thss, inE_ints, inE_ths, inE_figs, inE_strs, -List.map_append, -List.map_take, -List.map_map]) (by simp [he0])⟩
    refine W 2 ?_
    exact ⟨⟨j + 1, by omega, fun a ha h => (by by_cases e : a = j; (subst e; exact fun b hb => ok4 b hb (by omega)); exact ok3 a ha (by omega))⟩, by simp only; omega, Sub.fin 1 ⟨J, J, J, J, J, J, J, J, J, J, J, J, J, J, trivial⟩ rfl (by simp [slotsIn, objsIn, sget, keepS, AObj.inB, AV.inB, AV.inL, St.op, St.put, inE_thss, inE_ints, inE_ths, inE_figs, inE_strs, -List.map_append, -List.map_take, -List.map_map]) (by simp [slotsIn, objsIn, sget, keepS, AObj.inB, AV.inB, AV.inL, St.op, St.put, inE_thss, inE_ints, inE_ths, inE_figs, inE_strs, -List.map_append, -List.map_take, -List.map_map]) (by simp [he0])⟩
   refine V 2 ?_
   refine sq_nil ?_
   have good2 : tellAB x.s.wide L[i] L[k] cells = true := tellAB_yes fun a ha b hb => ok3 a ha (by omega) b hb
   exact ⟨⟨k + 1, by omega, fun a ha h => (by by_cases e : a = k; (subst e; exact good2); exact ok2 a ha (by omega))⟩, by simp only; omega, Sub.fin 1 ⟨J, J, J, J, J, J, J, J, J, J, trivial⟩ rfl (by simp [slotsIn, objsIn, sget, keepS, AObj.inB, AV.inB, AV.inL, St.op, St.put, inE_thss, inE_ints, inE_ths, inE_figs, inE_strs, -List.map_append, -List.map_take, -List.map_map]) (by simp [slotsIn, objsIn, sget, keepS, AObj.inB, AV.inB, AV.inL, St.op, St.put, inE_thss, inE_ints, inE_ths, inE_figs, inE_strs, -List.map_append, -List.map_take, -List.map_map]) (by simp [he0])⟩
  refine V 2 ?_
  refine sq_nil ?_
  have good1 : tellRow x.s.wide L cells i = true := tellRow_yes hiL fun a ha => ok2 a ha (by omega)
  exact ⟨⟨i + 1, by omega, fun a ha => (by by_cases e : a = i; (subst e; exact good1); exact ok1 a (by omega))⟩, by simp only; omega, Sub.fin 1 ⟨J, J, J, J, J, J, trivial⟩ rfl (by simp [slotsIn, objsIn, sget, keepS, AObj.inB, AV.inB, AV.inL, St.op, St.put, inE_thss, inE_ints, inE_ths, inE_figs, inE_strs, -List.map_append, -List.map_take, -List.map_map]) (by simp [slotsIn, objsIn, sget, keepS, AObj.inB, AV.inB, AV.inL, St.op, St.put, inE_thss, inE_ints, inE_ths, inE_figs, inE_strs, -List.map_append, -List.map_take, -List.map_map]) (by simp [he0])⟩
 obtain rfl : i = L.length := by omega
 refine W 1 ?_
 exact retQ_pure (v := .raw _) rfl rfl (Less.eq (by rw [tellAll_yes fun a ha => ok1 a ha]))
end Go.Proofs.YtmbknoaneglilaaGreatDoor
namespace Go.Proofs.YtmbknoaneglilaaGreatDoor
open Go Go.Ab Ni Ol
instance en133 : EnT Tryz.prog 133 := ⟨Ent.of Tryz.func133 (by kernel_rfl) rfl⟩
instance en134 : EnT Tryz.prog 134 := ⟨Ent.of Tryz.func134 (by kernel_rfl) rfl⟩
instance ty40 : TyF Tryz.prog 40 false 1 := ⟨by kernel_rfl⟩
instance ty64 : TyF Tryz.prog 64 false 1 := ⟨by kernel_rfl⟩
def NowI (G : List AObj) (a : AV) (now : List Int) : Prop :=
  (a = .raw (.slice none 0 0) ∧ now = []) ∨ ∃ j cap rs, a = .msl (7 + j) 0 now.length cap ∧ G[j]? = some (.cells ((now.map fun x => [I x]).flatten ++ rs)) ∧ rs.length = (cap - now.length) * 1 ∧ now.length ≤ cap
abbrev fnV (x : Sn) (cells : List Int) : AV := .fn (.func 133) [] [.iptr (snC x), .iptr [thss (byF x)], .ptr 5 0, .iptr [ints cells], .ptr 6 0]
abbrev plH (x : Sn) (cells : List Int) (a : AV) (G : List AObj) : List AObj := [AObj.cells (stC x.s), .cells (rcC x.r), .dead, .dead, .dead, .cells [a], .cells [fnV x cells]] ++ G
theorem now_cells {G : List AObj} {a : AV} {now : List Int} (h : NowI G a now) : a.cells = some [a] := by
  rcases h with ⟨rfl, _⟩ | ⟨_, _, _, rfl, _⟩ <;> rfl
theorem now_obj {x : Sn} {cells : List Int} {b : AV} {G : List AObj} {now : List Int} {j : Nat} {rs : List AV} (h : G[j]? = some (.cells ((now.map fun x => [I x]).flatten ++ rs))) :
    (plH x cells b G)[7 + j]? = some (.cells ((now.map fun x => [I x]).flatten ++ rs)) := by
  rw [List.getElem?_append_right (by simp)]; simpa using h
theorem sz1 (now : List Int) : ∀ q ∈ now.map (fun x => [I x]), q.length = 1 := fun q hq => by obtain ⟨x, _, rfl⟩ := List.mem_map.1 hq; rfl
theorem tell_now {x : Sn} {cells : List Int} {a b : AV} {G : List AObj} {now : List Int} (hxo : snOK x = true) (hce : ceOK x.s cells = true) (hn : ∀ n ∈ now, n ∈ cells) (hl : now.length ≤ 1000) (h : NowI G a now) :
    AQuiet Tryz.prog 132 [snA x, thss (byF x), a] (plH x cells b G) (B (enough x now)) := by
  have hc := ce_in hce
  have hbl := byF_len x
  have hlb := (sn_facts hxo).1
  have base : APure Tryz.prog 132 [snA x, thss (byF x), ints now] (B (enough x now)) :=
    tell_pure (byF x) now (sn_facts hxo).2.1 (byF_clo hxo) (by omega) (fun l hl => by obtain ⟨i, hi, rfl⟩ := List.getElem_of_mem hl; have := byF_mx hxo hi; omega) (fun n h => hc.1 n (hn n h)) hl
  rcases h with ⟨rfl, rfl⟩ | ⟨j, cap, rs, rfl, hj, hrs, hle⟩
  · exact (AQuiet.of_pure base _).less ⟨J, J, less_nil 1, trivial⟩
  · exact AQuiet.lend (sz := 1) base rfl (.cons (Fz.same _) (.cons (Fz.same _) (.cons Fz.frozen .nil))) (now_obj hj) (by simp) (sz1 now)
theorem cloneI_quiet {j n cap : Nat} {es : List Int} {rs : List AV} {H : List AObj} (hj : H[j]? = some (.cells ((es.map fun x => [I x]).flatten ++ rs))) (hn : es.length = n) (hl : es.length ≤ 1000000) :
    AQuiet Tryz.prog 134 [.msl j 0 n cap] H (ints es) := by
  refine aquiet_of Tryz.func134 rfl rfl (Nat.le_of_ble_eq_true rfl) fun e0 he0 => ?_
  refine qw_seq ?_
  refine qw_region ?_
  refine qs_ev rfl (ev_as (v := .raw _) J) ?_
  refine qs_nil ?_
  refine qw_seq ?_
  refine qw_seq ?_
  refine qw_region ?_
  refine qs_ev rfl (ev_mv (v := .msl _ _ _ _) J) ?_
  refine qs_ev rfl (ev_sl_nil_msl sl64.h J J) ?_
  refine qs_nil ?_
  refine qw_cond (b := false) J (fun h => by cases h) (fun _ => ?_)
  refine qw_skip ?_
  refine qw_seq ?_
  refine qw_region ?_
  refine qs_ev rfl (ev_buildSlice (es := []) sf64.h rfl rfl rfl rfl) ?_
  refine qs_ev rfl (ev_mv (v := .msl _ _ _ _) J) ?_
  refine qs_ev rfl (ev_append_msl (xs := es.map fun x => [I x]) (rs := rs) sf64.h Tryz.underlying64 J J (pre_get he0 hj) (by simpa using hn) (by intro q hq; obtain ⟨x, _, rfl⟩ := List.mem_map.1 hq; rfl) (by simp; omega) (by simp; omega)) ?_
  refine qs_ev rfl (ev_as (v := .sl _ _) J) ?_
  refine qs_nil ?_
  refine qw_ret ?_
  exact ⟨.inr rfl, rfl, Less.eq (by simp [sget, St.put])⟩
theorem cloneI_nil (H : List AObj) : AQuiet Tryz.prog 134 [.raw (.slice none 0 0)] H (ints []) := by
  refine aquiet_of Tryz.func134 rfl rfl (Nat.le_of_ble_eq_true rfl) fun e0 he0 => ?_
  refine qw_seq ?_
  refine qw_region ?_
  refine qs_ev rfl (ev_as (v := .raw _) J) ?_
  refine qs_nil ?_
  refine qw_seq ?_
  refine qw_seq ?_
  refine qw_region ?_
  refine qs_ev rfl (ev_mv (v := .raw _) J) ?_
  refine qs_ev rfl (ev_slnil sl64.h J J) ?_
  refine qs_nil ?_
  refine qw_cond (b := true) J (fun _ => ?_) (fun h => by cases h)
  refine qw_seq ?_
  refine qw_region ?_
  refine qs_ev rfl (ev_as (v := .raw _) J) ?_
  refine qs_nil ?_
  refine qw_ret ?_
  exact ⟨.inr rfl, rfl, less_nil 1⟩
theorem clone_now {x : Sn} {cells : List Int} {a b : AV} {G : List AObj} {now : List Int} (hl : now.length ≤ 1000) (h : NowI G a now) : AQuiet Tryz.prog 134 [a] (plH x cells b G) (ints now) := by
  rcases h with ⟨rfl, rfl⟩ | ⟨j, cap, rs, rfl, hj, hrs, hle⟩
  · exact cloneI_nil _
  · exact cloneI_quiet (now_obj hj) rfl (by omega)
section app
variable {c : Ctx} {ops : Array Oper} {Q : AExit → St → Prop} {rest : List Oper} {i : Nat} {sl : List (Nat × AV)} {df : List ADef}
variable {d : Option Tmp} {t : TypeId} {pp : String} {af : Array Edge}
theorem sq_now_append {x : Sn} {cells : List Int} {a b : AV} {G : List AObj} {now : List Int} {u v : Operand} {n : Int} (hP : c.P = Tryz.prog) (hd : dOK c.nt d = true) (hl : now.length ≤ 1000) (h : NowI G a now)
    (hx : Less ((⟨sl, plH x cells b G, df⟩ : St).op u) a) (hy : Less ((⟨sl, plH x cells b G, df⟩ : St).op v) (.sl 1 [[I n]]))
    (k : ∀ a' G', NowI G' a' (now ++ [n]) → SeqWP c ops Q (i + 1) rest (St.put ⟨sl, plH x cells b G', df⟩ d a')) :
    SeqWP c ops Q i (⟨d, .call ⟨.builtin .append, #[u, v], #[64, 64]⟩, t, pp, af, none⟩ :: rest) ⟨sl, plH x cells b G, df⟩ := by
  have hlen : (plH x cells b G).length = 7 + G.length := by simp [plH]; omega
  rcases h with ⟨rfl, rfl⟩ | ⟨j, cap, rs, rfl, hj, hrs, hle⟩
  · refine sq_append_msl (xs := [[I n]]) hd (by rw [hP]; exact sf64.h) (by rw [hP]; exact Tryz.underlying64) (hx.trans (less_nilx 1)) hy (by simp) (by simp) (by simp) fun cap hcap => ?_
    rw [hlen]
    have e1 : plH x cells b G ++ [.cells ([[I n]].flatten ++ List.replicate ((cap - [[I n]].length) * 1) .any)] = plH x cells b (G ++ [.cells ([[I n]].flatten ++ List.replicate ((cap - [[I n]].length) * 1) .any)]) := by simp [plH]
    rw [e1]
    refine k _ _ (.inr ⟨G.length, cap, List.replicate ((cap - 1) * 1) .any, rfl, ?_, ?_, ?_⟩)
    · simp
    · simp
    · simpa using hcap
  · have ho := now_obj (x := x) (cells := cells) (b := b) hj
    refine sq_append_m (es := now.map fun x => [I x]) (xs := [[I n]]) (rs := rs) hd (by rw [hP]; exact sf64.h) (by rw [hP]; exact Tryz.underlying64) hx ho (by simp) (sz1 now) hrs hy (by simp; omega) (by simp; omega) (fun hfit => ?_) (fun cap' hcap => ?_)
    · have e1 : (plH x cells b G).set (7 + j) (.cells ((now.map (fun x => [I x]) ++ [[I n]]).flatten ++ rs.drop ([[I n]].length * 1))) =
          plH x cells b (G.set j (.cells ((now.map (fun x => [I x]) ++ [[I n]]).flatten ++ rs.drop ([[I n]].length * 1)))) := by
        unfold plH
        rw [List.set_append_right _ _ (by simp)]; congr 2; simp
      simp only [e1]
      refine k _ _ (.inr ⟨j, cap, rs.drop 1, ?_, ?_, ?_, ?_⟩)
      · simp
      · rw [List.getElem?_set_self (lt_of_get? hj)]; simp
      · simp only [List.length_drop, List.length_append, List.length_singleton, hrs]; omega
      · simpa using hfit
    · rw [hlen]
      have e1 : plH x cells b G ++ [.cells ((now.map (fun x => [I x]) ++ [[I n]]).flatten ++ List.replicate ((cap' - (now.length + [[I n]].length)) * 1) .any)] =
          plH x cells b (G ++ [.cells ((now.map (fun x => [I x]) ++ [[I n]]).flatten ++ List.replicate ((cap' - (now.length + [[I n]].length)) * 1) .any)]) := by simp [plH]
      rw [e1]
      refine k _ _ (.inr ⟨G.length, cap', List.replicate ((cap' - (now.length + 1)) * 1) .any, ?_, ?_, ?_, ?_⟩)
      · simp
      · simp
      · simp
      · simpa using hcap
end app
def SR (x : Sn) (cells : List Int) (many : Nat) (now : List Int) (frm : Nat) : ARes → List AObj → Prop := fun y H' =>
  ∃ b a' G', y = .ret (B b) ∧ H' = plH x cells a' G' ∧ (b = true → ∃ l, plan (enough x) many (cells.drop frm) now = some l ∧ NowI G' a' l) ∧ (b = false → plan (enough x) many (cells.drop frm) now = none ∧ NowI G' a' now)
theorem plan_cons {ok : List Int → Bool} {many : Nat} {c : Int} {cs now : List Int} : plan ok (many + 1) (c :: cs) now = match plan ok many cs (now ++ [c]) with | some l => some l | none => plan ok (many + 1) cs now := by rw [plan]; cases plan ok many cs (now ++ [c]) <;> rfl
theorem plan_len {ok : List Int → Bool} : ∀ (many : Nat) (cs now l : List Int), plan ok many cs now = some l → l.length = now.length + many
  | 0, _, now, l, h => by
    unfold plan at h; split at h
    · cases h; rfl
    · cases h
  | many + 1, [], _, _, h => by rw [plan] at h; cases h
  | many + 1, c :: cs, now, l, h => by
    rw [plan_cons] at h
    cases hp : plan ok many cs (now ++ [c]) with
    | some l' =>
      rw [hp] at h
      have := plan_len many cs (now ++ [c]) l' hp
      cases h
      rw [this, List.length_append, List.length_singleton]; omega
    | none => rw [hp] at h; exact plan_len (many + 1) cs now l h
theorem search_step {x : Sn} {cells : List Int} (hxo : snOK x = true) (hce : ceOK x.s cells = true) (many : Nat) (ih : ∀ mm, many = mm + 1 → ∀ (now : List Int) (frm : Nat) (a : AV) (G : List AObj), (∀ n ∈ now, n ∈ cells) → now.length + mm ≤ 100 → frm ≤ cells.length → NowI G a now → ACall Tryz.prog 133 [I frm, I mm, .iptr (snC x), .iptr [thss (byF x)], .ptr 5 0, .iptr [ints cells], .ptr 6 0] (plH x cells a G) (SR x cells mm now frm)) (now : List Int) (frm : Nat) (a : AV) (G : List AObj) (hmem : ∀ n ∈ now, n ∈ cells) (hlen : now.length + many ≤ 100) (hfr : frm ≤ cells.length) (hnow : NowI G a now) : ACall Tryz.prog 133 [I frm, I many, .iptr (snC x), .iptr [thss (byF x)], .ptr 5 0, .iptr [ints cells], .ptr 6 0] (plH x cells a G) (SR x cells many now frm) := by
  refine acall_of (rs := [.tmp 9]) Tryz.func133 rfl rfl (Nat.le_of_ble_eq_true rfl) fun e0 he0 => ?_
  have hcl := (ce_in hce).2
  refine W 3 ?_
  refine iff (fun c_12 c_12' => ?_) (fun c_12 c_12' => ?_)
  · skip
    obtain rfl : many = 0 := by omega
    refine W 3 ?_
    refine sq_ev rfl (ev_callQ en132.h J (tell_now hxo hce hmem (by omega) hnow) ⟨J, J, J, trivial⟩) ?_
    refine V 1 ?_
    refine sq_nil (aw_ret ?_)
    refine ⟨rfl, B (enough x now), rfl, enough x now, a, G, rfl, rfl, fun h => ⟨now, by rw [plan, if_pos h], hnow⟩, fun h => ⟨by rw [plan, if_neg (by rw [h]; simp)], hnow⟩⟩
  · skip
    obtain ⟨mm, rfl⟩ : ∃ mm, many = mm + 1 := ⟨many - 1, by omega⟩
    refine W 2 ?_
    refine aw_loopk (ι := { g : Nat × AV × List AObj // (frm ≤ g.1 ∧ g.1 ≤ cells.length) ∧ NowI g.2.2 g.2.1 now ∧ plan (enough x) (mm + 1) (cells.drop frm) now = plan (enough x) (mm + 1) (cells.drop g.1) now }) [1, 4, 5, 6] (fun g => [(10, I g.1.1)]) (fun H g => plH x cells g.1.2.1 g.1.2.2) (fun g => cells.length - g.1.1) (⟨(frm, a, G), ⟨Nat.le_refl _, hfr⟩, hnow, rfl⟩) ⟨J, J, J, J, J, trivial⟩ rfl ?_
    rintro ⟨⟨i, a, G⟩, hi, hnow, heq⟩
    dsimp only [keepS, St.put, sget, slotsOf, nn1, nn2, nn3, nn4, nn5, nn6, Nat.reduceBEq, Nat.reduceAdd, nn7, nn8]
    dsimp only at hi hnow heq
    refine W 4 ?_
    refine iff (fun c_21 c_21' => ?_) (fun c_21 c_21' => ?_)
    · skip
      have hil : i < cells.length := by omega
      have hdrop : cells.drop i = cells[i] :: cells.drop (i + 1) := List.drop_eq_getElem_cons hil
      refine W 0 ?_
      refine aw_draw 6 mo (by kernel_rfl) ?_
      refine WD 3 ?_
      refine dr_ev rfl (ev_index_map (k := i) sl64.h J J rfl hil) ?_
      refine WD 1 ?_
      refine dr_ev rfl (ev_buildSlice (es := [[_]]) sf64.h rfl rfl rfl rfl) ?_
      refine dr_end ?_
      refine sq_now_append (x := x) (cells := cells) (a := a) (b := a) (G := G) (now := now) (n := cells[i]) ?_ ?_ (by omega) hnow ?_ ?_ fun a' G' hnow' => ?_
      · rfl
      · rfl
      · exact J
      · exact less_slx _ _
      refine sq_store (j := 5) (off := 0) rfl J J (now_cells hnow') rfl ty64.h rfl rfl ?_
      refine W 5 ?_
      refine sq_call (f := 133) (first := []) (cap := [.iptr (snC x), .iptr [thss (byF x)], .ptr 5 0, .iptr [ints cells], .ptr 6 0]) (args := [I ((i + 1 : Nat) : Int), I mm, .iptr (snC x), .iptr [thss (byF x)], .ptr 5 0, .iptr [ints cells], .ptr 6 0]) rfl en133.h J ⟨less_int (by simp), less_int (by omega), J, J, J, J, J, trivial⟩ (ih mm rfl (now ++ [cells[i]]) (i + 1) a' G' (by intro n hn; rcases List.mem_append.1 hn with h | h; exact hmem n h; simp at h; rw [h]; exact List.getElem_mem hil) (by simp; omega) (by omega) hnow') ?_ (by rintro v H' ⟨b, a', G', h, _⟩; cases h)
      rintro _ _ ⟨b, a2, G2, h, rfl, hT, hF⟩; cases h
      refine W 0 ?_
      refine aw_cond J (fun c_36 => ?_) (fun c_36 => ?_)
      · skip
        have c_36' := c_36
        try simp only [qq] at c_36'
        refine V 1 ?_
        refine sq_nil (aw_ret ?_)
        obtain ⟨l2, hp, hn2⟩ := hT (by simpa using c_36)
        exact ⟨rfl, B true, rfl, true, a2, G2, rfl, rfl, fun _ => ⟨l2, by rw [heq, hdrop, plan_cons, hp], hn2⟩, (fun h => by cases h)⟩
      · skip
        have c_36' := c_36
        try simp only [qq] at c_36'
        refine aw_skip ?_
        have hF2 := hF (by simpa using c_36)
        obtain ⟨hp0, hnow2⟩ := hF2
        have hF2 := hF (by simpa using c_36)
        rcases hnow2 with ⟨_, h0⟩ | ⟨j, cap, rs, rfl, hj, hrs, hcap⟩
        · simp at h0
        rw [List.length_append, List.length_singleton] at hrs hcap
        refine W 2 ?_
        refine sq_ev rfl (ev_len_msl sl64.h J) ?_
        refine sq_ev rfl (ev_sub (q := (now.length : Int)) J J (by rw [wr (by simp <;> omega) (by simp <;> omega)]; simp)) ?_
        refine sq_ev rfl (ev_slice_msl (hi := now.length) sl64.h J J (by omega)) ?_
        refine V 4 ?_
        refine sq_nil ?_
        refine ⟨⟨(i + 1, .msl (7 + j) 0 now.length cap, G2), ⟨by simp only; omega, by simp only; omega⟩, .inr ⟨j, cap, I cells[i] :: rs, rfl, by rw [hj]; simp, by simp only [List.length_cons, hrs]; omega, by omega⟩, by rw [heq, hdrop, plan_cons, hF2.1]⟩, by simp only; omega, ?_⟩
        refine Sub.slots ?_
        exact ⟨(by exact less_int (by simp <;> omega)), J, J, J, J, trivial⟩
    · skip
      obtain rfl : i = cells.length := by omega
      refine W 1 ?_
      exact ⟨rfl, B false, rfl, false, a, G, rfl, rfl, (fun h => by cases h), fun _ => ⟨by rw [heq, List.drop_length, plan], hnow⟩⟩
theorem search_call {x : Sn} {cells : List Int} (hxo : snOK x = true) (hce : ceOK x.s cells = true) : ∀ (many : Nat) (now : List Int) (frm : Nat) (a : AV) (G : List AObj), (∀ n ∈ now, n ∈ cells) → now.length + many ≤ 100 → frm ≤ cells.length → NowI G a now → ACall Tryz.prog 133 [I frm, I many, .iptr (snC x), .iptr [thss (byF x)], .ptr 5 0, .iptr [ints cells], .ptr 6 0] (plH x cells a G) (SR x cells many now frm) := by
  intro many
  induction many with
  | zero => exact search_step hxo hce 0 (fun mm h => by omega)
  | succ k ih => exact search_step hxo hce (k + 1) (fun mm h => by cases h; exact ih)
end Go.Proofs.YtmbknoaneglilaaGreatDoor
namespace Go.Proofs.YtmbknoaneglilaaGreatDoor
open Go Go.Ab Ni Ol
instance z40 : ZeO Tryz.prog 40 [.raw .nilFunc] := ⟨by kernel_rfl⟩
instance z64 : ZeO Tryz.prog 64 [.raw (.slice none 0 0)] := ⟨by kernel_rfl⟩
def celOK (x : Sn) (cells : List Int) : Bool := snOK x && ceOK x.s cells
theorem cel_1 {x : Sn} {cells : List Int} (h : snOK x = false) : celOK x cells = false := by unfold celOK; rw [h]; rfl
theorem cel_2 {x : Sn} {cells : List Int} (h : ceOK x.s cells = false) : celOK x cells = false := by unfold celOK; rw [h]; simp
theorem cel_3 {x : Sn} {cells : List Int} (h : snOK x = true) (h2 : ceOK x.s cells = true) : celOK x cells = true := by unfold celOK; rw [h, h2]; rfl
def planE (x : Sn) (cells : List Int) : List Int × Int := if celOK x cells = true then (match planOf x cells with | some l => (l, 0) | none => ([], 5)) else ([], 2)
theorem planE_no {x : Sn} {cells : List Int} (h : celOK x cells = false) : planE x cells = ([], 2) := by unfold planE; rw [h]; rfl
theorem planE_some {x : Sn} {cells l : List Int} {m : Nat} (h : celOK x cells = true) (hm : m < cells.length + 1) (hp : plan (enough x) m cells [] = some l) (no : ∀ j, j < m → plan (enough x) j cells [] = none) : planE x cells = (l, 0) := by
  unfold planE; rw [if_pos h]
  have : planOf x cells = some l := findSome_range hm hp no
  rw [this]
theorem planE_none {x : Sn} {cells : List Int} (h : celOK x cells = true) (no : ∀ j, j < cells.length + 1 → plan (enough x) j cells [] = none) : planE x cells = ([], 5) := by
  unfold planE; rw [if_pos h]
  have : planOf x cells = none := List.findSome?_eq_none_iff.2 fun j hj => no j (List.mem_range.1 hj)
  rw [this]
theorem plan_pure (x : Sn) (cells : List Int) (hl : x.l.length ≤ 1000000) (hc : cells.length ≤ 1000000) : APure Tryz.prog 67 [stA x.s, figs x.l, rcA x.r, ints cells] (.tup [ints (planE x cells).1, I (planE x cells).2]) := by
 refine apure_of (rs := [.tmp 8, .tmp 9]) Tryz.func67 rfl rfl (Nat.le_of_ble_eq_true rfl) (by simp [AV.pureL, AV.pureB, AV.pureE, pureE_map]) (by first | rfl | (simp [AV.pureL, AV.pureB, AV.pureE, pureE_map])) fun e0 he0 => ?_
 refine W 12 ?_
 refine cl A (isscene_pure x hl) ?_
 refine W 2 ?_
 refine sq_split 22 J (fun g2_3 => ?_) (fun g2_3 => ?_)
 ·
  have g2_3' := g2_3
  try simp only [qq] at g2_3'
  refine W 8 ?_
  exact retQ_pure (v := .tup [.raw _, .raw _]) rfl rfl (less_tup ⟨Less.trans (less_nil 1) (Less.eq (by rw [planE_no (cel_1 g2_3')]; rfl)), Less.eq (by rw [planE_no (cel_1 g2_3')]), trivial⟩)
 have g2_3' := g2_3
 try simp only [qq] at g2_3'
 refine W 2 ?_
 refine cy A (arecells_pure x.s cells (sn_facts (x := x) g2_3').2.1 hc) ?_
 refine W 2 ?_
 refine aw_cond J (fun c_27 => ?_) (fun c_27 => ?_)
 ·
  have c_27' := c_27
  try simp only [qq] at c_27'
  refine W 2 ?_
  exact retQ_pure (v := .tup [.raw _, .raw _]) rfl rfl (less_tup ⟨Less.trans (less_nil 1) (Less.eq (by rw [planE_no (cel_2 (by simpa using c_27))]; rfl)), Less.eq (by rw [planE_no (cel_2 (by simpa using c_27))]), trivial⟩)
 have c_27' := c_27
 try simp only [qq] at c_27'
 have hxo : snOK x = true := by cases h : snOK x <;> simp_all
 have hce : ceOK x.s cells = true := by cases h : ceOK x.s cells <;> simp_all
 have hok := cel_3 hxo hce
 have hcl := (ce_in hce).2
 refine W 1 ?_
 refine cl A (by_pure hxo) ?_
 refine V 4 ?_
 refine sq_nil (aw_seq ?_)
 refine aw_sub (sub_iptrK [7, 11, 12, 13] 10 (j := 3) (l := snC x) rfl rfl) ?_
 refine aw_sub (sub_iptrK [7, 10, 12, 13] 11 (j := 4) (l := [thss (byF x)]) rfl rfl) ?_
 refine aw_sub (sub_iptrK [10, 11, 12, 13] 7 (j := 2) (l := [ints cells]) rfl rfl) ?_
 refine W 6 ?_
 refine aw_loopk (ι := { g : Nat × AV × List AObj // g.1 ≤ cells.length + 1 ∧ NowI g.2.2 g.2.1 [] ∧ ∀ m, m < g.1 → plan (enough x) m cells [] = none }) [12, 13, 33] (fun g => [(34, I g.1.1)]) (fun H g => plH x cells g.1.2.1 g.1.2.2) (fun g => cells.length + 1 - g.1.1) (⟨(0, .raw (.slice none 0 0), []), Nat.zero_le _, .inl ⟨rfl, rfl⟩, by omega⟩) ⟨J, J, J, J, trivial⟩ rfl ?_
 rintro ⟨⟨m, a, G⟩, hm, hnow, hno⟩
 dsimp only [keepS, St.put, sget, slotsOf, nn1, nn2, nn3, nn4, nn5, nn6, Nat.reduceBEq, Nat.reduceAdd, nn7, nn8]
 dsimp only at hm hnow hno
 refine W 1 ?_
 refine iff (fun c_35 c_35' => ?_) (fun c_35 c_35' => ?_)
 ·
  have hml : m < cells.length + 1 := by omega
  refine W 4 ?_
  refine sq_call (f := 133) (first := []) (cap := [.iptr (snC x), .iptr [thss (byF x)], .ptr 5 0, .iptr [ints cells], .ptr 6 0]) (args := [I ((0 : Nat) : Int), I m, .iptr (snC x), .iptr [thss (byF x)], .ptr 5 0, .iptr [ints cells], .ptr 6 0]) rfl en133.h J ⟨J, J, J, J, J, J, J, trivial⟩ (search_call hxo hce m [] 0 a G (by intro n hn; cases hn) (by simp; omega) (Nat.zero_le _) hnow) ?_ (by rintro v H' ⟨b, a', G', h, _⟩; cases h)
  rintro _ _ ⟨b, a2, G2, h, rfl, hT, hF⟩; cases h
  refine W 0 ?_
  refine aw_cond J (fun c_39 => ?_) (fun c_39 => ?_)
  ·
   have c_39' := c_39
   try simp only [qq] at c_39'
   obtain ⟨l2, hp, hn2⟩ := hT (by simpa using c_39)
   rw [List.drop_zero] at hp
   refine W 1 ?_
   refine sq_ev rfl (ev_callQ en134.h J (clone_now (by have := plan_len _ _ _ _ hp; simp at this; omega) hn2) ⟨J, trivial⟩) ?_
   refine W 2 ?_
   exact retQ_pure (v := .tup [.sl _ _, .raw _]) rfl rfl (less_tup ⟨Less.eq (by rw [planE_some hok hml hp hno]), Less.eq (by rw [planE_some hok hml hp hno]), trivial⟩)
  have c_39' := c_39
  try simp only [qq] at c_39'
  rw [List.drop_zero] at hF
  refine V 2 ?_
  refine sq_nil ?_
  refine ⟨⟨(m + 1, a2, G2), by simp only; omega, (hF (by simpa using c_39)).2, fun q hq => (by by_cases e : q = m; (subst e; exact (hF (by simpa using c_39)).1); exact hno q (by simp only at hq; omega))⟩, by simp only; omega, ?_⟩
  refine Sub.slots ?_
  exact ⟨J, J, J, J, trivial⟩
 obtain rfl : m = cells.length + 1 := by omega
 refine W 2 ?_
 exact retQ_pure (v := .tup [.raw _, .raw _]) rfl rfl (less_tup ⟨Less.trans (less_nil 1) (Less.eq (by rw [planE_none hok hno]; rfl)), Less.eq (by rw [planE_none hok hno]), trivial⟩)
end Go.Proofs.YtmbknoaneglilaaGreatDoor
namespace Go.Proofs.YtmbknoaneglilaaGreatDoor
open Go Go.Ab Ni Ol
instance ar233 : ArE Tryz.prog 233 2 9 1 := ⟨by kernel_rfl⟩
instance bi233 : BdI Tryz.prog 233 [.raw (.string ByteArray.empty), .raw (.string ByteArray.empty)] false [] 1 := ⟨by kernel_rfl⟩
instance en158 : EnT Tryz.prog 158 := ⟨Ent.of Tryz.func158 (by kernel_rfl) rfl⟩
instance en159 : EnT Tryz.prog 159 := ⟨Ent.of Tryz.func159 (by kernel_rfl) rfl⟩
instance en181 : EnT Tryz.prog 181 := ⟨Ent.of Tryz.func181 (by kernel_rfl) rfl⟩
instance en182 : EnT Tryz.prog 182 := ⟨Ent.of Tryz.func182 (by kernel_rfl) rfl⟩
instance en236 : EnT Tryz.prog 236 := ⟨Ent.of Tryz.func236 (by kernel_rfl) rfl⟩
instance en237 : EnT Tryz.prog 237 := ⟨Ent.of Tryz.func237 (by kernel_rfl) rfl⟩
instance fo208_0 : FoF Tryz.prog 208 0 0 23 := ⟨by kernel_rfl⟩
instance fo211_0 : FoF Tryz.prog 211 0 0 26 := ⟨by kernel_rfl⟩
theorem mt208 : methOf Tryz.prog 208 "kelir/outline.words" = some 236 := by kernel_rfl
theorem mt211 : methOf Tryz.prog 211 "kelir/outline.words" = some 237 := by kernel_rfl
instance ni211 : NiF Tryz.prog 211 := ⟨by kernel_rfl⟩
instance ty233 : TyF Tryz.prog 233 true 2 := ⟨by kernel_rfl⟩
instance z211 : ZeO Tryz.prog 211 [.raw (.slice none 0 0)] := ⟨by kernel_rfl⟩
instance z233 : ZeO Tryz.prog 233 [.raw (.string ByteArray.empty), .raw (.string ByteArray.empty)] := ⟨by kernel_rfl⟩
def wStage : List UInt8 := [115, 116, 97, 103, 101]
def wFigure : List UInt8 := [102, 105, 103, 117, 114, 101]
def stL (s : Sg) : List Int := [s.wide, s.high, s.far, s.flame, s.x, s.y]
def rowW (s : Sg) : Option Fg → List (List UInt8)
  | none => (stL s).map Lib.itoa
  | some f => f
def nameW : Option Fg → List UInt8
  | none => wStage
  | some _ => wFigure
def lineO (s : Sg) (r : Option Fg) : List UInt8 := Lib.join (nameW r :: rowW s r) [32]
abbrev rowV (s : Sg) : Option Fg → AV
  | none => .ifc 208 (.agg (stC s))
  | some f => .ifc 211 (.agg [strs f])
theorem itoa_pure (n : Int) (h0 : -9223372036854775808 ≤ n) (h1 : n ≤ 9223372036854775807) : APure Tryz.prog 159 [I n] (S (Lib.itoa n)) :=
  apure_of_calls (vs := [.int .i64 n]) fun w hw => (Tryz.strconv_Itoa n h0 h1 w hw.2).mono fun _ _ ⟨h1, k, os, h2⟩ => ⟨h1, by rw [h2]; exact ⟨rfl, rfl⟩, os, by rw [h2]; rfl⟩
theorem data_list (l : List (List UInt8)) : (l.map fun r => (⟨r.toArray⟩ : ByteArray)).map (fun b => b.data.toList) = l := by
  rw [List.map_map]
  conv => rhs; rw [← List.map_id l]
  exact List.map_congr_left fun r _ => rfl
theorem join_pure (l : List (List UInt8)) (sep : List UInt8) (h1 : l.length ≤ 1000000) (h2 : (Lib.join l sep).length ≤ 1000000) : APure Tryz.prog 181 [strs l, S sep] (S (Lib.join l sep)) := by
  refine apure_of_strs (more := [.string ⟨sep.toArray⟩]) (fun hl a c w _ => ?_) fun bk o c w _ hc hb hle => ?_
  · subst hl
    refine (Tryz.strings_Join_none a c ⟨sep.toArray⟩ w).mono ?_
    rintro x w' ⟨rfl, rfl⟩
    exact ⟨rfl, Still.refl _, Nat.le_refl _, fun _ _ => rfl⟩
  · have hj : Lib.join ((l.map fun r => (⟨r.toArray⟩ : ByteArray)).map (·.data.toList)) (⟨sep.toArray⟩ : ByteArray).data.toList = Lib.join l sep := by rw [data_list]
    have := Tryz.strings_Join bk o c (l.map fun r => (⟨r.toArray⟩ : ByteArray)) ⟨sep.toArray⟩ w hc hb (by simp; omega) (by simpa using hle) (by rw [hj]; omega)
    rw [hj, List.length_map] at this
    refine this.mono ?_
    rintro x w' ⟨rfl, hB⟩
    exact ⟨rfl, ⟨hB.os, hB.output⟩, hB.size, hB.block⟩
theorem stL_sl (s : Sg) : Less (.slx 1 [[I s.wide], [I s.high], [I s.far], [I s.flame], [I s.x], [I s.y]]) (ints (stL s)) := Less.trans (less_slx _ _) (Less.eq rfl)
theorem names_pure  : APure Tryz.prog 182 [] (.agg [S wStage, S wFigure]) := by
  refine apure_of (rs := [.cell 0 233]) Tryz.func182 rfl rfl (Nat.le_of_ble_eq_true rfl) (by simp [AV.pureL, AV.pureB, AV.pureE, pureE_map]) (by first | rfl | (simp [AV.pureL, AV.pureB, AV.pureE, pureE_map])) fun e0 he0 => ?_
  refine W 3 ?_
  exact retQ_res (vs := [.agg _]) rfl rfl ⟨resVar_cell rfl rfl ty233.h rfl, trivial⟩ J
theorem headw_pure (s : Sg) (hb : ∀ n ∈ stL s, -1000000 ≤ n ∧ n ≤ 1000000) : APure Tryz.prog 236 [.agg (stC s)] (strs ((stL s).map Lib.itoa)) := by
 refine apure_of (rs := [.tmp 2]) Tryz.func236 rfl rfl (Nat.le_of_ble_eq_true rfl) (by simp [AV.pureL, AV.pureB, AV.pureE, pureE_map]) (by first | rfl | (simp [AV.pureL, AV.pureB, AV.pureE, pureE_map])) fun e0 he0 => ?_
 refine W 21 ?_
 refine sq_ev rfl (ev_buildSlice (es := [[_], [_], [_], [_], [_], [_]]) sf64.h rfl rfl rfl rfl) ?_
 refine V 2 ?_
 refine sq_nil (aw_block ?_)
 refine aw_sub (sub_token 3 1 J) ?_
 refine aw_loopk (ι := { k : Nat // k ≤ 6 }) [24, 25] (fun i => [(26, I i.1), (3, .own 1 1 ((((stL s).take i.1).map Lib.itoa).map fun x => [S x]))]) (fun H i => H.set 1 (.tok ((((stL s).take i.1).map Lib.itoa).map fun x => [S x]).length)) (fun i => 6 - i.1) (⟨0, Nat.zero_le _⟩) ⟨J, J, J, J, trivial⟩ rfl ?_
 rintro ⟨k, hk⟩
 dsimp only [keepS, St.put, sget, slotsOf, nn1, nn2, nn3, nn4, nn5, nn6, Nat.reduceBEq, Nat.reduceAdd, nn7, nn8]
 refine W 1 ?_
 refine iff (fun c_27 c_27' => ?_) (fun c_27 c_27' => ?_)
 ·
  have hk6 : k < (stL s).length := by show k < 6; omega
  have hb2 := hb _ (List.getElem_mem hk6)
  have eS : (((stL s).take (k + 1)).map Lib.itoa).map (fun x => [S x]) = (((stL s).take k).map Lib.itoa).map (fun x => [S x]) ++ [[S (Lib.itoa (stL s)[k])]] := by rw [List.take_succ_eq_append_getElem hk6, List.map_append, List.map_append]; rfl
  refine W 0 ?_
  refine sq_ev rfl (ev_index_map (k := k) (xs := stL s) sl64.h (stL_sl s) J rfl hk6) ?_
  refine W 4 ?_
  refine cl A (itoa_pure _ (by omega) (by omega)) ?_
  refine sq_ev rfl (ev_buildSlice (es := [[_]]) sf24.h rfl rfl rfl rfl) ?_
  first | refine sq_append rfl sf24.h Tryz.underlying24 rfl rfl J (Nat.succ_pos _) (by simp; omega) (by simp; omega) ?_ | refine sq_append rfl sf24.h Tryz.underlying24 rfl rfl (less_slx _ _) (Nat.succ_pos _) (by simp; omega) (by simp; omega) ?_
  refine W 3 ?_
  exact ⟨⟨k + 1, by omega⟩, by simp only; omega, Sub.fin 2 ⟨J, Less.eq (b := .own 1 1 ((((stL s).take (k + 1)).map Lib.itoa).map fun x => [S x])) (by rw [eS] <;> rfl), J, J, trivial⟩ (congrArg (fun n => [_, AObj.tok n]) (congrArg List.length eS.symm)) (by simp [slotsIn, objsIn, sget, keepS, AObj.inB, AV.inB, AV.inL, AV.inE, inE_map, inE_ints, inE_strs, inE_figs, inE_cloths, -List.map_append, -List.map_take, -List.map_map]) (by simp [slotsIn, objsIn, sget, keepS, AObj.inB, AV.inB, AV.inL, AV.inE, inE_map, inE_ints, inE_strs, inE_figs, inE_cloths, -List.map_append, -List.map_take, -List.map_map]) (by simp [he0])⟩
 obtain rfl : k = 6 := by omega
 refine W 2 ?_
 exact retQ_pure (v := .own _ _ _) rfl rfl (Less.trans (less_own _ _ _) (Less.eq (by rfl)))
theorem partw_pure (f : Fg) : APure Tryz.prog 237 [.agg [strs f]] (strs f) := by
 refine apure_of (rs := [.tmp 2]) Tryz.func237 rfl rfl (Nat.le_of_ble_eq_true rfl) (by simp [AV.pureL, AV.pureB, AV.pureE, pureE_map]) (by first | rfl | (simp [AV.pureL, AV.pureB, AV.pureE, pureE_map])) fun e0 he0 => ?_
 refine W 6 ?_
 exact retQ_pure (v := .sl _ _) rfl rfl J
theorem lineH_pure (s : Sg) (hb : ∀ n ∈ stL s, -1000000 ≤ n ∧ n ≤ 1000000) (hj : (Lib.join (nameW none :: rowW s none) [32]).length ≤ 1000000) : APure Tryz.prog 158 [rowV s none] (S (lineO s none)) := by
 refine apure_of (rs := [.tmp 2]) Tryz.func158 rfl rfl (Nat.le_of_ble_eq_true rfl) (by simp [AV.pureL, AV.pureB, AV.pureE, pureE_map]) (by first | rfl | (simp [AV.pureL, AV.pureB, AV.pureE, pureE_map])) fun e0 he0 => ?_
 refine W 3 ?_
 refine sq_ev rfl (ev_assert_no ni211.h z211.h rfl J) ?_
 refine W 3 ?_
 refine aw_draw 9 mo (by kernel_rfl) ?_
 refine dcl A (names_pure) ?_
 refine WD 1 ?_
 refine dr_ev rfl (ev_indexv (k := 0) ar233.h ty9.h J J rfl (by decide) rfl) ?_
 refine dr_ev rfl (ev_buildSlice (es := [[_]]) sf24.h rfl rfl rfl rfl) ?_
 refine WD 1 ?_
 refine dr_ev rfl (ev_invoke mt208 en236.h J (headw_pure s hb)) ?_
 refine dr_ev rfl (ev_append sf24.h Tryz.underlying24 J J (by simp [stL] <;> omega) (by simp [stL] <;> omega)) ?_
 refine dcl A (join_pure (nameW none :: rowW s none) [32] (by simp [rowW, stL] <;> omega) hj) ?_
 refine WD 1 ?_
 refine W 0 ?_
 exact retQ_pure (v := .raw _) rfl rfl J
theorem lineP_pure (s : Sg) (f : Fg) (hf : f.length ≤ 100000) (hj : (Lib.join (nameW (some f) :: rowW s (some f)) [32]).length ≤ 1000000) : APure Tryz.prog 158 [rowV s (some f)] (S (lineO s (some f))) := by
 refine apure_of (rs := [.tmp 2]) Tryz.func158 rfl rfl (Nat.le_of_ble_eq_true rfl) (by simp [AV.pureL, AV.pureB, AV.pureE, pureE_map]) (by first | rfl | (simp [AV.pureL, AV.pureB, AV.pureE, pureE_map])) fun e0 he0 => ?_
 refine W 3 ?_
 refine sq_ev rfl (ev_assert_yes ni211.h J) ?_
 refine W 4 ?_
 refine aw_draw 9 mo (by kernel_rfl) ?_
 refine dcl A (names_pure) ?_
 refine WD 1 ?_
 refine dr_ev rfl (ev_indexv (k := 1) ar233.h ty9.h J J rfl (by decide) rfl) ?_
 refine dr_ev rfl (ev_buildSlice (es := [[_]]) sf24.h rfl rfl rfl rfl) ?_
 refine WD 1 ?_
 refine dr_ev rfl (ev_invoke mt211 en237.h J (partw_pure f)) ?_
 refine dr_ev rfl (ev_append sf24.h Tryz.underlying24 J J (by simp [stL] <;> omega) (by simp [stL] <;> omega)) ?_
 refine dcl A (join_pure (nameW (some f) :: rowW s (some f)) [32] (by simp [rowW, stL] <;> omega) hj) ?_
 refine WD 1 ?_
 refine W 0 ?_
 exact retQ_pure (v := .raw _) rfl rfl J
end Go.Proofs.YtmbknoaneglilaaGreatDoor
