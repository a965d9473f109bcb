/-
  Conditions: none.
-/
import Derived.Test.YtjghdbdiejaacaaGreatDoorWalkE
import Derived.Test.YtjghdbdiejaacaaGreatDoorSpec
import Derived.Test.YtjghdbdiejaacaaGreatDoorLogicD
set_option linter.all false
namespace Go.Proofs.YtjghdbdiejaacaaGreatDoor
open Go Go.Ab Ni
theorem en106 : Ent Tryz.prog 106 := Ent.of Tryz.func106 (by kernel_rfl) rfl
theorem en107 : Ent Tryz.prog 107 := Ent.of Tryz.func107 (by kernel_rfl) rfl
theorem en123 : Ent Tryz.prog 123 := Ent.of Tryz.func123 (by kernel_rfl) rfl
theorem fo132_0 : fOff Tryz.prog 132 0 = some (0, 3) := by kernel_rfl
theorem fo132_1 : fOff Tryz.prog 132 1 = some (1, 63) := by kernel_rfl
theorem sf57 : SlFact Tryz.prog 57 92 1 8 := SlFact.of (by kernel_rfl)
theorem ty63 : tySz Tryz.prog 63 = some (false, 1) := by kernel_rfl

theorem eup (l : List Nat) : (up l).map (fun x => [I x]) = l.map (fun (x : Nat) => [I x]) := by simp [up]
def sureAV (p : Pl) (l : List Int) : AV := if chosenB p l = true then .tup [B (sureP p (dn l)), I 0] else .tup [B false, I 2]
def failsAV (p : Pl) (l : List Int) : AV := if chosenB p l = true then (if canP p (dn l) = true then .tup [I 0, I 0, I 5] else .tup [I (fk p (dn l)), I (ff p (dn l)), I 0]) else .tup [I 0, I 0, I 2]
def playedAV (p : Pl) : AV := if PlOK p = true then (if (choicesC p).length = 0 then .tup [.sl 1 [], I 7] else .tup [ints (wordsT p p.scenes.length), I 0]) else .tup [.sl 1 [], I 2]
abbrev spans (l : List (Int × Int)) : AV := .sl 2 (l.map fun x => [I x.1, I x.2])
def endsAV (p : Pl) : AV := if PlOK p = true then (if (choicesC p).length = 0 then .tup [.sl 2 [], I 7] else .tup [spans (endsT p 3), I 0]) else .tup [.sl 2 [], I 2]
theorem sureAV_pure (p : Pl) (l : List Int) : (sureAV p l).pureB = true := by unfold sureAV; split <;> rfl
theorem failsAV_pure (p : Pl) (l : List Int) : (failsAV p l).pureB = true := by unfold failsAV; (repeat' split) <;> rfl
theorem playedAV_pure (p : Pl) : (playedAV p).pureB = true := by unfold playedAV; (repeat' split) <;> simp [AV.pureB, AV.pureL, AV.pureE, pureE_map]
theorem endsAV_pure (p : Pl) : (endsAV p).pureB = true := by unfold endsAV; (repeat' split) <;> simp [AV.pureB, AV.pureL, AV.pureE, pureE_map]
theorem fe_not (p : Pl) (l : List Nat) : decide (fe p l = 0) = canP p l := fe_can p l
theorem nwiders_pure (a b c d : Int) (m : Bool) : APure Tryz.prog 97 [.agg [I a, I b], B m, .agg [I c, I d]] (.agg [I (if m then min a c else c), I (if m then max b d else d)]) := by
  have h := nwider_pure a b c d m
  cases m <;> exact h
theorem can_fwd {p : Pl} {l : List Nat} (gp : GP p) (wp : WP p) (h : l ∈ choicesC p) : ffail p l = none :=
  (can_ffail wp (choicesC_mem gp l h)).1 (List.mem_filter.1 h).2
theorem ncontains_nats (l : List Nat) (v : Nat) (hl : l.length ≤ 1000000) : APure Tryz.prog 106 [nats l, I v] (B (decide (v ∈ l))) := by
  have h := ncontains_pure (up l) v (by simpa [up] using hl)
  have e1 : decide ((v : Int) ∈ up l) = decide (v ∈ l) := by
    refine decide_eq_decide.2 ?_
    simp only [up, List.mem_map]
    exact ⟨fun ⟨a, h1, h2⟩ => by
      obtain rfl : a = v := by omega
      exact h1, fun h => ⟨v, h, rfl⟩⟩
  have e2 : ints (up l) = nats l := by simp [up]
  rw [e1, e2] at h; exact h
set_option maxHeartbeats 1000000 in
/-- kelir/night.Sure -/
theorem nSure_pure (p : Pl) (l : List Int) (hp : p.scenes.length ≤ 1000000) (hl : l.length ≤ 1000000) : APure Tryz.prog 64 [plan p, ints l] (sureAV p l) := by
  refine apure_of (rs := [.tmp 4, .tmp 5]) Tryz.func64 rfl rfl (Nat.le_of_ble_eq_true rfl) (by simp [AV.pureL, AV.pureB, AV.pureE, pureE_map]) (sureAV_pure p l) fun e0 he0 => ?_
  refine aw_seq (aw_region ?_)
  refine sq_box rfl (lr _) rfl ?_
  refine sq_ev rfl (ev_as (v := .raw _) (lr _)) ?_
  refine sq_ev rfl (ev_as (v := .raw _) (lr _)) ?_
  refine sq_nil (aw_seq (aw_region ?_))
  refine sq_ev rfl (ev_load_agg (lr _) rfl ty27 rfl) ?_
  refine sq_ev rfl (ev_mv (v := .sl _ _) (lr _)) ?_
  refine sq_ev rfl (ev_call en107 (lr _) (nchosen_pure p l hp hl) ⟨lr _, lr _, trivial⟩) ?_
  refine sq_ev rfl (ev_mv (v := .tup _) (lr _)) ?_
  refine sq_ev rfl (ev_extract (lr _) rfl) ?_
  refine sq_ev rfl (ev_extract (lr _) rfl) ?_
  refine sq_alloc rfl z110 ?_
  refine sq_store rfl (lr _) (lr _) rfl rfl ty110 rfl rfl ?_
  refine sq_ev rfl (ev_as (v := .raw _) (lr _)) ?_
  refine sq_nil (aw_seq (aw_seq (aw_region ?_)))
  refine sq_ev rfl (ev_mv (v := .raw _) (lr _)) ?_
  refine sq_ev rfl (ev_not (lr _)) ?_
  refine sq_nil ?_
  refine aw_cond (lr _) (fun c1 => ?_) (fun c1 => ?_)
  · skip
    have c1' := c1
    try simp only [qq1, qq2, qq3, qq4, qq5, qq6, qq7, qq8, qq9, qq10, qq11, qq12, qq13] at c1'
    refine aw_seq (aw_region ?_)
    refine sq_ev rfl (ev_as (v := .raw _) (lr _)) ?_
    refine sq_ev rfl (ev_as (v := .raw _) (lr _)) ?_
    refine sq_nil (aw_ret ?_)
    exact retQ_pure (v := .tup [.raw _, .raw _]) rfl rfl (Less.eq (by simp [sureAV, c1']))
  · skip
    have c1' := c1
    try simp only [qq1, qq2, qq3, qq4, qq5, qq6, qq7, qq8, qq9, qq10, qq11, qq12, qq13] at c1'
    obtain ⟨l', rfl, cv, gp, wp⟩ := chosen_up c1'
    refine aw_skip (aw_seq (aw_region ?_))
    refine sq_ev rfl (ev_load_agg (lr _) rfl ty110 rfl) ?_
    refine sq_ev rfl (ev_call en123 (lr _) (nsure_pure p l' gp cv) ⟨Less.eq (playedI_up p l'), trivial⟩) ?_
    refine sq_ev rfl (ev_as (v := .raw _) (lr _)) ?_
    refine sq_ev rfl (ev_as (v := .raw _) (lr _)) ?_
    refine sq_nil (aw_ret ?_)
    exact retQ_pure (v := .tup [.raw _, .raw _]) rfl rfl (Less.eq (by simp [sureAV, c1', dn_up]))

set_option maxHeartbeats 1000000 in
/-- kelir/night.Fails -/
theorem nFails_pure (p : Pl) (l : List Int) (hp : p.scenes.length ≤ 1000000) (hl : l.length ≤ 1000000) : APure Tryz.prog 46 [plan p, ints l] (failsAV p l) := by
 refine apure_of (rs := [.tmp 4, .tmp 5, .tmp 6]) Tryz.func46 rfl rfl (Nat.le_of_ble_eq_true rfl) (by simp [AV.pureL, AV.pureB, AV.pureE, pureE_map]) (failsAV_pure p l) fun e0 he0 => ?_
 refine aw_seq (aw_region ?_)
 refine sq_box rfl (lr _) rfl ?_
 refine sq_ev rfl (ev_as (v := .raw _) (lr _)) ?_
 refine sq_ev rfl (ev_as (v := .raw _) (lr _)) ?_
 refine sq_ev rfl (ev_as (v := .raw _) (lr _)) ?_
 refine sq_nil (aw_seq (aw_region ?_))
 refine sq_ev rfl (ev_load_agg (lr _) rfl ty27 rfl) ?_
 refine sq_ev rfl (ev_mv (v := .sl _ _) (lr _)) ?_
 refine sq_ev rfl (ev_call en107 (lr _) (nchosen_pure p l hp hl) ⟨lr _, lr _, trivial⟩) ?_
 refine sq_ev rfl (ev_mv (v := .tup _) (lr _)) ?_
 refine sq_ev rfl (ev_extract (lr _) rfl) ?_
 refine sq_ev rfl (ev_extract (lr _) rfl) ?_
 refine sq_alloc rfl z110 ?_
 refine sq_store rfl (lr _) (lr _) rfl rfl ty110 rfl rfl ?_
 refine sq_ev rfl (ev_as (v := .raw _) (lr _)) ?_
 refine sq_nil (aw_seq (aw_seq (aw_region ?_)))
 refine sq_ev rfl (ev_mv (v := .raw _) (lr _)) ?_
 refine sq_ev rfl (ev_not (lr _)) ?_
 refine sq_nil ?_
 refine aw_cond (lr _) (fun c1 => ?_) (fun c1 => ?_)
 ·
  have c1' := c1
  try simp only [qq1, qq2, qq3, qq4, qq5, qq6, qq7, qq8, qq9, qq10, qq11, qq12, qq13] at c1'
  refine aw_seq (aw_region ?_)
  refine sq_ev rfl (ev_as (v := .raw _) (lr _)) ?_
  refine sq_ev rfl (ev_as (v := .raw _) (lr _)) ?_
  refine sq_ev rfl (ev_as (v := .raw _) (lr _)) ?_
  refine sq_nil (aw_ret ?_)
  exact retQ_pure (v := .tup [.raw _, .raw _, .raw _]) rfl rfl (Less.eq (by simp [failsAV, c1']))
 ·
  have c1' := c1
  try simp only [qq1, qq2, qq3, qq4, qq5, qq6, qq7, qq8, qq9, qq10, qq11, qq12, qq13] at c1'
  obtain ⟨l', rfl, cv, gp, wp⟩ := chosen_up c1'
  refine aw_skip (aw_seq (aw_region ?_))
  refine sq_ev rfl (ev_makeFunc) ?_
  simp only [playedI, ints, eup]
  refine sq_call (args := [.fn (.func 109) [] [.ptr 1 0]]) rfl en108 (lr _) ⟨lr _, trivial⟩ (natt109_call (i := 1) (H := [.cells (planC p), .cells (playedC p l')]) gp cv rfl (by simp [objsIn, AObj.inB, AV.inB, AV.inL, AV.inE, inE_map, inE_ints, inE_sc, -List.map_append, -List.map_take, -List.map_map])) ?_ (by rintro v H' ⟨_, h⟩; cases h)
  rintro _ _ ⟨rfl, h⟩; cases h
  refine sq_ev rfl (ev_mv (v := .tup _) (lr _)) ?_
  refine sq_ev rfl (ev_extract (lr _) rfl) ?_
  refine sq_ev rfl (ev_extract (lr _) rfl) ?_
  refine sq_alloc rfl z132 ?_
  refine sq_store rfl (lr _) (lr _) rfl rfl ty132 rfl rfl ?_
  refine sq_ev rfl (ev_as (v := .raw _) (lr _)) ?_
  refine sq_nil (aw_seq (aw_seq (aw_region ?_)))
  refine sq_ev rfl (ev_mv (v := .raw _) (lr _)) ?_
  refine sq_ev rfl (ev_eql (lr _) (lr _)) ?_
  refine sq_nil ?_
  refine aw_cond (lr _) (fun c2 => ?_) (fun c2 => ?_)
  ·
   have c2' := c2
   try simp only [qq1, qq2, qq3, qq4, qq5, qq6, qq7, qq8, qq9, qq10, qq11, qq12, qq13] at c2'
   refine aw_seq (aw_region ?_)
   refine sq_ev rfl (ev_as (v := .raw _) (lr _)) ?_
   refine sq_ev rfl (ev_as (v := .raw _) (lr _)) ?_
   refine sq_ev rfl (ev_as (v := .raw _) (lr _)) ?_
   refine sq_nil (aw_ret ?_)
   exact retQ_pure (v := .tup [.raw _, .raw _, .raw _]) rfl rfl (Less.eq (by simp [failsAV, c1', dn_up, ← fe_can, c2']))
  ·
   have c2' := c2
   try simp only [qq1, qq2, qq3, qq4, qq5, qq6, qq7, qq8, qq9, qq10, qq11, qq12, qq13] at c2'
   refine aw_skip (aw_seq ?_)
   refine aw_draw 7 mo (by kernel_rfl) ?_
   refine dr_ev rfl (ev_fieldAddr fo132_0 (lr _)) ?_
   refine dr_ev rfl (ev_load (lr _) rfl ty3 rfl) ?_
   refine dr_ev rfl (ev_fieldAddr fo132_1 (lr _)) ?_
   refine dr_ev rfl (ev_load (lr _) rfl ty63 rfl) ?_
   refine dr_ev rfl (ev_as (v := .raw _) (lr _)) ?_
   refine dr_ev rfl (ev_as (v := .raw _) (lr _)) ?_
   refine dr_ev rfl (ev_as (v := .raw _) (lr _)) ?_
   refine dr_end (sq_nil (aw_ret ?_))
   exact retQ_pure (v := .tup [.raw _, .raw _, .raw _]) rfl rfl (Less.eq (by simp [failsAV, c1', dn_up, ← fe_can, c2']))

set_option maxHeartbeats 1000000 in
/-- (kelir/night.played).fits -/
theorem nfits_pure (p : Pl) (l : List Nat) (hs : List Int) (gp : GP p) (cv : CV p l) (hb : ∀ x ∈ hs, -1000000000 ≤ x ∧ x ≤ 1000000000) (hl : hs.length ≤ 1000000) : APure Tryz.prog 130 [played p l, ints hs] (B (fitsP p l hs)) := by
 refine apure_of (rs := [.tmp 4]) Tryz.func130 rfl rfl (Nat.le_of_ble_eq_true rfl) (by simp [AV.pureL, AV.pureB, AV.pureE, pureE_map]) (rfl) fun e0 he0 => ?_
 refine aw_seq (aw_region ?_)
 refine sq_box rfl (lr _) rfl ?_
 refine sq_ev rfl (ev_as (v := .raw _) (lr _)) ?_
 refine sq_nil (aw_seq (aw_region ?_))
 refine sq_ev rfl (ev_fieldAddr fo110_0 (lr _)) ?_
 refine sq_ev rfl (ev_fieldAddr fo27_0 (lr _)) ?_
 refine sq_ev rfl (ev_load (lr _) rfl ty3 rfl) ?_
 refine sq_ev rfl (ev_as (v := .raw _) (lr _)) ?_
 refine sq_nil (aw_seq (aw_seq (aw_region ?_)))
 refine sq_ev rfl (ev_mv (v := .sl _ _) (lr _)) ?_
 refine sq_ev rfl (ev_len_map sl34 (lr _)) ?_
 refine sq_ev rfl (ev_mv (v := .raw _) (lr _)) ?_
 refine sq_nil (aw_block ?_)
 refine aw_loopk (ι := { k : Nat // k ≤ hs.length ∧ ∀ i, (h : i < hs.length) → i < k → fitBad p l hs i h = false }) [2, 12, 13] (fun i => [(14, I i.1), (5, I (atF p hs i.1))]) (fun H i => H) (fun i => hs.length - i.1) (⟨0, Nat.zero_le _, by omega⟩) ⟨lr _, lr _, lr _, lr _, lr _, trivial⟩ rfl ?_
 rintro ⟨k, hk, hok⟩
 dsimp only [keepS, St.put, sget, slotsOf, List.map_cons, List.map_nil, List.cons_append, List.nil_append, List.length_cons, List.length_nil, Nat.reduceBEq, Nat.reduceAdd, cond_true, cond_false]
 refine aw_seq (aw_region ?_)
 refine sq_ev rfl (ev_lss (lr _) (lr _)) ?_
 refine sq_nil (aw_seq ?_)
 refine aw_cond (lr _) (fun c1 => ?_) (fun c1 => ?_)
 ·
  have c1' := c1
  try simp only [qq1, qq2, qq3, qq4, qq5, qq6, qq7, qq8, qq9, qq10, qq11, qq12, qq13] at c1'
  have hk' : k < hs.length := by omega
  have b1 := atF_bd gp hb k
  have b2 := hb _ (List.getElem_mem hk')
  refine aw_skip (aw_seq (aw_block (aw_seq (aw_region ?_))))
  refine sq_ev rfl (ev_mv (v := .raw _) (lr _)) ?_
  refine sq_ev rfl (ev_index_map sl34 (lr _) (lr _) rfl (by omega)) ?_
  refine sq_ev rfl (ev_load_i (lr _) ty3 rfl) ?_
  refine sq_ev rfl (ev_as (v := .raw _) (lr _)) ?_
  refine sq_ev rfl (ev_as (v := .raw _) (lr _)) ?_
  refine sq_nil (aw_seq ?_)
  refine aw_draw 6 mo (by kernel_rfl) ?_
  refine dr_ev rfl (ev_load_agg (lr _) rfl ty110 rfl) ?_
  refine dr_ev rfl (ev_load_agg (lr _) rfl ty110 rfl) ?_
  refine dr_ev rfl (ev_mv (v := .raw _) (lr _)) ?_
  refine dr_ev rfl (ev_call en136 (lr _) (nof_pure p l (k : Int) gp cv) ⟨lr _, lr _, trivial⟩) ?_
  refine dr_ev rfl (ev_call en135 (lr _) (nlastsP_pure p l k gp cv) ⟨lr _, lr _, trivial⟩) ?_
  refine dr_alloc rfl z23 ?_
  refine dr_end ?_
  refine sq_store rfl (lr _) (lr _) rfl rfl ty23 rfl rfl ?_
  refine sq_nil (aw_seq (aw_seq (aw_region ?_)))
  refine sq_ev rfl (ev_mv (v := .raw _) (lr _)) ?_
  refine sq_ev rfl (ev_mv (v := .raw _) (lr _)) ?_
  refine sq_ev rfl (ev_sub (lr _) (lr _) (wr (by omega) (by omega))) ?_
  refine sq_ev rfl (ev_fieldAddr fo23_0 (lr _)) ?_
  refine sq_ev rfl (ev_load (lr _) rfl ty3 rfl) ?_
  refine sq_ev rfl (ev_fieldAddr fo23_1 (lr _)) ?_
  refine sq_ev rfl (ev_load (lr _) rfl ty3 rfl) ?_
  refine sq_ev rfl (ev_call en122 (lr _) (nin_pure _ _ _) ⟨lr _, lr _, lr _, trivial⟩) ?_
  refine sq_ev rfl (ev_not (lr _)) ?_
  refine sq_nil ?_
  refine aw_cond (lr _) (fun c2 => ?_) (fun c2 => ?_)
  ·
   have c2' := c2
   try simp only [qq1, qq2, qq3, qq4, qq5, qq6, qq7, qq8, qq9, qq10, qq11, qq12, qq13] at c2'
   refine aw_seq (aw_region ?_)
   refine sq_ev rfl (ev_as (v := .raw _) (lr _)) ?_
   refine sq_nil (aw_ret ?_)
   exact retQ_pure (v := .raw _) rfl rfl (Less.eq (by rw [fitsP, okAll_bad (i := k) (by omega) (by first | (simp [fitBad, inn, *]; done) | (simp_all [fitBad, inn]; done))]))
  ·
   have c2' := c2
   try simp only [qq1, qq2, qq3, qq4, qq5, qq6, qq7, qq8, qq9, qq10, qq11, qq12, qq13] at c2'
   refine aw_skip (aw_region ?_)
   refine sq_ev rfl (ev_mv (v := .raw _) (lr _)) ?_
   refine sq_ev rfl (ev_as (v := .raw _) (lr _)) ?_
   refine sq_nil (aw_region ?_)
   refine sq_ev rfl (ev_add (lr _) (lr _) (wr (by omega) (by omega))) ?_
   refine sq_ev rfl (ev_mv (v := .raw _) (lr _)) ?_
   refine sq_nil ?_
   have hgood : fitBad p l hs k (by omega) = false := by first | (simp [fitBad, inn, *]; done) | (simp_all [fitBad, inn]; done)
   exact ⟨⟨k + 1, by omega, fun i h hi => (by by_cases e : i = k; (subst e; exact hgood); exact hok i h (by omega))⟩, by simp only; omega, Sub.fin 1 ⟨lr _, less_int (atF_succ hk').symm, lr _, lr _, lr _, trivial⟩ rfl (by simp [slotsIn, objsIn, sget, keepS, AObj.inB, AV.inB, AV.inL, AV.inE, inE_map, inE_ints, inE_sc, -List.map_append, -List.map_take, -List.map_map]) (by simp [slotsIn, objsIn, sget, keepS, AObj.inB, AV.inB, AV.inL, AV.inE, inE_map, inE_ints, inE_sc, -List.map_append, -List.map_take, -List.map_map]) (by simp [he0])⟩
 ·
  have c1' := c1
  try simp only [qq1, qq2, qq3, qq4, qq5, qq6, qq7, qq8, qq9, qq10, qq11, qq12, qq13] at c1'
  refine aw_exit (aw_seq (aw_region ?_))
  refine sq_ev rfl (ev_as (v := .raw _) (lr _)) ?_
  refine sq_nil (aw_ret ?_)
  exact retQ_pure (v := .raw _) rfl rfl (Less.eq (by rw [fitsP, okAll_end hk c1' hok]))

set_option maxHeartbeats 2000000 in
/-- kelir/night.Played -/
theorem nPlayed_pure (p : Pl) (hl0 : p.scenes.length ≤ 1000000) : APure Tryz.prog 42 [plan p] (playedAV p) := by
 refine apure_of (rs := [.tmp 2, .tmp 3]) Tryz.func42 rfl rfl (Nat.le_of_ble_eq_true rfl) (by simp [AV.pureL, AV.pureB, AV.pureE, pureE_map]) (playedAV_pure p) fun e0 he0 => ?_
 refine aw_seq (aw_region ?_)
 refine sq_box rfl (lr _) rfl ?_
 refine sq_ev rfl (ev_as (v := .raw _) (lr _)) ?_
 refine sq_ev rfl (ev_as (v := .raw _) (lr _)) ?_
 refine sq_nil (aw_seq (aw_seq (aw_region ?_)))
 refine sq_ev rfl (ev_load_agg (lr _) rfl ty27 rfl) ?_
 refine sq_ev rfl (ev_call en85 (lr _) (isplan_pure p hl0) ⟨lr _, trivial⟩) ?_
 refine sq_ev rfl (ev_not (lr _)) ?_
 refine sq_nil ?_
 refine aw_cond (lr _) (fun c1 => ?_) (fun c1 => ?_)
 ·
  have c1' := c1
  try simp only [qq1, qq2, qq3, qq4, qq5, qq6, qq7, qq8, qq9, qq10, qq11, qq12, qq13] at c1'
  refine aw_seq (aw_region ?_)
  refine sq_ev rfl (ev_as (v := .raw _) (lr _)) ?_
  refine sq_ev rfl (ev_as (v := .raw _) (lr _)) ?_
  refine sq_nil (aw_ret ?_)
  exact retQ_pure (v := .tup [.raw _, .raw _]) rfl rfl (Less.trans (b := .tup [.sl 1 [], I 2]) (less_tup ⟨less_nil 1, lr _, trivial⟩) (Less.eq (by simp [playedAV, c1'])))
 ·
  have c1' := c1
  try simp only [qq1, qq2, qq3, qq4, qq5, qq6, qq7, qq8, qq9, qq10, qq11, qq12, qq13] at c1'
  obtain ⟨gp, wp⟩ := gp_of_ok c1'
  refine aw_skip (aw_seq (aw_region ?_))
  refine sq_ev rfl (ev_load_agg (lr _) rfl ty27 rfl) ?_
  refine sq_ev rfl (ev_call en86 (lr _) (nplayablew_pure gp wp) ⟨lr _, trivial⟩) ?_
  refine sq_ev rfl (ev_as (v := .sl _ _) (lr _)) ?_
  refine sq_nil (aw_seq (aw_seq (aw_region ?_)))
  refine sq_ev rfl (ev_mv (v := .sl _ _) (lr _)) ?_
  refine sq_ev rfl (ev_len_map sl107 (lr _)) ?_
  refine sq_ev rfl (ev_eql (lr _) (lr _)) ?_
  refine sq_nil ?_
  refine aw_cond (lr _) (fun c2 => ?_) (fun c2 => ?_)
  ·
   have c2' := c2
   try simp only [qq1, qq2, qq3, qq4, qq5, qq6, qq7, qq8, qq9, qq10, qq11, qq12, qq13] at c2'
   refine aw_seq (aw_region ?_)
   refine sq_ev rfl (ev_as (v := .raw _) (lr _)) ?_
   refine sq_ev rfl (ev_as (v := .raw _) (lr _)) ?_
   refine sq_nil (aw_ret ?_)
   exact retQ_pure (v := .tup [.raw _, .raw _]) rfl rfl (Less.trans (b := .tup [.sl 1 [], I 7]) (less_tup ⟨less_nil 1, lr _, trivial⟩) (Less.eq (by rw [playedAV, if_pos c1', if_pos (by omega)])))
  ·
   have c2' := c2
   try simp only [qq1, qq2, qq3, qq4, qq5, qq6, qq7, qq8, qq9, qq10, qq11, qq12, qq13] at c2'
   refine aw_skip (aw_seq (aw_region ?_))
   refine sq_ev rfl (ev_as (v := .raw _) (lr _)) ?_
   refine sq_nil (aw_seq (aw_seq (aw_region ?_)))
   refine sq_ev rfl (ev_fieldAddr fo27_3 (lr _)) ?_
   refine sq_ev rfl (ev_load (lr _) rfl ty25 rfl) ?_
   refine sq_ev rfl (ev_len_map sl25 (lr _)) ?_
   refine sq_ev rfl (ev_mv (v := .raw _) (lr _)) ?_
   refine sq_nil (aw_block ?_)
   refine aw_sub (sub_token 5 1 (lr _)) ?_
   refine aw_loopk (ι := { k : Nat // k ≤ p.scenes.length }) [4, 20] (fun i => [(21, I i.1), (5, .own 1 1 ((wordsT p i.1).map fun x => [I x]))]) (fun H i => H.set 1 (.tok ((wordsT p i.1).map fun x => [I x]).length)) (fun i => p.scenes.length - i.1) (⟨0, Nat.zero_le _⟩) ⟨lr _, lr _, lr _, lr _, trivial⟩ rfl ?_
   rintro ⟨k, hk⟩
   dsimp only [keepS, St.put, sget, slotsOf, List.map_cons, List.map_nil, List.cons_append, List.nil_append, List.length_cons, List.length_nil, Nat.reduceBEq, Nat.reduceAdd, cond_true, cond_false]
   have hcl := choicesC_len gp
   have hwl := wordsT_len p k
   refine aw_seq (aw_region ?_)
   refine sq_ev rfl (ev_lss (lr _) (lr _)) ?_
   refine sq_nil (aw_seq ?_)
   refine aw_cond (lr _) (fun c3 => ?_) (fun c3 => ?_)
   ·
    have c3' := c3
    try simp only [qq1, qq2, qq3, qq4, qq5, qq6, qq7, qq8, qq9, qq10, qq11, qq12, qq13] at c3'
    have hk' : k < p.scenes.length := by omega
    refine aw_skip (aw_seq (aw_block (aw_seq (aw_region ?_))))
    refine sq_ev rfl (ev_mv (v := .raw _) (lr _)) ?_
    refine sq_ev rfl (ev_as (v := .raw _) (lr _)) ?_
    refine sq_nil (aw_seq (aw_region ?_))
    refine sq_ev rfl (ev_as (v := .raw _) (lr _)) ?_
    refine sq_nil (aw_seq (aw_seq (aw_region ?_)))
    refine sq_ev rfl (ev_mv (v := .sl _ _) (lr _)) ?_
    refine sq_ev rfl (ev_len_map sl107 (lr _)) ?_
    refine sq_ev rfl (ev_mv (v := .raw _) (lr _)) ?_
    refine sq_nil (aw_block ?_)
    refine aw_loopk (ι := { j : Nat // j ≤ (choicesC p).length }) [4, 5, 6, 20, 21, 24, 25] (fun i => [(26, I i.1), (7, I (cntT p k i.1 : Int))]) (fun H i => H) (fun i => (choicesC p).length - i.1) (⟨0, Nat.zero_le _⟩) ⟨lr _, lr _, lr _, lr _, lr _, lr _, lr _, lr _, lr _, trivial⟩ rfl ?_
    rintro ⟨j, hj⟩
    dsimp only [keepS, St.put, sget, slotsOf, List.map_cons, List.map_nil, List.cons_append, List.nil_append, List.length_cons, List.length_nil, Nat.reduceBEq, Nat.reduceAdd, cond_true, cond_false]
    have hct := cntT_le p k j
    refine aw_seq (aw_region ?_)
    refine sq_ev rfl (ev_lss (lr _) (lr _)) ?_
    refine sq_nil (aw_seq ?_)
    refine aw_cond (lr _) (fun c4 => ?_) (fun c4 => ?_)
    ·
     have c4' := c4
     try simp only [qq1, qq2, qq3, qq4, qq5, qq6, qq7, qq8, qq9, qq10, qq11, qq12, qq13] at c4'
     have hj' : j < (choicesC p).length := by omega
     refine aw_skip (aw_seq (aw_block (aw_seq (aw_region ?_))))
     refine sq_ev rfl (ev_index_map sl107 (lr _) (lr _) rfl (by omega)) ?_
     refine sq_ev rfl (ev_load_agg_i (lr _) ty110 (Nat.le_of_ble_eq_true rfl)) ?_
     refine sq_alloc rfl z110 ?_
     refine sq_store rfl (lr _) (lr _) rfl rfl ty110 rfl rfl ?_
     refine sq_nil (aw_seq (aw_region ?_))
     refine sq_ev rfl (ev_fieldAddr fo110_1 (lr _)) ?_
     refine sq_ev rfl (ev_load (lr _) rfl ty34 rfl) ?_
     refine sq_ev rfl (ev_mv (v := .raw _) (lr _)) ?_
     refine sq_ev rfl (ev_call en106 (lr _) (ncontains_nats (choicesC p)[j] k (by have := (choicesC_mem gp _ (List.getElem_mem hj')).len; omega)) ⟨lr _, lr _, trivial⟩) ?_
     refine sq_nil ?_
     refine aw_cond (lr _) (fun c5 => ?_) (fun c5 => ?_)
     ·
      have c5' := c5
      try simp only [qq1, qq2, qq3, qq4, qq5, qq6, qq7, qq8, qq9, qq10, qq11, qq12, qq13] at c5'
      have eC : (cntT p k j : Int) + 1 = cntT p k (j + 1) := by unfold cntT; rw [filter_take_succ _ hj', if_pos (by simpa using c5')]; simp
      refine aw_region ?_
      refine sq_ev rfl (ev_mv (v := .raw _) (lr _)) ?_
      refine sq_ev rfl (ev_add (lr _) (lr _) (wr (by omega) (by omega))) ?_
      refine sq_ev rfl (ev_as (v := .raw _) (lr _)) ?_
      refine sq_nil (aw_region ?_)
      refine sq_ev rfl (ev_add (lr _) (lr _) (wr (by omega) (by omega))) ?_
      refine sq_ev rfl (ev_mv (v := .raw _) (lr _)) ?_
      refine sq_nil ?_
      exact ⟨⟨j + 1, by omega⟩, by simp only; omega, Sub.fin 2 ⟨lr _, (by exact less_int eC), lr _, lr _, lr _, lr _, lr _, lr _, lr _, trivial⟩ rfl (by simp [slotsIn, objsIn, sget, keepS, AObj.inB, AV.inB, AV.inL, AV.inE, inE_map, inE_ints, inE_sc, -List.map_append, -List.map_take, -List.map_map]) (by simp [slotsIn, objsIn, sget, keepS, AObj.inB, AV.inB, AV.inL, AV.inE, inE_map, inE_ints, inE_sc, -List.map_append, -List.map_take, -List.map_map]) (by simp [he0])⟩
     ·
      have c5' := c5
      try simp only [qq1, qq2, qq3, qq4, qq5, qq6, qq7, qq8, qq9, qq10, qq11, qq12, qq13] at c5'
      have eC : (cntT p k j : Int) = cntT p k (j + 1) := by unfold cntT; rw [filter_take_succ _ hj', if_neg (by simpa using c5')]; simp
      refine aw_skip (aw_region ?_)
      refine sq_ev rfl (ev_add (lr _) (lr _) (wr (by omega) (by omega))) ?_
      refine sq_ev rfl (ev_mv (v := .raw _) (lr _)) ?_
      refine sq_nil ?_
      exact ⟨⟨j + 1, by omega⟩, by simp only; omega, Sub.fin 2 ⟨lr _, (by exact less_int eC), lr _, lr _, lr _, lr _, lr _, lr _, lr _, trivial⟩ rfl (by simp [slotsIn, objsIn, sget, keepS, AObj.inB, AV.inB, AV.inL, AV.inE, inE_map, inE_ints, inE_sc, -List.map_append, -List.map_take, -List.map_map]) (by simp [slotsIn, objsIn, sget, keepS, AObj.inB, AV.inB, AV.inL, AV.inE, inE_map, inE_ints, inE_sc, -List.map_append, -List.map_take, -List.map_map]) (by simp [he0])⟩
    ·
     have c4' := c4
     try simp only [qq1, qq2, qq3, qq4, qq5, qq6, qq7, qq8, qq9, qq10, qq11, qq12, qq13] at c4'
     obtain rfl : j = (choicesC p).length := by omega
     refine aw_exit (aw_seq (aw_region ?_))
     refine sq_ev rfl (ev_mv (v := .raw _) (lr _)) ?_
     refine sq_nil (aw_block (aw_seq (aw_region ?_)))
     refine sq_ev rfl (ev_eql (lr _) (lr _)) ?_
     refine sq_ev rfl (ev_as (v := .raw _) (lr _)) ?_
     refine sq_nil ?_
     refine aw_cond (lr _) (fun c6 => ?_) (fun c6 => ?_)
     ·
      have c6' := c6
      try simp only [qq1, qq2, qq3, qq4, qq5, qq6, qq7, qq8, qq9, qq10, qq11, qq12, qq13] at c6'
      have eS : (wordsT p (k + 1)).map (fun x => [I x]) = (wordsT p k).map (fun x => [I x]) ++ [[I 1]] := by rw [wordsT_succ, List.map_append, word, if_pos (by show cntT p k _ = 0; omega)]; rfl
      refine aw_region ?_
      refine sq_ev rfl (ev_mv (v := .own _ _ _) (lr _)) ?_
      refine sq_ev rfl (ev_buildSlice (es := [[_]]) sf57 rfl rfl rfl rfl) ?_
      refine sq_append rfl sf57 Tryz.underlying57 rfl rfl (less_slx _ _) (Nat.succ_pos _) (by simp; omega) (by simp; omega) ?_
      refine sq_ev rfl (ev_as (v := .own _ _ _) (lr _)) ?_
      refine sq_nil (aw_region ?_)
      refine sq_ev rfl (ev_add (lr _) (lr _) (wr (by omega) (by omega))) ?_
      refine sq_ev rfl (ev_mv (v := .raw _) (lr _)) ?_
      refine sq_nil ?_
      exact ⟨⟨k + 1, by omega⟩, by simp only; omega, Sub.fin 2 ⟨lr _, Less.eq (b := .own 1 1 ((wordsT p (k + 1)).map fun x => [I x])) (by rw [eS] <;> rfl), lr _, lr _, trivial⟩ (congrArg (fun n => [_, AObj.tok n]) (congrArg List.length eS.symm)) (by simp [slotsIn, objsIn, sget, keepS, AObj.inB, AV.inB, AV.inL, AV.inE, inE_map, inE_ints, inE_sc, -List.map_append, -List.map_take, -List.map_map]) (by simp [slotsIn, objsIn, sget, keepS, AObj.inB, AV.inB, AV.inL, AV.inE, inE_map, inE_ints, inE_sc, -List.map_append, -List.map_take, -List.map_map]) (by simp [he0])⟩
     ·
      have c6' := c6
      try simp only [qq1, qq2, qq3, qq4, qq5, qq6, qq7, qq8, qq9, qq10, qq11, qq12, qq13] at c6'
      refine aw_seq (aw_region ?_)
      refine sq_ev rfl (ev_mv (v := .sl _ _) (lr _)) ?_
      refine sq_ev rfl (ev_len_map sl107 (lr _)) ?_
      refine sq_ev rfl (ev_eql (lr _) (lr _)) ?_
      refine sq_ev rfl (ev_as (v := .raw _) (lr _)) ?_
      refine sq_nil ?_
      refine aw_cond (lr _) (fun c7 => ?_) (fun c7 => ?_)
      ·
       have c7' := c7
       try simp only [qq1, qq2, qq3, qq4, qq5, qq6, qq7, qq8, qq9, qq10, qq11, qq12, qq13] at c7'
       have eS : (wordsT p (k + 1)).map (fun x => [I x]) = (wordsT p k).map (fun x => [I x]) ++ [[I 3]] := by rw [wordsT_succ, List.map_append, word, if_neg (by show ¬ cntT p k _ = 0; omega), if_pos (by show cntT p k _ = _; omega)]; rfl
       refine aw_region ?_
       refine sq_ev rfl (ev_mv (v := .own _ _ _) (lr _)) ?_
       refine sq_ev rfl (ev_buildSlice (es := [[_]]) sf57 rfl rfl rfl rfl) ?_
       refine sq_append rfl sf57 Tryz.underlying57 rfl rfl (less_slx _ _) (Nat.succ_pos _) (by simp; omega) (by simp; omega) ?_
       refine sq_ev rfl (ev_as (v := .own _ _ _) (lr _)) ?_
       refine sq_nil (aw_region ?_)
       refine sq_ev rfl (ev_add (lr _) (lr _) (wr (by omega) (by omega))) ?_
       refine sq_ev rfl (ev_mv (v := .raw _) (lr _)) ?_
       refine sq_nil ?_
       exact ⟨⟨k + 1, by omega⟩, by simp only; omega, Sub.fin 2 ⟨lr _, Less.eq (b := .own 1 1 ((wordsT p (k + 1)).map fun x => [I x])) (by rw [eS] <;> rfl), lr _, lr _, trivial⟩ (congrArg (fun n => [_, AObj.tok n]) (congrArg List.length eS.symm)) (by simp [slotsIn, objsIn, sget, keepS, AObj.inB, AV.inB, AV.inL, AV.inE, inE_map, inE_ints, inE_sc, -List.map_append, -List.map_take, -List.map_map]) (by simp [slotsIn, objsIn, sget, keepS, AObj.inB, AV.inB, AV.inL, AV.inE, inE_map, inE_ints, inE_sc, -List.map_append, -List.map_take, -List.map_map]) (by simp [he0])⟩
      ·
       have c7' := c7
       try simp only [qq1, qq2, qq3, qq4, qq5, qq6, qq7, qq8, qq9, qq10, qq11, qq12, qq13] at c7'
       have eS : (wordsT p (k + 1)).map (fun x => [I x]) = (wordsT p k).map (fun x => [I x]) ++ [[I 2]] := by rw [wordsT_succ, List.map_append, word, if_neg (by show ¬ cntT p k _ = 0; omega), if_neg (by show ¬ cntT p k _ = _; omega)]; rfl
       refine aw_region ?_
       refine sq_ev rfl (ev_mv (v := .own _ _ _) (lr _)) ?_
       refine sq_ev rfl (ev_buildSlice (es := [[_]]) sf57 rfl rfl rfl rfl) ?_
       refine sq_append rfl sf57 Tryz.underlying57 rfl rfl (less_slx _ _) (Nat.succ_pos _) (by simp; omega) (by simp; omega) ?_
       refine sq_ev rfl (ev_as (v := .own _ _ _) (lr _)) ?_
       refine sq_nil (aw_region ?_)
       refine sq_ev rfl (ev_add (lr _) (lr _) (wr (by omega) (by omega))) ?_
       refine sq_ev rfl (ev_mv (v := .raw _) (lr _)) ?_
       refine sq_nil ?_
       exact ⟨⟨k + 1, by omega⟩, by simp only; omega, Sub.fin 2 ⟨lr _, Less.eq (b := .own 1 1 ((wordsT p (k + 1)).map fun x => [I x])) (by rw [eS] <;> rfl), lr _, lr _, trivial⟩ (congrArg (fun n => [_, AObj.tok n]) (congrArg List.length eS.symm)) (by simp [slotsIn, objsIn, sget, keepS, AObj.inB, AV.inB, AV.inL, AV.inE, inE_map, inE_ints, inE_sc, -List.map_append, -List.map_take, -List.map_map]) (by simp [slotsIn, objsIn, sget, keepS, AObj.inB, AV.inB, AV.inL, AV.inE, inE_map, inE_ints, inE_sc, -List.map_append, -List.map_take, -List.map_map]) (by simp [he0])⟩
   ·
    have c3' := c3
    try simp only [qq1, qq2, qq3, qq4, qq5, qq6, qq7, qq8, qq9, qq10, qq11, qq12, qq13] at c3'
    obtain rfl : k = p.scenes.length := by omega
    refine aw_exit (aw_seq (aw_region ?_))
    refine sq_ev rfl (ev_mv (v := .own _ _ _) (lr _)) ?_
    refine sq_ev rfl (ev_as (v := .own _ _ _) (lr _)) ?_
    refine sq_ev rfl (ev_as (v := .raw _) (lr _)) ?_
    refine sq_nil (aw_ret ?_)
    exact retQ_pure (v := .tup [.own _ _ _, .raw _]) rfl rfl (Less.trans (b := .tup [ints (wordsT p p.scenes.length), I 0]) (less_tup ⟨Less.trans (less_own _ _ _) (Less.eq (by rfl)), lr _, trivial⟩) (Less.eq (by rw [playedAV, if_pos c1', if_neg (by omega)])))


end Go.Proofs.YtjghdbdiejaacaaGreatDoor

namespace Go.Proofs.YtjghdbdiejaacaaGreatDoor
open Go Go.Ab Ni
theorem en100 : Ent Tryz.prog 100 := Ent.of Tryz.func100 (by kernel_rfl) rfl
theorem en97 : Ent Tryz.prog 97 := Ent.of Tryz.func97 (by kernel_rfl) rfl
theorem sf43 : SlFact Tryz.prog 43 23 2 16 := SlFact.of (by kernel_rfl)

theorem cells2 {x y : AObj} {a a' b b' : Int} (h : a = a') (k : b = b') : [x, y, AObj.cells [I a, I b]] = [x, y, .cells [I a', I b']] := by rw [h, k]
set_option maxHeartbeats 2000000 in
/-- kelir/night.Ends -/
theorem nEnds_pure (p : Pl) (hl0 : p.scenes.length ≤ 1000000) : APure Tryz.prog 31 [plan p] (endsAV p) := by
  refine apure_of (rs := [.tmp 2, .tmp 3]) Tryz.func31 rfl rfl (Nat.le_of_ble_eq_true rfl) (by simp [AV.pureL, AV.pureB, AV.pureE, pureE_map]) (endsAV_pure p) fun e0 he0 => ?_
  refine aw_seq (aw_region ?_)
  refine sq_box rfl (lr _) rfl ?_
  refine sq_ev rfl (ev_as (v := .raw _) (lr _)) ?_
  refine sq_ev rfl (ev_as (v := .raw _) (lr _)) ?_
  refine sq_nil (aw_seq (aw_seq (aw_region ?_)))
  refine sq_ev rfl (ev_load_agg (lr _) rfl ty27 rfl) ?_
  refine sq_ev rfl (ev_call en85 (lr _) (isplan_pure p hl0) ⟨lr _, trivial⟩) ?_
  refine sq_ev rfl (ev_not (lr _)) ?_
  refine sq_nil ?_
  refine aw_cond (lr _) (fun c1 => ?_) (fun c1 => ?_)
  · skip
    have c1' := c1
    try simp only [qq1, qq2, qq3, qq4, qq5, qq6, qq7, qq8, qq9, qq10, qq11, qq12, qq13] at c1'
    refine aw_seq (aw_region ?_)
    refine sq_ev rfl (ev_as (v := .raw _) (lr _)) ?_
    refine sq_ev rfl (ev_as (v := .raw _) (lr _)) ?_
    refine sq_nil (aw_ret ?_)
    exact retQ_pure (v := .tup [.raw _, .raw _]) rfl rfl (Less.trans (b := .tup [.sl 2 [], I 2]) (less_tup ⟨less_nil 2, lr _, trivial⟩) (Less.eq (by simp [endsAV, c1'])))
  · skip
    have c1' := c1
    try simp only [qq1, qq2, qq3, qq4, qq5, qq6, qq7, qq8, qq9, qq10, qq11, qq12, qq13] at c1'
    obtain ⟨gp, wp⟩ := gp_of_ok c1'
    refine aw_skip (aw_seq (aw_region ?_))
    refine sq_ev rfl (ev_load_agg (lr _) rfl ty27 rfl) ?_
    refine sq_ev rfl (ev_call en86 (lr _) (nplayablew_pure gp wp) ⟨lr _, trivial⟩) ?_
    refine sq_ev rfl (ev_as (v := .sl _ _) (lr _)) ?_
    refine sq_nil (aw_seq (aw_seq (aw_region ?_)))
    refine sq_ev rfl (ev_mv (v := .sl _ _) (lr _)) ?_
    refine sq_ev rfl (ev_len_map sl107 (lr _)) ?_
    refine sq_ev rfl (ev_eql (lr _) (lr _)) ?_
    refine sq_nil ?_
    refine aw_cond (lr _) (fun c2 => ?_) (fun c2 => ?_)
    · skip
      have c2' := c2
      try simp only [qq1, qq2, qq3, qq4, qq5, qq6, qq7, qq8, qq9, qq10, qq11, qq12, qq13] at c2'
      refine aw_seq (aw_region ?_)
      refine sq_ev rfl (ev_as (v := .raw _) (lr _)) ?_
      refine sq_ev rfl (ev_as (v := .raw _) (lr _)) ?_
      refine sq_nil (aw_ret ?_)
      exact retQ_pure (v := .tup [.raw _, .raw _]) rfl rfl (Less.trans (b := .tup [.sl 2 [], I 7]) (less_tup ⟨less_nil 2, lr _, trivial⟩) (Less.eq (by rw [endsAV, if_pos c1', if_pos (by omega)])))
    · skip
      have c2' := c2
      try simp only [qq1, qq2, qq3, qq4, qq5, qq6, qq7, qq8, qq9, qq10, qq11, qq12, qq13] at c2'
      refine aw_skip (aw_seq (aw_region ?_))
      refine sq_ev rfl (ev_as (v := .raw _) (lr _)) ?_
      refine sq_nil (aw_seq (aw_seq (aw_region ?_)))
      refine sq_ev rfl (ev_mv (v := .raw _) (lr _)) ?_
      refine sq_nil (aw_block ?_)
      refine aw_sub (sub_token 5 2 (lr _)) ?_
      refine aw_loopk (ι := { k : Nat // k ≤ 3 }) [4] (fun i => [(18, I i.1), (5, .own 1 2 ((endsT p i.1).map fun (x : Int × Int) => [I x.1, I x.2]))]) (fun H i => H.set 1 (.tok ((endsT p i.1).map fun (x : Int × Int) => [I x.1, I x.2]).length)) (fun i => 3 - i.1) (⟨0, Nat.zero_le _⟩) ⟨lr _, lr _, lr _, trivial⟩ rfl ?_
      rintro ⟨k, hk⟩
      dsimp only [keepS, St.put, sget, slotsOf, List.map_cons, List.map_nil, List.cons_append, List.nil_append, List.length_cons, List.length_nil, Nat.reduceBEq, Nat.reduceAdd, cond_true, cond_false]
      have hcl := choicesC_len gp
      have hwl := endsT_len p k
      refine aw_seq (aw_region ?_)
      refine sq_ev rfl (ev_lss (lr _) (lr _)) ?_
      refine sq_nil (aw_seq ?_)
      refine aw_cond (lr _) (fun c3 => ?_) (fun c3 => ?_)
      · skip
        have c3' := c3
        try simp only [qq1, qq2, qq3, qq4, qq5, qq6, qq7, qq8, qq9, qq10, qq11, qq12, qq13] at c3'
        have hk3 : k < 3 := by omega
        refine aw_skip (aw_seq (aw_block (aw_seq (aw_region ?_))))
        refine sq_ev rfl (ev_mv (v := .raw _) (lr _)) ?_
        refine sq_ev rfl (ev_as (v := .raw _) (lr _)) ?_
        refine sq_nil (aw_seq (aw_region ?_))
        refine sq_alloc rfl z23 ?_
        refine sq_nil (aw_seq (aw_seq (aw_region ?_)))
        refine sq_ev rfl (ev_mv (v := .sl _ _) (lr _)) ?_
        refine sq_ev rfl (ev_len_map sl107 (lr _)) ?_
        refine sq_ev rfl (ev_mv (v := .raw _) (lr _)) ?_
        refine sq_nil (aw_block ?_)
        refine aw_loopk (ι := { j : Nat // j ≤ (choicesC p).length }) [4, 5, 6, 7, 18, 21, 22] (fun i => [(23, I i.1)]) (fun H i => H.set 2 (.cells [I (endT p k i.1).1, I (endT p k i.1).2])) (fun i => (choicesC p).length - i.1) (⟨0, Nat.zero_le _⟩) ⟨lr _, lr _, lr _, lr _, lr _, lr _, lr _, lr _, trivial⟩ rfl ?_
        rintro ⟨j, hj⟩
        dsimp only [keepS, St.put, sget, slotsOf, List.map_cons, List.map_nil, List.cons_append, List.nil_append, List.length_cons, List.length_nil, Nat.reduceBEq, Nat.reduceAdd, cond_true, cond_false]
        refine aw_seq (aw_region ?_)
        refine sq_ev rfl (ev_lss (lr _) (lr _)) ?_
        refine sq_nil (aw_seq ?_)
        refine aw_cond (lr _) (fun c4 => ?_) (fun c4 => ?_)
        · skip
          have c4' := c4
          try simp only [qq1, qq2, qq3, qq4, qq5, qq6, qq7, qq8, qq9, qq10, qq11, qq12, qq13] at c4'
          have hj' : j < (choicesC p).length := by omega
          have hm := List.getElem_mem hj'
          have cv := choicesC_mem gp _ hm
          have hff := can_fwd gp wp hm
          have eW := wdT_succ (endV p k) hj'
          rw [show wd (((choicesC p).take (j + 1)).map (endV p k)) = endT p k (j + 1) from rfl, show wd (((choicesC p).take j).map (endV p k)) = endT p k j from rfl] at eW
          have eW1 : (if decide ((j : Int) > 0) = true then min (endT p k j).1 (endV p k (choicesC p)[j]).1 else (endV p k (choicesC p)[j]).1) = (endT p k (j + 1)).1 := by rw [eW]; by_cases h : 0 < j <;> simp [h]
          have eW2 : (if decide ((j : Int) > 0) = true then max (endT p k j).2 (endV p k (choicesC p)[j]).2 else (endV p k (choicesC p)[j]).2) = (endT p k (j + 1)).2 := by rw [eW]; by_cases h : 0 < j <;> simp [h]
          refine aw_skip (aw_seq (aw_block (aw_seq (aw_region ?_))))
          refine sq_ev rfl (ev_mv (v := .raw _) (lr _)) ?_
          refine sq_ev rfl (ev_index_map sl107 (lr _) (lr _) rfl (by omega)) ?_
          refine sq_ev rfl (ev_load_agg_i (lr _) ty110 (Nat.le_of_ble_eq_true rfl)) ?_
          refine sq_alloc rfl z110 ?_
          refine sq_ev rfl (ev_as (v := .raw _) (lr _)) ?_
          refine sq_store rfl (lr _) (lr _) rfl rfl ty110 rfl rfl ?_
          refine sq_nil ?_
          refine aw_draw 14 mo (by kernel_rfl) ?_
          refine dr_ev rfl (ev_load_agg (lr _) rfl ty23 rfl) ?_
          refine dr_ev rfl (ev_mv (v := .raw _) (lr _)) ?_
          refine dr_ev rfl (ev_gtr (lr _) (lr _)) ?_
          refine dr_ev rfl (ev_load_agg (lr _) rfl ty110 rfl) ?_
          refine dr_ev rfl (ev_call en99 (lr _) (nforward_pure p _ gp cv hff) ⟨lr _, trivial⟩) ?_
          refine dr_ev rfl (ev_mv (v := .raw _) (lr _)) ?_
          refine dr_ev rfl (ev_add (lr _) (lr _) (wr (by omega) (by omega))) ?_
          refine dr_ev rfl (ev_less (ev_indexv_agg (k := k + 1) ar118 ty23 (lr _) (lr _) (by omega) (by omega)) (Less.eq (b := .agg [I (fw p (choicesC p)[j] (k + 1)).1, I (fw p (choicesC p)[j] (k + 1)).2]) (by rcases k with _ | _ | _ | k <;> first | rfl | omega))) ?_
          refine dr_ev rfl (ev_load_agg (lr _) rfl ty110 rfl) ?_
          refine dr_ev rfl (ev_call en100 (lr _) (nbackward_pure p _ gp cv) ⟨lr _, trivial⟩) ?_
          refine dr_ev rfl (ev_mv (v := .raw _) (lr _)) ?_
          refine dr_ev rfl (ev_less (ev_indexv_agg (k := k) ar120 ty23 (lr _) (lr _) (by omega) (by omega)) (Less.eq (b := .agg [I (bw p (choicesC p)[j] (2 - k)).1, I (bw p (choicesC p)[j] (2 - k)).2]) (by rcases k with _ | _ | _ | k <;> first | rfl | omega))) ?_
          refine dr_ev rfl (ev_call en98 (lr _) (nboth_pure _ _ _ _) ⟨lr _, lr _, trivial⟩) ?_
          refine dr_ev rfl (ev_call en97 (lr _) (nwiders_pure _ _ _ _ _) ⟨lr _, lr _, lr _, trivial⟩) ?_
          refine dr_end ?_
          refine sq_store rfl (lr _) (lr _) rfl rfl ty23 rfl rfl ?_
          refine sq_nil (aw_region ?_)
          refine sq_ev rfl (ev_add (lr _) (lr _) (wr (by omega) (by omega))) ?_
          refine sq_ev rfl (ev_mv (v := .raw _) (lr _)) ?_
          refine sq_nil ?_
          exact ⟨⟨j + 1, by omega⟩, by simp only; omega, Sub.fin 3 ⟨lr _, lr _, lr _, lr _, lr _, lr _, lr _, lr _, trivial⟩ (cells2 eW1 eW2) (by simp [slotsIn, objsIn, sget, keepS, AObj.inB, AV.inB, AV.inL, AV.inE, inE_map, inE_ints, inE_sc, -List.map_append, -List.map_take, -List.map_map]) (by simp [slotsIn, objsIn, sget, keepS, AObj.inB, AV.inB, AV.inL, AV.inE, inE_map, inE_ints, inE_sc, -List.map_append, -List.map_take, -List.map_map]) (by simp [he0])⟩
        · skip
          have c4' := c4
          try simp only [qq1, qq2, qq3, qq4, qq5, qq6, qq7, qq8, qq9, qq10, qq11, qq12, qq13] at c4'
          obtain rfl : j = (choicesC p).length := by omega
          have eS : (endsT p (k + 1)).map (fun (x : Int × Int) => [I x.1, I x.2]) = (endsT p k).map (fun (x : Int × Int) => [I x.1, I x.2]) ++ [[I (endT p k (choicesC p).length).1, I (endT p k (choicesC p).length).2]] := by rw [endsT_succ, List.map_append]; rfl
          refine aw_exit (aw_region ?_)
          refine sq_ev rfl (ev_mv (v := .own _ _ _) (lr _)) ?_
          refine sq_ev rfl (ev_load_agg (lr _) rfl ty23 rfl) ?_
          refine sq_ev rfl (ev_buildSlice (es := [[_, _]]) sf43 rfl rfl rfl rfl) ?_
          refine sq_append rfl sf43 Tryz.underlying43 rfl rfl (less_slx _ _) (Nat.succ_pos _) (by simp; omega) (by simp; omega) ?_
          refine sq_ev rfl (ev_as (v := .own _ _ _) (lr _)) ?_
          refine sq_nil (aw_region ?_)
          refine sq_ev rfl (ev_add (lr _) (lr _) (wr (by omega) (by omega))) ?_
          refine sq_ev rfl (ev_mv (v := .raw _) (lr _)) ?_
          refine sq_nil ?_
          exact ⟨⟨k + 1, by omega⟩, by simp only; omega, Sub.fin 2 ⟨lr _, Less.eq (b := .own 1 2 ((endsT p (k + 1)).map fun (x : Int × Int) => [I x.1, I x.2])) (by rw [eS] <;> rfl), lr _, trivial⟩ (congrArg (fun n => [_, AObj.tok n]) (congrArg List.length eS.symm)) (by simp [slotsIn, objsIn, sget, keepS, AObj.inB, AV.inB, AV.inL, AV.inE, inE_map, inE_ints, inE_sc, -List.map_append, -List.map_take, -List.map_map]) (by simp [slotsIn, objsIn, sget, keepS, AObj.inB, AV.inB, AV.inL, AV.inE, inE_map, inE_ints, inE_sc, -List.map_append, -List.map_take, -List.map_map]) (by simp [he0])⟩
      · skip
        have c3' := c3
        try simp only [qq1, qq2, qq3, qq4, qq5, qq6, qq7, qq8, qq9, qq10, qq11, qq12, qq13] at c3'
        obtain rfl : k = 3 := by omega
        refine aw_exit (aw_seq (aw_region ?_))
        refine sq_ev rfl (ev_mv (v := .own _ _ _) (lr _)) ?_
        refine sq_ev rfl (ev_as (v := .own _ _ _) (lr _)) ?_
        refine sq_ev rfl (ev_as (v := .raw _) (lr _)) ?_
        refine sq_nil (aw_ret ?_)
        exact retQ_pure (v := .tup [.own _ _ _, .raw _]) rfl rfl (Less.trans (b := .tup [spans (endsT p 3), I 0]) (less_tup ⟨Less.trans (less_own _ _ _) (Less.eq (by rfl)), lr _, trivial⟩) (Less.eq (by rw [endsAV, if_pos c1', if_neg (by omega)])))


end Go.Proofs.YtjghdbdiejaacaaGreatDoor

namespace Go.Proofs.YtjghdbdiejaacaaGreatDoor
open Go Go.Ab Ni
theorem en127 : Ent Tryz.prog 127 := Ent.of Tryz.func127 (by kernel_rfl) rfl
theorem en128 : Ent Tryz.prog 128 := Ent.of Tryz.func128 (by kernel_rfl) rfl
theorem en129 : Ent Tryz.prog 129 := Ent.of Tryz.func129 (by kernel_rfl) rfl
theorem en130 : Ent Tryz.prog 130 := Ent.of Tryz.func130 (by kernel_rfl) rfl
theorem en158 : Ent Tryz.prog 158 := Ent.of Tryz.func158 (by kernel_rfl) rfl
theorem en159 : Ent Tryz.prog 159 := Ent.of Tryz.func159 (by kernel_rfl) rfl
theorem ty30 : tySz Tryz.prog 30 = some (false, 1) := by kernel_rfl

def missAV (p : Pl) : AV := if PlOK p = true then (match missed p with | some h => .tup [ints h, I 0] | none => .tup [.sl 1 [], I 5]) else .tup [.sl 1 [], I 2]
theorem missAV_pure (p : Pl) : (missAV p).pureB = true := by unfold missAV; (repeat' split) <;> simp [AV.pureB, AV.pureL, AV.pureE, pureE_map]
theorem idx_any (L : List (List Nat)) (q : List Nat → Bool) : (AV.raw (Value.bool (decide ((0 : Int) ≤ (match L.findIdx? q with | some i => (i : Int) | none => -1))))) = B (L.any q) := by
  congr 2
  rw [Bool.eq_iff_iff, decide_eq_true_eq, List.any_eq_true]
  cases h : L.findIdx? q with
  | none =>
    rw [List.findIdx?_eq_none_iff] at h
    simp only
    constructor
    · intro k; omega
    · rintro ⟨x, hx, hq⟩; have := h x hx; rw [hq] at this; cases this
  | some i =>
    rw [List.findIdx?_eq_some_iff_getElem] at h
    obtain ⟨h1, h2, _⟩ := h
    simp only
    exact ⟨fun _ => ⟨_, List.getElem_mem h1, h2⟩, fun _ => by omega⟩
set_option maxHeartbeats 2000000 in
/-- slices.AppendSeq[[][]int,[]int] -/
theorem ncollect1_pure (p : Pl) (gp : GP p) : APure Tryz.prog 158 [.raw (.slice none 0 0), .fn (.func 155) [] [.iptr (planC p)]] (natss (allC p)) := by
  refine apure_of_marks (rs := [.tmp 4]) Tryz.func158 rfl rfl (Nat.le_of_ble_eq_true rfl) (by simp [AV.pureL, AV.pureB, AV.pureE, pureE_map]) (by simp [AV.pureL, AV.pureB, AV.pureE, pureE_map]) fun e0 he0 => ?_
  refine aw_seq (aw_region ?_)
  refine sq_box rfl (lr _) rfl ?_
  refine sq_ev rfl (ev_as (v := .raw _) (lr _)) ?_
  refine sq_nil (aw_seq (aw_seq (aw_region ?_)))
  refine sq_ev rfl (ev_mv (v := .fn _ _ _) (lr _)) ?_
  refine sq_nil (aw_block ?_)
  refine aw_sub (sub_token_box 0 1 rfl) ?_
  refine aw_rangeFunc1 (xs := (allC p).map nats) (fun k => [.cells [.own 1 1 (((allC p).take k).map (fun x => [nats x]))], .tok (((allC p).take k).map (fun x => [nats x])).length]) ((allC p).map nats).length none (Nat.le_refl _) (fun _ => rfl) (fun h => absurd rfl h) rfl rfl (lr _) en155 (nchoices_iter gp) rfl (fun _ => rfl) (fun k hk => by show objsIn 2 _ = true; simp [objsIn, AObj.inB, AV.inB, AV.inL, AV.inE, inE_map, inE_nats, -List.map_take, -List.map_map, -List.map_append]) (fun x hx => by obtain ⟨y, _, rfl⟩ := List.mem_map.1 hx; simp [AV.pureB, AV.pureL, AV.pureE, pureE_map]) rfl rfl ?_ ?_
  · intro l i x e0 hi hx he0
    obtain ⟨y, hy, rfl⟩ := xs_get hx
    obtain ⟨hk', he'⟩ := get_eq hy
    have hal := allC_len gp
    have eS : ((allC p).take (i + 1)).map (fun x => [nats x]) = ((allC p).take i).map (fun x => [nats x]) ++ [[nats y]] := by rw [map_take_succ _ hk', he']
    dsimp only [keepS, St.put, sget, slotsOf, List.map_cons, List.map_nil, List.cons_append, List.nil_append, List.length_cons, List.length_nil, Nat.reduceBEq, Nat.reduceAdd, cond_true, cond_false]
    refine aw_block (aw_region ?_)
    refine sq_ev rfl (ev_load (lr _) rfl ty30 rfl) ?_
    refine sq_ev rfl (ev_mv (v := .sl _ _) (lr _)) ?_
    refine sq_ev rfl (ev_buildSlice (es := [[_]]) sf30 rfl rfl rfl rfl) ?_
    refine sq_append rfl sf30 Tryz.underlying30 rfl rfl (less_slx _ _) (Nat.succ_pos _) (by simp; omega) (by simp; omega) ?_
    refine sq_store rfl (lr _) (lr _) rfl rfl ty30 rfl rfl ?_
    refine sq_nil ?_
    exact ⟨⟨[], congrArg (fun L => [AObj.cells [.own 1 1 L], .tok L.length]) eS.symm⟩, rfl, by split <;> rfl⟩
  · rintro _ rfl
    refine aw_seq (aw_region ?_)
    refine sq_ev rfl (ev_load (lr _) rfl ty30 rfl) ?_
    refine sq_ev rfl (ev_as (v := .own _ _ _) (lr _)) ?_
    refine sq_nil (aw_ret ?_)
    exact retQM_pure (v := .own _ _ _) rfl rfl (Less.trans (less_own _ _ _) (Less.eq (by simp)))

set_option maxHeartbeats 400000 in
/-- slices.Collect[[]int] -/
theorem ncollect_pure (p : Pl) (gp : GP p) : APure Tryz.prog 127 [.fn (.func 155) [] [.iptr (planC p)]] (natss (allC p)) := by
 refine apure_of (rs := [.tmp 2]) Tryz.func127 rfl rfl (Nat.le_of_ble_eq_true rfl) (by simp [AV.pureL, AV.pureB, AV.pureE, pureE_map]) (by simp [AV.pureL, AV.pureB, AV.pureE, pureE_map]) fun e0 he0 => ?_
 refine aw_seq (aw_region ?_)
 refine sq_ev rfl (ev_as (v := .raw _) (lr _)) ?_
 refine sq_nil (aw_seq (aw_region ?_))
 refine sq_ev rfl (ev_mv (v := .fn _ _ _) (lr _)) ?_
 refine sq_ev rfl (ev_call en158 (lr _) (ncollect1_pure p gp) ⟨lr _, lr _, trivial⟩) ?_
 refine sq_ev rfl (ev_as (v := .sl _ _) (lr _)) ?_
 refine sq_nil (aw_ret ?_)
 exact retQ_pure (v := .sl _ _) rfl rfl (lr _)

set_option maxHeartbeats 400000 in
/-- kelir/night.Misses$1 -/
theorem nmissf_pure (p : Pl) (l : List Nat) (hs : List Int) (gp : GP p) (cv : CV p l) (hb : ∀ x ∈ hs, -1000000000 ≤ x ∧ x ≤ 1000000000) (hl : hs.length ≤ 1000000) : APure Tryz.prog 129 [nats l, .iptr (planC p), .iptr [ints hs]] (B (fitsP p l hs)) := by
 refine apure_of (rs := [.tmp 4]) Tryz.func129 rfl rfl (Nat.le_of_ble_eq_true rfl) (by simp [AV.pureL, AV.pureB, AV.pureE, pureE_map]) (rfl) fun e0 he0 => ?_
 refine aw_seq (aw_region ?_)
 refine sq_ev rfl (ev_as (v := .raw _) (lr _)) ?_
 refine sq_nil (aw_seq (aw_region ?_))
 refine sq_ev rfl (ev_load_agg_i (lr _) ty27 (Nat.le_of_ble_eq_true rfl)) ?_
 refine sq_ev rfl (ev_mv (v := .sl _ _) (lr _)) ?_
 refine sq_ev rfl (ev_build bi110 rfl) ?_
 refine sq_ev rfl (ev_load_i (lr _) ty34 rfl) ?_
 refine sq_ev rfl (ev_call en130 (lr _) (nfits_pure p l hs gp cv hb hl) ⟨lr _, lr _, trivial⟩) ?_
 refine sq_ev rfl (ev_as (v := .raw _) (lr _)) ?_
 refine sq_nil (aw_ret ?_)
 exact retQ_pure (v := .raw _) rfl rfl (lr _)

set_option maxHeartbeats 400000 in
/-- slices.IndexFunc[[][]int,[]int] -/
theorem nindexf_pure (p : Pl) (hs : List Int) (gp : GP p) (hb : ∀ x ∈ hs, -1000000000 ≤ x ∧ x ≤ 1000000000) (hl : hs.length ≤ 1000000) (L : List (List Nat)) (cv : ∀ l ∈ L, CV p l) (hL : L.length ≤ 2000000) : APure Tryz.prog 159 [natss L, .fn (.func 129) [] [.iptr (planC p), .iptr [ints hs]]] (I (match L.findIdx? (fun l => fitsP p l hs) with | some i => (i : Int) | none => -1)) := by
 refine apure_of (rs := [.tmp 4]) Tryz.func159 rfl rfl (Nat.le_of_ble_eq_true rfl) (by simp [AV.pureL, AV.pureB, AV.pureE, pureE_map]) (rfl) fun e0 he0 => ?_
 refine aw_seq (aw_region ?_)
 refine sq_ev rfl (ev_as (v := .raw _) (lr _)) ?_
 refine sq_nil (aw_seq (aw_seq (aw_region ?_)))
 refine sq_ev rfl (ev_mv (v := .sl _ _) (lr _)) ?_
 refine sq_ev rfl (ev_len_map sl30 (lr _)) ?_
 refine sq_ev rfl (ev_mv (v := .raw _) (lr _)) ?_
 refine sq_nil (aw_block ?_)
 refine aw_loopk (ι := { k : Nat // k ≤ L.length ∧ ∀ i, (h : i < L.length) → i < k → ¬ fitsP p L[i] hs = true }) [0, 1, 7] (fun i => [(8, I i.1)]) (fun H i => H) (fun i => L.length - i.1) (⟨0, Nat.zero_le _, by omega⟩) ⟨lr _, lr _, lr _, lr _, trivial⟩ rfl ?_
 rintro ⟨k, hk, hno⟩
 dsimp only [keepS, St.put, sget, slotsOf, List.map_cons, List.map_nil, List.cons_append, List.nil_append, List.length_cons, List.length_nil, Nat.reduceBEq, Nat.reduceAdd, cond_true, cond_false]
 refine aw_seq (aw_region ?_)
 refine sq_ev rfl (ev_lss (lr _) (lr _)) ?_
 refine sq_nil (aw_seq ?_)
 refine aw_cond (lr _) (fun c1 => ?_) (fun c1 => ?_)
 ·
  have c1' := c1
  try simp only [qq1, qq2, qq3, qq4, qq5, qq6, qq7, qq8, qq9, qq10, qq11, qq12, qq13] at c1'
  have hk' : k < L.length := by omega
  refine aw_skip (aw_seq (aw_block (aw_seq (aw_region ?_))))
  refine sq_ev rfl (ev_mv (v := .raw _) (lr _)) ?_
  refine sq_ev rfl (ev_as (v := .raw _) (lr _)) ?_
  refine sq_nil (aw_seq (aw_region ?_))
  refine sq_ev rfl (ev_mv (v := .fn _ _ _) (lr _)) ?_
  refine sq_ev rfl (ev_mv (v := .sl _ _) (lr _)) ?_
  refine sq_ev rfl (ev_mv (v := .raw _) (lr _)) ?_
  refine sq_ev rfl (ev_index_map sl30 (lr _) (lr _) rfl (by omega)) ?_
  refine sq_ev rfl (ev_load_i (lr _) ty34 rfl) ?_
  refine sq_ev rfl (ev_call en129 (lr _) (nmissf_pure p L[k] hs gp (cv _ (List.getElem_mem hk')) hb hl) ⟨lr _, lr _, lr _, trivial⟩) ?_
  refine sq_nil ?_
  refine aw_cond (lr _) (fun c2 => ?_) (fun c2 => ?_)
  ·
   have c2' := c2
   try simp only [qq1, qq2, qq3, qq4, qq5, qq6, qq7, qq8, qq9, qq10, qq11, qq12, qq13] at c2'
   refine aw_seq (aw_region ?_)
   refine sq_ev rfl (ev_mv (v := .raw _) (lr _)) ?_
   refine sq_ev rfl (ev_as (v := .raw _) (lr _)) ?_
   refine sq_nil (aw_ret ?_)
   exact retQ_pure (v := .raw _) rfl rfl (Less.eq (by rw [List.findIdx?_eq_some_iff_getElem.2 ⟨hk', by simpa using c2', fun j hj => by simpa using hno j (by omega) hj⟩]))
  ·
   have c2' := c2
   try simp only [qq1, qq2, qq3, qq4, qq5, qq6, qq7, qq8, qq9, qq10, qq11, qq12, qq13] at c2'
   refine aw_skip (aw_region ?_)
   refine sq_ev rfl (ev_add (lr _) (lr _) (wr (by omega) (by omega))) ?_
   refine sq_ev rfl (ev_mv (v := .raw _) (lr _)) ?_
   refine sq_nil ?_
   exact ⟨⟨k + 1, by omega, fun i h hi => (by by_cases e : i = k; (subst e; simpa using c2'); exact hno i h (by omega))⟩, by simp only; omega, Sub.slots ⟨lr _, lr _, lr _, lr _, trivial⟩⟩
 ·
  have c1' := c1
  try simp only [qq1, qq2, qq3, qq4, qq5, qq6, qq7, qq8, qq9, qq10, qq11, qq12, qq13] at c1'
  obtain rfl : k = L.length := by omega
  refine aw_exit (aw_seq (aw_region ?_))
  refine sq_ev rfl (ev_as (v := .raw _) (lr _)) ?_
  refine sq_nil (aw_ret ?_)
  exact retQ_pure (v := .raw _) rfl rfl (Less.eq (by rw [List.findIdx?_eq_none_iff.2 (fun x hx => by obtain ⟨i, hi, rfl⟩ := List.getElem_of_mem hx; simpa using hno i hi hi)]))

set_option maxHeartbeats 400000 in
/-- slices.ContainsFunc[[][]int,[]int] -/
theorem ncontainsf_pure (p : Pl) (hs : List Int) (gp : GP p) (hb : ∀ x ∈ hs, -1000000000 ≤ x ∧ x ≤ 1000000000) (hl : hs.length ≤ 1000000) (L : List (List Nat)) (cv : ∀ l ∈ L, CV p l) (hL : L.length ≤ 2000000) : APure Tryz.prog 128 [natss L, .fn (.func 129) [] [.iptr (planC p), .iptr [ints hs]]] (B (L.any fun l => fitsP p l hs)) := by
 refine apure_of (rs := [.tmp 4]) Tryz.func128 rfl rfl (Nat.le_of_ble_eq_true rfl) (by simp [AV.pureL, AV.pureB, AV.pureE, pureE_map]) (rfl) fun e0 he0 => ?_
 refine aw_seq (aw_region ?_)
 refine sq_ev rfl (ev_as (v := .raw _) (lr _)) ?_
 refine sq_nil (aw_seq (aw_region ?_))
 refine sq_ev rfl (ev_mv (v := .sl _ _) (lr _)) ?_
 refine sq_ev rfl (ev_mv (v := .fn _ _ _) (lr _)) ?_
 refine sq_ev rfl (ev_call en159 (lr _) (nindexf_pure p hs gp hb hl L cv hL) ⟨lr _, lr _, trivial⟩) ?_
 refine sq_ev rfl (ev_geq (lr _) (lr _)) ?_
 refine sq_ev rfl (ev_as (v := .raw _) (lr _)) ?_
 refine sq_nil (aw_ret ?_)
 exact retQ_pure (v := .raw _) rfl rfl (Less.eq (by rw [idx_any]))

set_option maxHeartbeats 2000000 in
/-- kelir/night.Misses -/
theorem nMisses_pure (p : Pl) (hl0 : p.scenes.length ≤ 1000000) : APure Tryz.prog 66 [plan p] (missAV p) := by
 refine apure_of (rs := [.tmp 2, .tmp 3]) Tryz.func66 rfl rfl (Nat.le_of_ble_eq_true rfl) (by simp [AV.pureL, AV.pureB, AV.pureE, pureE_map]) (missAV_pure p) fun e0 he0 => ?_
 refine aw_seq (aw_region ?_)
 refine sq_box rfl (lr _) rfl ?_
 refine sq_ev rfl (ev_as (v := .raw _) (lr _)) ?_
 refine sq_ev rfl (ev_as (v := .raw _) (lr _)) ?_
 refine sq_nil (aw_scope (aw_seq (aw_seq ?_)))
 refine aw_sub (sub_iptrK [2, 3] 1 rfl rfl) ?_
 dsimp only [keepS, St.put, sget, slotsOf, List.map_cons, List.map_nil, List.cons_append, List.nil_append, List.length_cons, List.length_nil, Nat.reduceBEq, Nat.reduceAdd, cond_true, cond_false]
 refine aw_region ?_
 refine sq_ev rfl (ev_load_agg_i (lr _) ty27 (Nat.le_of_ble_eq_true rfl)) ?_
 refine sq_ev rfl (ev_call en85 (lr _) (isplan_pure p hl0) ⟨lr _, trivial⟩) ?_
 refine sq_ev rfl (ev_not (lr _)) ?_
 refine sq_nil ?_
 refine aw_cond (lr _) (fun c1 => ?_) (fun c1 => ?_)
 ·
  have c1' := c1
  try simp only [qq1, qq2, qq3, qq4, qq5, qq6, qq7, qq8, qq9, qq10, qq11, qq12, qq13] at c1'
  refine aw_seq (aw_region ?_)
  refine sq_ev rfl (ev_as (v := .raw _) (lr _)) ?_
  refine sq_ev rfl (ev_as (v := .raw _) (lr _)) ?_
  refine sq_nil (aw_ret ?_)
  exact retQ_pure (v := .tup [.raw _, .raw _]) rfl rfl (Less.trans (b := .tup [.sl 1 [], I 2]) (less_tup ⟨less_nil 1, lr _, trivial⟩) (Less.eq (by simp [missAV, c1'])))
 ·
  have c1' := c1
  try simp only [qq1, qq2, qq3, qq4, qq5, qq6, qq7, qq8, qq9, qq10, qq11, qq12, qq13] at c1'
  obtain ⟨gp, wp⟩ := gp_of_ok c1'
  have b1 := gp.s0l
  have b2 := gp.s0h
  have b3 := gp.s1l
  have b4 := gp.s1h
  have b5 := gp.dl
  have b6 := gp.dh
  have w1 := wp.s0
  have w2 := wp.s1
  have w3 := wp.d
  have e1 : (wid p.s0l p.s0h : Int) = p.s0h - p.s0l + 1 := by unfold wid; omega
  have e2 : (wid p.s1l p.s1h : Int) = p.s1h - p.s1l + 1 := by unfold wid; omega
  have e3 : (wid p.dl p.dh : Int) = p.dh - p.dl + 1 := by unfold wid; omega
  refine aw_skip (aw_seq (aw_region ?_))
  refine sq_ev rfl (ev_load_agg_i (lr _) ty27 (Nat.le_of_ble_eq_true rfl)) ?_
  refine sq_ev rfl (ev_call en124 (lr _) (nchoices0_pure p) ⟨lr _, trivial⟩) ?_
  refine sq_ev rfl (ev_call en127 (lr _) (ncollect_pure p gp) ⟨lr _, trivial⟩) ?_
  refine sq_ev rfl (ev_as (v := .sl _ _) (lr _)) ?_
  refine sq_nil (aw_seq (aw_region ?_))
  refine sq_ev rfl (ev_as (v := .raw _) (lr _)) ?_
  refine sq_nil (aw_seq (aw_label (aw_seq (aw_seq (aw_region ?_)))))
  refine sq_ev rfl (ev_fieldAddr_i fo27_1 (lr _)) ?_
  refine sq_ev rfl (ev_index_box_i ar24 (lr _) (lr _) rfl (by decide)) ?_
  refine sq_ev rfl (ev_fieldAddr_i fo23_0 (lr _)) ?_
  refine sq_ev rfl (ev_load_i (lr _) ty3 rfl) ?_
  refine sq_ev rfl (ev_as (v := .raw _) (lr _)) ?_
  refine sq_nil (aw_block ?_)
  refine aw_loopk (ι := { i : Nat // i ≤ wid p.s0l p.s0h ∧ (fm i (msA p)).find? (missH p) = none }) [1, 4] (fun i => [(6, I (p.s0l + i.1)), (5, .raw (.slice none 0 0))]) (fun H i => H) (fun i => wid p.s0l p.s0h - i.1) (⟨0, Nat.zero_le _, rfl⟩) ⟨(by exact less_int (by simp)), lr _, lr _, lr _, trivial⟩ rfl ?_
  rintro ⟨i, hi, hi0⟩
  dsimp only [keepS, St.put, sget, slotsOf, List.map_cons, List.map_nil, List.cons_append, List.nil_append, List.length_cons, List.length_nil, Nat.reduceBEq, Nat.reduceAdd, cond_true, cond_false]
  refine aw_seq (aw_seq (aw_region ?_))
  refine sq_ev rfl (ev_mv (v := .raw _) (lr _)) ?_
  refine sq_ev rfl (ev_fieldAddr_i fo27_1 (lr _)) ?_
  refine sq_ev rfl (ev_index_box_i ar24 (lr _) (lr _) rfl (by decide)) ?_
  refine sq_ev rfl (ev_fieldAddr_i fo23_1 (lr _)) ?_
  refine sq_ev rfl (ev_load_i (lr _) ty3 rfl) ?_
  refine sq_ev rfl (ev_leq (lr _) (lr _)) ?_
  refine sq_nil ?_
  refine aw_cond (lr _) (fun c2 => ?_) (fun c2 => ?_)
  ·
   have c2' := c2
   try simp only [qq1, qq2, qq3, qq4, qq5, qq6, qq7, qq8, qq9, qq10, qq11, qq12, qq13] at c2'
   have hi2 : i < wid p.s0l p.s0h := by omega
   refine aw_skip (aw_seq (aw_block (aw_seq (aw_region ?_))))
   refine sq_ev rfl (ev_fieldAddr_i fo27_1 (lr _)) ?_
   refine sq_ev rfl (ev_index_box_i ar24 (lr _) (lr _) rfl (by decide)) ?_
   refine sq_ev rfl (ev_fieldAddr_i fo23_0 (lr _)) ?_
   refine sq_ev rfl (ev_load_i (lr _) ty3 rfl) ?_
   refine sq_ev rfl (ev_as (v := .raw _) (lr _)) ?_
   refine sq_nil (aw_block ?_)
   refine aw_loopk (ι := { j : Nat // j ≤ wid p.s1l p.s1h ∧ (fm j (msB p i)).find? (missH p) = none }) [1, 4, 6] (fun j => [(7, I (p.s1l + j.1)), (5, .raw (.slice none 0 0))]) (fun H j => H) (fun j => wid p.s1l p.s1h - j.1) (⟨0, Nat.zero_le _, rfl⟩) ⟨(by exact less_int (by simp)), lr _, lr _, lr _, lr _, trivial⟩ rfl ?_
   rintro ⟨j, hj, hj0⟩
   dsimp only [keepS, St.put, sget, slotsOf, List.map_cons, List.map_nil, List.cons_append, List.nil_append, List.length_cons, List.length_nil, Nat.reduceBEq, Nat.reduceAdd, cond_true, cond_false]
   refine aw_seq (aw_seq (aw_region ?_))
   refine sq_ev rfl (ev_mv (v := .raw _) (lr _)) ?_
   refine sq_ev rfl (ev_fieldAddr_i fo27_1 (lr _)) ?_
   refine sq_ev rfl (ev_index_box_i ar24 (lr _) (lr _) rfl (by decide)) ?_
   refine sq_ev rfl (ev_fieldAddr_i fo23_1 (lr _)) ?_
   refine sq_ev rfl (ev_load_i (lr _) ty3 rfl) ?_
   refine sq_ev rfl (ev_leq (lr _) (lr _)) ?_
   refine sq_nil ?_
   refine aw_cond (lr _) (fun c3 => ?_) (fun c3 => ?_)
   ·
    have c3' := c3
    try simp only [qq1, qq2, qq3, qq4, qq5, qq6, qq7, qq8, qq9, qq10, qq11, qq12, qq13] at c3'
    have hj2 : j < wid p.s1l p.s1h := by omega
    refine aw_skip (aw_seq (aw_block (aw_seq (aw_region ?_))))
    refine sq_ev rfl (ev_fieldAddr_i fo27_2 (lr _)) ?_
    refine sq_ev rfl (ev_fieldAddr_i fo23_0 (lr _)) ?_
    refine sq_ev rfl (ev_load_i (lr _) ty3 rfl) ?_
    refine sq_ev rfl (ev_as (v := .raw _) (lr _)) ?_
    refine sq_nil (aw_block ?_)
    refine aw_loopk (ι := { k : Nat // k ≤ wid p.dl p.dh ∧ (fm k (msC p i j)).find? (missH p) = none }) [1, 4, 6, 7] (fun k => [(8, I (p.dl + k.1)), (5, .raw (.slice none 0 0))]) (fun H k => H) (fun k => wid p.dl p.dh - k.1) (⟨0, Nat.zero_le _, rfl⟩) ⟨(by exact less_int (by simp)), lr _, lr _, lr _, lr _, lr _, trivial⟩ rfl ?_
    rintro ⟨k, hk, hk0⟩
    dsimp only [keepS, St.put, sget, slotsOf, List.map_cons, List.map_nil, List.cons_append, List.nil_append, List.length_cons, List.length_nil, Nat.reduceBEq, Nat.reduceAdd, cond_true, cond_false]
    refine aw_seq (aw_seq (aw_region ?_))
    refine sq_ev rfl (ev_mv (v := .raw _) (lr _)) ?_
    refine sq_ev rfl (ev_fieldAddr_i fo27_2 (lr _)) ?_
    refine sq_ev rfl (ev_fieldAddr_i fo23_1 (lr _)) ?_
    refine sq_ev rfl (ev_load_i (lr _) ty3 rfl) ?_
    refine sq_ev rfl (ev_leq (lr _) (lr _)) ?_
    refine sq_nil ?_
    refine aw_cond (lr _) (fun c4 => ?_) (fun c4 => ?_)
    ·
     have c4' := c4
     try simp only [qq1, qq2, qq3, qq4, qq5, qq6, qq7, qq8, qq9, qq10, qq11, qq12, qq13] at c4'
     have hk2 : k < wid p.dl p.dh := by omega
     refine aw_skip (aw_seq (aw_block (aw_seq (aw_region ?_))))
     refine sq_ev rfl (ev_mv (v := .raw _) (lr _)) ?_
     refine sq_ev rfl (ev_mv (v := .raw _) (lr _)) ?_
     refine sq_ev rfl (ev_mv (v := .raw _) (lr _)) ?_
     refine sq_ev rfl (ev_buildSlice (es := [[_], [_], [_]]) sf34 rfl rfl rfl rfl) ?_
     refine sq_alloc rfl z34 ?_
     refine sq_store rfl (lr _) (less_slx _ _) rfl rfl ty34 rfl rfl ?_
     refine sq_nil (aw_seq ?_)
     refine aw_sub (sub_iptrK [1, 2, 3, 4, 5, 6, 7, 8] 9 rfl rfl) ?_
     dsimp only [keepS, St.put, sget, slotsOf, List.map_cons, List.map_nil, List.cons_append, List.nil_append, List.length_cons, List.length_nil, Nat.reduceBEq, Nat.reduceAdd, cond_true, cond_false]
     refine aw_region ?_
     refine sq_ev rfl (ev_mv (v := .sl _ _) (lr _)) ?_
     refine sq_ev rfl (ev_makeFunc) ?_
     refine sq_ev rfl (ev_call en128 (lr _) (ncontainsf_pure p [p.s0l + i, p.s1l + j, p.dl + k] gp (by simp; omega) (by simp) (allC p) (allC_mem gp) (by have := allC_len gp; omega)) ⟨lr _, lr _, trivial⟩) ?_
     refine sq_ev rfl (ev_not (lr _)) ?_
     refine sq_nil ?_
     refine aw_cond (lr _) (fun c5 => ?_) (fun c5 => ?_)
     ·
      have c5' := c5
      try simp only [qq1, qq2, qq3, qq4, qq5, qq6, qq7, qq8, qq9, qq10, qq11, qq12, qq13] at c5'
      have hm : missed p = some [p.s0l + i, p.s1l + j, p.dl + k] := fm_find _ hi2 hi0 (fm_find _ hj2 hj0 (fm_find _ hk2 hk0 (by unfold msC; rw [List.find?_cons_of_pos]; unfold missH; exact c5)))
      refine aw_seq (aw_region ?_)
      refine sq_ev rfl (ev_load_i (lr _) ty34 rfl) ?_
      refine sq_ev rfl (ev_as (v := .sl _ _) (lr _)) ?_
      refine sq_nil (aw_exit (aw_seq (aw_seq (aw_region ?_))))
      refine sq_ev rfl (ev_mv (v := .sl _ _) (lr _)) ?_
      refine sq_ev rfl (ev_sl_nil_ne sl34 (lr _) (by simp) (lr _)) ?_
      refine sq_nil ?_
      refine aw_cond (lr _) (fun c6 => ?_) (fun c6 => ?_)
      ·
       have c6' := c6
       try simp only [qq1, qq2, qq3, qq4, qq5, qq6, qq7, qq8, qq9, qq10, qq11, qq12, qq13] at c6'
       cases c6
      ·
       have c6' := c6
       try simp only [qq1, qq2, qq3, qq4, qq5, qq6, qq7, qq8, qq9, qq10, qq11, qq12, qq13] at c6'
       refine aw_skip (aw_seq (aw_region ?_))
       refine sq_ev rfl (ev_mv (v := .sl _ _) (lr _)) ?_
       refine sq_ev rfl (ev_as (v := .sl _ _) (lr _)) ?_
       refine sq_ev rfl (ev_as (v := .raw _) (lr _)) ?_
       refine sq_nil (aw_ret ?_)
       exact retQ_pure (v := .tup [.sl _ _, .raw _]) rfl rfl (Less.eq (by rw [missAV, if_pos c1', hm] <;> rfl))
     ·
      have c5' := c5
      try simp only [qq1, qq2, qq3, qq4, qq5, qq6, qq7, qq8, qq9, qq10, qq11, qq12, qq13] at c5'
      have hn : (msC p i j k).find? (missH p) = none := by unfold msC; rw [List.find?_cons_of_neg (by unfold missH; rw [c5]; decide)]; rfl
      refine aw_skip (aw_region ?_)
      refine sq_ev rfl (ev_mv (v := .raw _) (lr _)) ?_
      refine sq_ev rfl (ev_add (lr _) (lr _) (wr (by omega) (by omega))) ?_
      refine sq_ev rfl (ev_as (v := .raw _) (lr _)) ?_
      refine sq_nil ?_
      exact ⟨⟨k + 1, by omega, fm_find_succ hk0 hn⟩, by simp only; omega, Sub.fin 1 ⟨(by exact less_int (by simp only; omega)), lr _, lr _, lr _, lr _, lr _, trivial⟩ rfl (by simp [slotsIn, objsIn, sget, keepS, AObj.inB, AV.inB, AV.inL, AV.inE, inE_map]) (by simp [slotsIn, objsIn, sget, keepS, AObj.inB, AV.inB, AV.inL, AV.inE, inE_map]) (by simp [he0])⟩
    ·
     have c4' := c4
     try simp only [qq1, qq2, qq3, qq4, qq5, qq6, qq7, qq8, qq9, qq10, qq11, qq12, qq13] at c4'
     obtain rfl : k = wid p.dl p.dh := by omega
     refine aw_exit (aw_region ?_)
     refine sq_ev rfl (ev_mv (v := .raw _) (lr _)) ?_
     refine sq_ev rfl (ev_add (lr _) (lr _) (wr (by omega) (by omega))) ?_
     refine sq_ev rfl (ev_as (v := .raw _) (lr _)) ?_
     refine sq_nil ?_
     exact ⟨⟨j + 1, by omega, fm_find_succ hj0 hk0⟩, by simp only; omega, Sub.slots ⟨(by exact less_int (by simp only; omega)), lr _, lr _, lr _, lr _, trivial⟩⟩
   ·
    have c3' := c3
    try simp only [qq1, qq2, qq3, qq4, qq5, qq6, qq7, qq8, qq9, qq10, qq11, qq12, qq13] at c3'
    obtain rfl : j = wid p.s1l p.s1h := by omega
    refine aw_exit (aw_region ?_)
    refine sq_ev rfl (ev_mv (v := .raw _) (lr _)) ?_
    refine sq_ev rfl (ev_add (lr _) (lr _) (wr (by omega) (by omega))) ?_
    refine sq_ev rfl (ev_as (v := .raw _) (lr _)) ?_
    refine sq_nil ?_
    exact ⟨⟨i + 1, by omega, fm_find_succ hi0 hj0⟩, by simp only; omega, Sub.slots ⟨(by exact less_int (by simp only; omega)), lr _, lr _, lr _, trivial⟩⟩
  ·
   have c2' := c2
   try simp only [qq1, qq2, qq3, qq4, qq5, qq6, qq7, qq8, qq9, qq10, qq11, qq12, qq13] at c2'
   obtain rfl : i = wid p.s0l p.s0h := by omega
   refine aw_exit (aw_seq (aw_seq (aw_region ?_)))
   refine sq_ev rfl (ev_mv (v := .raw _) (lr _)) ?_
   refine sq_ev rfl (ev_slnil sl34 (lr _) (lr _)) ?_
   refine sq_nil ?_
   refine aw_cond (lr _) (fun c7 => ?_) (fun c7 => ?_)
   ·
    have c7' := c7
    try simp only [qq1, qq2, qq3, qq4, qq5, qq6, qq7, qq8, qq9, qq10, qq11, qq12, qq13] at c7'
    refine aw_seq (aw_region ?_)
    refine sq_ev rfl (ev_as (v := .raw _) (lr _)) ?_
    refine sq_ev rfl (ev_as (v := .raw _) (lr _)) ?_
    refine sq_nil (aw_ret ?_)
    exact retQ_pure (v := .tup [.raw _, .raw _]) rfl rfl (Less.trans (b := .tup [.sl 1 [], I 5]) (less_tup ⟨less_nil 1, lr _, trivial⟩) (Less.eq (by rw [missAV, if_pos c1', show missed p = none from hi0])))
   ·
    have c7' := c7
    try simp only [qq1, qq2, qq3, qq4, qq5, qq6, qq7, qq8, qq9, qq10, qq11, qq12, qq13] at c7'
    cases c7


end Go.Proofs.YtjghdbdiejaacaaGreatDoor

namespace Go.Proofs.YtjghdbdiejaacaaGreatDoor
open Go Go.Ab Ni
theorem en164 : Ent Tryz.prog 164 := Ent.of Tryz.func164 (by kernel_rfl) rfl
theorem un3 : Tryz.prog.underlying 3 = some (.int .i64) := by kernel_rfl

theorem flat_take_succ {α : Type} {L : List (List α)} {k : Nat} (h : k < L.length) : (L.take (k + 1)).flatten = (L.take k).flatten ++ L[k] := by
  rw [List.take_succ_eq_append_getElem h, List.flatten_append]; simp
theorem flat_take_le {α : Type} (L : List (List α)) (k : Nat) : (L.take k).flatten.length ≤ L.flatten.length := by
  conv => rhs; rw [← List.take_append_drop k L, List.flatten_append, List.length_append]
  omega
set_option maxHeartbeats 400000 in
/-- slices.Grow[[]int,int] -/
theorem ngrow_call (n : Nat) (hn : n ≤ 100000000) : ACall Tryz.prog 164 [.raw (.slice none 0 0), I n] [] (fun x H' => H' = [.tok 0] ∧ x = .ret (.own 0 1 [])) := by
  refine ACall.fresh (sz := 1) (H := []) ?_ rfl
  refine acall_of (rs := [.tmp 4]) Tryz.func164 rfl rfl (Nat.le_of_ble_eq_true rfl) fun e0 he0 => ?_
  refine aw_seq (aw_region ?_)
  refine sq_ev rfl (ev_as (v := .raw _) (lr _)) ?_
  refine sq_nil (aw_seq (aw_seq (aw_region ?_)))
  refine sq_ev rfl (ev_mv (v := .raw _) (lr _)) ?_
  refine sq_ev rfl (ev_lss (lr _) (lr _)) ?_
  refine sq_nil ?_
  refine aw_cond (lr _) (fun c1 => ?_) (fun c1 => ?_)
  · skip
    have c1' := c1
    try simp only [qq1, qq2, qq3, qq4, qq5, qq6, qq7, qq8, qq9, qq10, qq11, qq12, qq13] at c1'
    exfalso
    omega
  · skip
    have c1' := c1
    try simp only [qq1, qq2, qq3, qq4, qq5, qq6, qq7, qq8, qq9, qq10, qq11, qq12, qq13] at c1'
    refine aw_skip (aw_seq (aw_seq (aw_region ?_)))
    refine sq_ev rfl (ev_mv (v := .raw _) (lr _)) ?_
    refine sq_ev rfl (ev_mv (v := .raw _) (lr _)) ?_
    refine sq_ev rfl (ev_cap_nil sl34 (lr _)) ?_
    refine sq_ev rfl (ev_mv (v := .raw _) (lr _)) ?_
    refine sq_ev rfl (ev_len (n := 0) sl34 (less_nil _) rfl) ?_
    refine sq_ev rfl (ev_sub (lr _) (lr _) (wr (by omega) (by omega))) ?_
    refine sq_ev rfl (ev_sub (lr _) (lr _) (wr (by omega) (by omega))) ?_
    refine sq_ev rfl (ev_as (v := .raw _) (lr _)) ?_
    refine sq_nil (aw_seq (aw_region ?_))
    refine sq_ev rfl (ev_mv (v := .raw _) (lr _)) ?_
    refine sq_ev rfl (ev_gtr (lr _) (lr _)) ?_
    refine sq_nil ?_
    refine aw_cond (lr _) (fun c2 => ?_) (fun c2 => ?_)
    · skip
      have c2' := c2
      try simp only [qq1, qq2, qq3, qq4, qq5, qq6, qq7, qq8, qq9, qq10, qq11, qq12, qq13] at c2'
      refine aw_region ?_
      refine sq_ev rfl (ev_mv (v := .raw _) (lr _)) ?_
      refine sq_ev rfl (ev_mv (v := .raw _) (lr _)) ?_
      refine sq_ev rfl (ev_cap_nil sl34 (lr _)) ?_
      refine sq_ev rfl (ev_slice_nil sl34 (lr _) (lr _)) ?_
      refine sq_ev rfl (ev_mv (v := .raw _) (lr _)) ?_
      refine sq_append_make (n := n) rfl sf34 un3 (by decide) (lr _) (less_int (by omega)) (by omega) (by omega) (by omega) fun cap hcap => ?_
      refine sq_ev rfl (ev_mv (v := .raw _) (lr _)) ?_
      refine sq_ev rfl (ev_len (n := 0) sl34 (less_nil _) rfl) ?_
      refine sq_ev rfl (ev_slice_msl (hi := 0) sl34 (lr _) (lr _) (by omega)) ?_
      refine sq_ev rfl (ev_as (v := .msl _ _ _ _) (lr _)) ?_
      refine sq_nil (aw_seq (aw_region ?_))
      refine sq_ev rfl (ev_mv (v := .msl _ _ _ _) (lr _)) ?_
      refine sq_ev rfl (ev_as (v := .msl _ _ _ _) (lr _)) ?_
      refine sq_nil (aw_ret ?_)
      exact ⟨rfl, _, rfl, .inr ⟨cap, _, rfl, by simp, rfl⟩⟩
    · skip
      have c2' := c2
      try simp only [qq1, qq2, qq3, qq4, qq5, qq6, qq7, qq8, qq9, qq10, qq11, qq12, qq13] at c2'
      obtain rfl : n = 0 := by omega
      refine aw_skip (aw_seq (aw_region ?_))
      refine sq_ev rfl (ev_mv (v := .raw _) (lr _)) ?_
      refine sq_ev rfl (ev_as (v := .raw _) (lr _)) ?_
      refine sq_nil (aw_ret ?_)
      exact ⟨rfl, _, rfl, .inl ⟨rfl, rfl⟩⟩

set_option maxHeartbeats 1000000 in
/-- slices.Concat[[]int,int] -/
theorem nconcat_pure (L : List (List Nat)) (hb : L.flatten.length ≤ 1000000) (hL : L.length ≤ 1000000) : APure Tryz.prog 146 [natss L] (nats L.flatten) := by
 refine apure_of (rs := [.tmp 2]) Tryz.func146 rfl rfl (Nat.le_of_ble_eq_true rfl) (by simp [AV.pureL, AV.pureB, AV.pureE, pureE_map]) (by simp [AV.pureL, AV.pureB, AV.pureE, pureE_map, -List.map_flatten]) fun e0 he0 => ?_
 refine aw_seq (aw_region ?_)
 refine sq_ev rfl (ev_as (v := .raw _) (lr _)) ?_
 refine sq_nil (aw_seq (aw_region ?_))
 refine sq_ev rfl (ev_as (v := .raw _) (lr _)) ?_
 refine sq_nil (aw_seq (aw_seq (aw_region ?_)))
 refine sq_ev rfl (ev_mv (v := .sl _ _) (lr _)) ?_
 refine sq_ev rfl (ev_len_map sl30 (lr _)) ?_
 refine sq_ev rfl (ev_mv (v := .raw _) (lr _)) ?_
 refine sq_nil (aw_block ?_)
 refine aw_loopk (ι := { k : Nat // k ≤ L.length }) [0, 9, 10] (fun i => [(11, I i.1), (3, I ((L.take i.1).flatten.length : Int))]) (fun H i => H) (fun i => L.length - i.1) (⟨0, Nat.zero_le _⟩) ⟨lr _, lr _, lr _, lr _, lr _, trivial⟩ rfl ?_
 rintro ⟨k, hk⟩
 dsimp only [keepS, St.put, sget, slotsOf, List.map_cons, List.map_nil, List.cons_append, List.nil_append, List.length_cons, List.length_nil, Nat.reduceBEq, Nat.reduceAdd, cond_true, cond_false]
 have ht1 := flat_take_le L k
 have ht2 := flat_take_le L (k + 1)
 refine aw_seq (aw_region ?_)
 refine sq_ev rfl (ev_lss (lr _) (lr _)) ?_
 refine sq_nil (aw_seq ?_)
 refine aw_cond (lr _) (fun c1 => ?_) (fun c1 => ?_)
 ·
  have c1' := c1
  try simp only [qq1, qq2, qq3, qq4, qq5, qq6, qq7, qq8, qq9, qq10, qq11, qq12, qq13] at c1'
  have hk' : k < L.length := by omega
  have eN : ((L.take k).flatten.length : Int) + (L[k].length : Int) = ((L.take (k + 1)).flatten.length : Int) := by rw [flat_take_succ hk', List.length_append]; omega
  refine aw_skip (aw_seq (aw_block (aw_seq (aw_region ?_))))
  refine sq_ev rfl (ev_index_map sl30 (lr _) (lr _) rfl (by omega)) ?_
  refine sq_ev rfl (ev_load_i (lr _) ty34 rfl) ?_
  refine sq_ev rfl (ev_as (v := .sl _ _) (lr _)) ?_
  refine sq_nil (aw_seq (aw_region ?_))
  refine sq_ev rfl (ev_mv (v := .raw _) (lr _)) ?_
  refine sq_ev rfl (ev_mv (v := .sl _ _) (lr _)) ?_
  refine sq_ev rfl (ev_len_map sl34 (lr _)) ?_
  refine sq_ev rfl (ev_add (lr _) (lr _) (wr (by omega) (by omega))) ?_
  refine sq_ev rfl (ev_as (v := .raw _) (lr _)) ?_
  refine sq_nil (aw_seq (aw_region ?_))
  refine sq_ev rfl (ev_mv (v := .raw _) (lr _)) ?_
  refine sq_ev rfl (ev_lss (lr _) (lr _)) ?_
  refine sq_nil ?_
  refine aw_cond (lr _) (fun c2 => ?_) (fun c2 => ?_)
  ·
   have c2' := c2
   try simp only [qq1, qq2, qq3, qq4, qq5, qq6, qq7, qq8, qq9, qq10, qq11, qq12, qq13] at c2'
   exfalso
   omega
  ·
   have c2' := c2
   try simp only [qq1, qq2, qq3, qq4, qq5, qq6, qq7, qq8, qq9, qq10, qq11, qq12, qq13] at c2'
   refine aw_skip (aw_region ?_)
   refine sq_ev rfl (ev_add (lr _) (lr _) (wr (by omega) (by omega))) ?_
   refine sq_ev rfl (ev_mv (v := .raw _) (lr _)) ?_
   refine sq_nil ?_
   exact ⟨⟨k + 1, by omega⟩, by simp only; omega, Sub.slots ⟨lr _, (by exact less_int eN), lr _, lr _, lr _, trivial⟩⟩
 ·
  have c1' := c1
  try simp only [qq1, qq2, qq3, qq4, qq5, qq6, qq7, qq8, qq9, qq10, qq11, qq12, qq13] at c1'
  obtain rfl : k = L.length := by omega
  refine aw_exit (aw_seq (aw_region ?_))
  refine sq_ev rfl (ev_mv (v := .raw _) (lr _)) ?_
  refine sq_call (args := [.raw (.slice none 0 0), I (L.take L.length).flatten.length]) rfl en164 (lr _) ⟨lr _, lr _, trivial⟩ (ngrow_call _ (by have := flat_take_le L L.length; omega)) ?_ (by rintro v H' ⟨_, h⟩; cases h)
  rintro _ _ ⟨rfl, h⟩; cases h
  refine sq_ev rfl (ev_as (v := .own _ _ _) (lr _)) ?_
  refine sq_nil (aw_seq (aw_seq (aw_region ?_)))
  refine sq_ev rfl (ev_mv (v := .sl _ _) (lr _)) ?_
  refine sq_ev rfl (ev_len_map sl30 (lr _)) ?_
  refine sq_ev rfl (ev_mv (v := .raw _) (lr _)) ?_
  refine sq_nil (aw_block ?_)
  refine aw_loopk (ι := { k : Nat // k ≤ L.length }) [25, 26] (fun i => [(27, I i.1), (6, .own 0 1 (((L.take i.1).flatten).map fun (x : Nat) => [I x]))]) (fun H i => H.set 0 (.tok (((L.take i.1).flatten).map fun (x : Nat) => [I x]).length)) (fun i => L.length - i.1) (⟨0, Nat.zero_le _⟩) ⟨lr _, lr _, lr _, lr _, trivial⟩ rfl ?_
  rintro ⟨k, hk⟩
  dsimp only [keepS, St.put, sget, slotsOf, List.map_cons, List.map_nil, List.cons_append, List.nil_append, List.length_cons, List.length_nil, Nat.reduceBEq, Nat.reduceAdd, cond_true, cond_false]
  have ht1 := flat_take_le L k
  have ht2 := flat_take_le L (k + 1)
  refine aw_seq (aw_region ?_)
  refine sq_ev rfl (ev_lss (lr _) (lr _)) ?_
  refine sq_nil (aw_seq ?_)
  refine aw_cond (lr _) (fun c3 => ?_) (fun c3 => ?_)
  ·
   have c3' := c3
   try simp only [qq1, qq2, qq3, qq4, qq5, qq6, qq7, qq8, qq9, qq10, qq11, qq12, qq13] at c3'
   have hk' : k < L.length := by omega
   have eS : ((L.take (k + 1)).flatten).map (fun (x : Nat) => [I x]) = ((L.take k).flatten).map (fun (x : Nat) => [I x]) ++ (L[k]).map (fun (x : Nat) => [I x]) := by rw [flat_take_succ hk', List.map_append]
   refine aw_skip (aw_seq (aw_block (aw_seq (aw_region ?_))))
   refine sq_ev rfl (ev_index_map sl30 (lr _) (lr _) rfl (by omega)) ?_
   refine sq_ev rfl (ev_load_i (lr _) ty34 rfl) ?_
   refine sq_ev rfl (ev_as (v := .sl _ _) (lr _)) ?_
   refine sq_nil (aw_region ?_)
   refine sq_ev rfl (ev_mv (v := .own _ _ _) (lr _)) ?_
   refine sq_ev rfl (ev_mv (v := .sl _ _) (lr _)) ?_
   refine sq_append' rfl sf34 Tryz.underlying34 rfl rfl (lr _) (by simp only [List.length_map]; rw [flat_take_succ hk', List.length_append] at ht2; omega) (by simp only [List.length_map]; rw [flat_take_succ hk', List.length_append] at ht2; omega) ?_
   refine sq_ev rfl (ev_as (v := .own _ _ _) (lr _)) ?_
   refine sq_nil (aw_region ?_)
   refine sq_ev rfl (ev_add (lr _) (lr _) (wr (by omega) (by omega))) ?_
   refine sq_ev rfl (ev_mv (v := .raw _) (lr _)) ?_
   refine sq_nil ?_
   exact ⟨⟨k + 1, by omega⟩, by simp only; omega, Sub.fin 1 ⟨lr _, Less.eq (b := .own 0 1 (((L.take (k + 1)).flatten).map fun (x : Nat) => [I x])) (by rw [eS] <;> rfl), lr _, lr _, trivial⟩ (congrArg (fun n => [AObj.tok n]) (congrArg List.length eS.symm)) (by simp [slotsIn, objsIn, sget, keepS, AObj.inB, AV.inB, AV.inL, AV.inE, inE_map, inE_nats1, -List.map_flatten, inE_sc, -List.map_append, -List.map_take, -List.map_map]) (by simp [slotsIn, objsIn, sget, keepS, AObj.inB, AV.inB, AV.inL, AV.inE, inE_map, inE_nats1, -List.map_flatten, inE_sc, -List.map_append, -List.map_take, -List.map_map]) (by simp [he0])⟩
  ·
   have c3' := c3
   try simp only [qq1, qq2, qq3, qq4, qq5, qq6, qq7, qq8, qq9, qq10, qq11, qq12, qq13] at c3'
   obtain rfl : k = L.length := by omega
   refine aw_exit (aw_seq (aw_region ?_))
   refine sq_ev rfl (ev_mv (v := .own _ _ _) (lr _)) ?_
   refine sq_ev rfl (ev_as (v := .own _ _ _) (lr _)) ?_
   refine sq_nil (aw_ret ?_)
   exact retQ_pure (v := .own _ _ _) rfl rfl (Less.trans (less_own _ _ _) (Less.eq (by simp)))


end Go.Proofs.YtjghdbdiejaacaaGreatDoor
