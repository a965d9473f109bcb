/-
  A part of the proof: conditions: none beyond each theorem's own.
-/
import Derived.Test.YtmbknoaneglilaaGreatDoorWalkA
import Derived.Test.YtmbknoaneglilaaGreatDoorLogicE
import Derived.Test.YtmbknoaneglilaaGreatDoorSpecA
import Derived.Test.YtmbknoaneglilaaGreatDoorLogicD
set_option linter.all false
set_option maxRecDepth 100000
set_option maxHeartbeats 8000000
namespace Go.Proofs.YtmbknoaneglilaaGreatDoor
open Go Go.Ab Ni Ol
theorem decN {c : UInt8} {n : Nat} {u : UInt8} (h : u.toNat = n) : decide (((c.toNat : Nat) : Int) = (n : Int)) = decide (c = u) :=
  decide_eq_decide.2 ⟨fun e => UInt8.toNat_inj.1 (by rw [h]; omega), fun e => by rw [e, h]⟩
theorem dec46 {c : UInt8} : decide (((c.toNat : Nat) : Int) = 46) = decide (c = 46) := decN (n := 46) rfl
theorem dec46n {c : UInt8} : decide (((c.toNat : Nat) : Int) ≠ 46) = !decide (c = 46) := by rw [← dec46]; by_cases h : ((c.toNat : Nat) : Int) = 46 <;> simp [h]
theorem shad_cell {c : Ca} {m k : Nat} (h : m < c.shadow.length) (h2 : k < (c.shadow[m]).length) : (c.shadow[m])[k] = c.cell (k : Int) (m : Int) := by
  have e := shad_row h
  simp only [e]
  exact srow_cell _
theorem meets_pure (c : Ca) (g : Fg) (q : Pc) : APure Tryz.prog 73 [stA c.s, fgA c.f, pcA c.p, fgA g, pcA q] (.tup [I (if (caOK c && caOK (Ca.mk c.s g q)) = true then meetsC c (Ca.mk c.s g q) else 0), I (er (caOK c && caOK (Ca.mk c.s g q)))]) := by
  refine apure_of (rs := [.tmp 10, .tmp 11]) Tryz.func73 rfl rfl (Nat.le_of_ble_eq_true rfl) (by simp [AV.pureL, AV.pureB, AV.pureE, pureE_map]) (by first | rfl | (simp [AV.pureL, AV.pureB, AV.pureE, pureE_map])) fun e0 he0 => ?_
  refine aw_seq (aw_region (sq_box rfl J rfl (sq_box rfl J rfl (sq_box rfl J rfl (sq_box rfl J rfl ?_)))))
  refine sq_box rfl J rfl (asr J rfl (asr J rfl (sq_nil (aw_scope (aw_seq (aw_region ?_))))))
  first | refine sq_ev rfl (ev_load_agg J rfl ty23.h rfl) ?_ | refine sq_ev rfl (ev_load_agg_i J ty23.h (by exact Nat.le_of_ble_eq_true rfl)) ?_
  first | refine sq_ev rfl (ev_load_agg J rfl ty26.h rfl) ?_ | refine sq_ev rfl (ev_load_agg_i J ty26.h (by exact Nat.le_of_ble_eq_true rfl)) ?_
  first | refine sq_ev rfl (ev_load_agg J rfl ty28.h rfl) ?_ | refine sq_ev rfl (ev_load_agg_i J ty28.h (by exact Nat.le_of_ble_eq_true rfl)) ?_
  refine sq_ev rfl (ev_call en97.h J (casting_pure c) ⟨J, J, J, trivial⟩) ?_
  refine sq_ev rfl (ev_mv (v := .tup _) J) ?_
  refine xtr rfl J rfl (xtr rfl J rfl ?_)
  refine sq_alloc rfl z139.h ?_
  refine sq_store rfl J J rfl rfl ty139.h rfl rfl ?_
  refine asr J rfl (sq_nil (aw_seq (aw_region ?_)))
  first | refine sq_ev rfl (ev_load_agg J rfl ty23.h rfl) ?_ | refine sq_ev rfl (ev_load_agg_i J ty23.h (by exact Nat.le_of_ble_eq_true rfl)) ?_
  first | refine sq_ev rfl (ev_load_agg J rfl ty26.h rfl) ?_ | refine sq_ev rfl (ev_load_agg_i J ty26.h (by exact Nat.le_of_ble_eq_true rfl)) ?_
  first | refine sq_ev rfl (ev_load_agg J rfl ty28.h rfl) ?_ | refine sq_ev rfl (ev_load_agg_i J ty28.h (by exact Nat.le_of_ble_eq_true rfl)) ?_
  refine sq_ev rfl (ev_call en97.h J (casting_pure (Ca.mk c.s g q)) ⟨J, J, J, trivial⟩) ?_
  refine sq_ev rfl (ev_mv (v := .tup _) J) ?_
  refine xtr rfl J rfl (xtr rfl J rfl ?_)
  refine sq_alloc rfl z139.h ?_
  refine sq_store rfl J J rfl rfl ty139.h rfl rfl ?_
  refine asr J rfl (sq_nil (aw_seq (aw_seq (aw_region (mvr J rfl (sq_ev rfl (ev_not J) ?_))))))
  refine mvr J rfl ?_
  refine sq_split 39 J (fun g3_2 => ?_) (fun g3_2 => ?_)
  · skip
    have g3_2' := g3_2
    try simp only [qq] at g3_2'
    have hok : (caOK c && caOK (Ca.mk c.s g q)) = false := by rw [Bool.and_eq_false_iff]; exact .inl (by simpa using g3_2)
    refine sq_no rfl rfl (less_b g3_2) rfl rfl ?_
    refine sq_no rfl rfl (less_b g3_2) rfl rfl ?_
    refine sq_ev rfl (ev_pickT (v := .raw _) (less_b g3_2) J) ?_
    refine sq_nil ?_
    refine aw_true J ?_
    refine aw_seq (aw_region (asr J rfl (asr J rfl (sq_nil (aw_ret ?_)))))
    exact retQ_pure (v := .tup [.raw _, .raw _]) rfl rfl (less_tup ⟨less_int (by first | (rw [hok]; rfl) | (rw [if_pos hok]; unfold meetsC; rw [← hmt, meetsP_soft hd1])), less_int (by simp [er, *]), trivial⟩)
  · skip
    have g3_2' := g3_2
    try simp only [qq] at g3_2'
    have hok1 : caOK c = true := by simpa using g3_2
    refine sq_yes rfl rfl (less_b g3_2) rfl (ev_mv (v := .raw _) J) ?_
    refine sq_yes rfl rfl (less_b g3_2) rfl (ev_not J) ?_
    refine sq_ev rfl (ev_pickF (v := .raw _) (less_b g3_2) J) ?_
    refine sq_nil ?_
    refine aw_cond J (fun c_42 => ?_) (fun c_42 => ?_)
    · skip
      have c_42' := c_42
      try simp only [qq] at c_42'
      have hok : (caOK c && caOK (Ca.mk c.s g q)) = false := by rw [Bool.and_eq_false_iff]; exact .inr (by simpa using c_42)
      refine aw_seq (aw_region (asr J rfl (asr J rfl (sq_nil (aw_ret ?_)))))
      exact retQ_pure (v := .tup [.raw _, .raw _]) rfl rfl (less_tup ⟨less_int (by first | (rw [hok]; rfl) | (rw [if_pos hok]; unfold meetsC; rw [← hmt, meetsP_soft hd1])), less_int (by simp [er, *]), trivial⟩)
    · skip
      have c_42' := c_42
      try simp only [qq] at c_42'
      have hok2 : caOK (Ca.mk c.s g q) = true := by simpa using c_42
      have hok : (caOK c && caOK (Ca.mk c.s g q)) = true := by rw [hok1, hok2]; rfl
      have hc := caOK_B hok1
      have hd := caOK_B hok2
      have hlc := shad_len c
      have hld : (Ca.mk c.s g q).shadow.length = c.s.high.toNat := shad_len _
      obtain ⟨s1, s2, s3⟩ := hc.st
      refine aw_skip (aw_seq (aw_region (asr J rfl (sq_nil (aw_seq ?_)))))
      refine aw_draw 6 mo (by kernel_rfl) ?_
      first | refine dr_ev rfl (ev_load_agg J rfl ty139.h rfl) ?_ | refine dr_ev rfl (ev_load_agg_i J ty139.h (by exact Nat.le_of_ble_eq_true rfl)) ?_
      refine dr_ev rfl (ev_call en98.h J (shadow_pure hc) ⟨J, trivial⟩) ?_
      first | refine dr_ev rfl (ev_load_agg J rfl ty139.h rfl) ?_ | refine dr_ev rfl (ev_load_agg_i J ty139.h (by exact Nat.le_of_ble_eq_true rfl)) ?_
      refine dr_ev rfl (ev_call en98.h J (shadow_pure hd) ⟨J, trivial⟩) ?_
      first | refine dr_ev rfl (ev_as (v := .sl _ _) J) ?_ | refine dr_ev rfl (ev_as (v := .own _ _ _) J) ?_ | refine dr_ev rfl (ev_as (v := .raw _) J) ?_ | refine dr_ev rfl (ev_as (v := .slx _ _) J) ?_ | refine dr_ev rfl (ev_as (v := .msl _ _ _ _) J) ?_
      first | refine dr_ev rfl (ev_as (v := .sl _ _) J) ?_ | refine dr_ev rfl (ev_as (v := .own _ _ _) J) ?_ | refine dr_ev rfl (ev_as (v := .raw _) J) ?_ | refine dr_ev rfl (ev_as (v := .slx _ _) J) ?_ | refine dr_ev rfl (ev_as (v := .msl _ _ _ _) J) ?_
      refine dr_end (sq_nil (aw_seq (aw_label (aw_seq (aw_seq (aw_region ?_))))))
      first | refine sq_ev rfl (ev_fieldAddr fo23_1.h J) ?_ | refine sq_ev rfl (ev_fieldAddr_i fo23_1.h J) ?_
      first | refine sq_ev rfl (ev_load J rfl ty3.h rfl) ?_ | refine sq_ev rfl (ev_load_i J ty3.h rfl) ?_
      refine mvr J rfl (sq_nil (aw_block ?_))
      refine aw_loopk (ι := { m : Nat // m ≤ c.s.high.toNat ∧ (mall c (Ca.mk c.s g q) m).any dd = false }) [5, 17, 18, 48] (fun i => [(16, I (soft (mall c (Ca.mk c.s g q) i.1))), (49, I i.1)]) (fun H i => H) (fun i => c.s.high.toNat - i.1) (⟨0, Nat.zero_le _, rfl⟩) ⟨J, J, J, J, J, J, trivial⟩ rfl ?_
      rintro ⟨m, hm, hd1⟩
      dsimp only [keepS, St.put, sget, slotsOf, nn1, nn2, nn3, nn4, nn5, nn6, Nat.reduceBEq, Nat.reduceAdd, nn7, nn8]
      refine aw_seq (aw_region (sq_ev rfl (ev_lss J J) ?_))
      refine sq_nil (aw_seq ?_)
      refine aw_cond J (fun c_50 => ?_) (fun c_50 => ?_)
      · skip
        have c_50' := c_50
        try simp only [qq] at c_50'
        refine aw_skip (aw_seq (aw_block (aw_seq (aw_region (mvr J rfl (asr J rfl (sq_nil (aw_seq (aw_region ?_)))))))))
        first | refine sq_ev rfl (ev_fieldAddr fo23_0.h J) ?_ | refine sq_ev rfl (ev_fieldAddr_i fo23_0.h J) ?_
        first | refine sq_ev rfl (ev_load J rfl ty3.h rfl) ?_ | refine sq_ev rfl (ev_load_i J ty3.h rfl) ?_
        refine mvr J rfl (sq_nil (aw_block ?_))
        refine aw_loopk (ι := { k : Nat // k ≤ c.s.wide.toNat ∧ (mrow c (Ca.mk c.s g q) m k).any dd = false }) [5, 17, 18, 19, 48, 49, 53] (fun i => [(16, I (soft (mall c (Ca.mk c.s g q) m ++ mrow c (Ca.mk c.s g q) m i.1))), (54, I i.1)]) (fun H i => H) (fun i => c.s.wide.toNat - i.1) (⟨0, Nat.zero_le _, rfl⟩) ⟨(Less.eq (by show I (soft (mall c (Ca.mk c.s g q) m)) = _; simp [mrow])), J, J, J, J, J, J, J, J, trivial⟩ rfl ?_
        rintro ⟨k, hk, hd2⟩
        dsimp only [keepS, St.put, sget, slotsOf, nn1, nn2, nn3, nn4, nn5, nn6, Nat.reduceBEq, Nat.reduceAdd, nn7, nn8]
        refine aw_seq (aw_region (sq_ev rfl (ev_lss J J) ?_))
        refine sq_nil (aw_seq ?_)
        refine aw_cond J (fun c_55 => ?_) (fun c_55 => ?_)
        · skip
          have c_55' := c_55
          try simp only [qq] at c_55'
          have hmh : m < c.s.high.toNat := by omega
          have hkw : k < c.s.wide.toNat := by omega
          have hrc : (c.shadow[m]).length = c.s.wide.toNat := by rw [shad_row, srow_len]
          have hrd : ((Ca.mk c.s g q).shadow[m]).length = c.s.wide.toNat := by rw [shad_row, srow_len]
          refine aw_skip (aw_seq (aw_block (aw_seq (aw_region (mvr J rfl (asr J rfl (sq_nil (aw_seq ?_))))))))
          refine aw_draw 14 mo (by kernel_rfl) ?_
          first | refine dr_ev rfl (ev_mv (v := .sl _ _) J) ?_ | refine dr_ev rfl (ev_mv (v := .own _ _ _) J) ?_ | refine dr_ev rfl (ev_mv (v := .raw _) J) ?_ | refine dr_ev rfl (ev_mv (v := .slx _ _) J) ?_ | refine dr_ev rfl (ev_mv (v := .msl _ _ _ _) J) ?_
          refine dr_ev rfl (ev_mv (v := .raw _) J) ?_
          first | refine dr_ev rfl (ev_index_map sl24.h J J rfl (by omega)) ?_ | refine dr_ev rfl (ev_index sl24.h J J rfl rfl) ?_
          first | refine dr_ev rfl (ev_load J rfl ty9.h rfl) ?_ | refine dr_ev rfl (ev_load_i J ty9.h rfl) ?_
          refine dr_ev rfl (ev_mv (v := .raw _) J) ?_
          refine dr_ev rfl (ev_idxS Tryz.underlying9 J J rfl (by omega)) ?_
          first | refine dr_ev rfl (ev_mv (v := .sl _ _) J) ?_ | refine dr_ev rfl (ev_mv (v := .own _ _ _) J) ?_ | refine dr_ev rfl (ev_mv (v := .raw _) J) ?_ | refine dr_ev rfl (ev_mv (v := .slx _ _) J) ?_ | refine dr_ev rfl (ev_mv (v := .msl _ _ _ _) J) ?_
          refine dr_ev rfl (ev_mv (v := .raw _) J) ?_
          first | refine dr_ev rfl (ev_index_map sl24.h J J rfl (by omega)) ?_ | refine dr_ev rfl (ev_index sl24.h J J rfl rfl) ?_
          first | refine dr_ev rfl (ev_load J rfl ty9.h rfl) ?_ | refine dr_ev rfl (ev_load_i J ty9.h rfl) ?_
          refine dr_ev rfl (ev_mv (v := .raw _) J) ?_
          refine dr_ev rfl (ev_idxS Tryz.underlying9 J J rfl (by omega)) ?_
          refine dr_ev rfl (ev_as (v := .raw _) J) ?_
          refine dr_ev rfl (ev_as (v := .raw _) J) ?_
          refine dr_end (sq_nil (aw_block (aw_seq ?_)))
          have ea := shad_cell (c := c) (m := m) (k := k) (by omega) (by omega)
          have eb := shad_cell (c := (Ca.mk c.s g q)) (m := m) (k := k) (by omega) (by omega)
          simp only [ea, eb]
          refine aw_region (mvr J rfl (sq_ev rfl (ev_eql J J) ?_))
          refine mvr J rfl ?_
          refine sq_split 72 J (fun g14_2 => ?_) (fun g14_2 => ?_)
          · skip
            have g14_2' := g14_2
            try simp only [qq] at g14_2'
            refine sq_yes rfl rfl (less_b g14_2) rfl (ev_mv (v := .raw _) J) ?_
            refine sq_yes rfl rfl (less_b g14_2) rfl (ev_eql J J) ?_
            refine sq_ev rfl (ev_pickT (v := .raw _) (less_b g14_2) J) ?_
            refine asr J rfl (sq_nil ?_)
            refine aw_cond J (fun c_69 => ?_) (fun c_69 => ?_)
            · skip
              have c_69' := c_69
              try simp only [qq] at c_69'
              have hdd : dd (c.cell (k : Nat) (m : Nat), (Ca.mk c.s g q).cell (k : Nat) (m : Nat)) = true := by rw [dec35] at c_69 g14_2; unfold dd; simp only [c_69, g14_2, Bool.and_true]
              have hme := meets_dd hmh hkw hdd
              refine aw_seq (aw_region (asr J rfl ?_))
              refine sq_nil (aw_exit (aw_seq (aw_region (mvr J rfl (asr J rfl (asr J rfl (sq_nil (aw_ret ?_))))))))
              exact retQ_pure (v := .tup [.raw _, .raw _]) rfl rfl (less_tup ⟨less_int (by rw [if_pos hok, hme]), less_int (by simp [er, *]), trivial⟩)
            · skip
              have c_69' := c_69
              try simp only [qq] at c_69'
              have hdd : dd (c.cell (k : Nat) (m : Nat), (Ca.mk c.s g q).cell (k : Nat) (m : Nat)) = false := by rw [dec35] at c_69; unfold dd; simp only [c_69, Bool.and_false]
              have hnx : (mrow c (Ca.mk c.s g q) m (k + 1)).any dd = false := by rw [mrow_succ]; exact any_snoc hd2 hdd
              refine aw_seq (aw_region (mvr J rfl (sq_ev rfl (ev_neq J J) ?_)))
              refine mvr J rfl ?_
              refine sq_split 79 J (fun g16_2 => ?_) (fun g16_2 => ?_)
              · skip
                have g16_2' := g16_2
                try simp only [qq] at g16_2'
                refine sq_yes rfl rfl (less_b g16_2) rfl (ev_mv (v := .raw _) J) ?_
                refine sq_yes rfl rfl (less_b g16_2) rfl (ev_neq J J) ?_
                refine sq_ev rfl (ev_pickT (v := .raw _) (less_b g16_2) J) ?_
                refine asr J rfl (sq_nil ?_)
                refine aw_cond J (fun c_76 => ?_) (fun c_76 => ?_)
                · skip
                  have c_76' := c_76
                  try simp only [qq] at c_76'
                  have hnl : nl (c.cell (k : Nat) (m : Nat), (Ca.mk c.s g q).cell (k : Nat) (m : Nat)) = true := by rw [dec46n] at c_76 g16_2; unfold nl; simp only [c_76, g16_2, Bool.and_true]
                  have eF : I 2 = I (soft (mall c (Ca.mk c.s g q) m ++ mrow c (Ca.mk c.s g q) m (k + 1))) := by rw [mrow_succ, ← List.append_assoc, soft_snoc]; rw [hnl]; rfl
                  refine aw_region (asr J rfl (sq_nil (aw_region (sq_ev rfl (ev_add J J (wr (by omega) (by omega))) ?_))))
                  refine mvr J rfl (sq_nil ?_)
                  exact ⟨⟨k + 1, by omega, hnx⟩, by simp only; omega, Sub.slots ⟨(Less.eq eF), J, J, J, J, J, J, J, J, trivial⟩⟩
                · skip
                  have c_76' := c_76
                  try simp only [qq] at c_76'
                  have hnl : nl (c.cell (k : Nat) (m : Nat), (Ca.mk c.s g q).cell (k : Nat) (m : Nat)) = false := by rw [dec46n] at c_76; unfold nl; simp only [c_76, Bool.and_false]
                  have eF : I (soft (mall c (Ca.mk c.s g q) m ++ mrow c (Ca.mk c.s g q) m k)) = I (soft (mall c (Ca.mk c.s g q) m ++ mrow c (Ca.mk c.s g q) m (k + 1))) := by rw [mrow_succ, ← List.append_assoc, soft_snoc]; rw [hnl]; rfl
                  refine aw_skip (aw_region (sq_ev rfl (ev_add J J (wr (by omega) (by omega))) ?_))
                  refine mvr J rfl (sq_nil ?_)
                  exact ⟨⟨k + 1, by omega, hnx⟩, by simp only; omega, Sub.slots ⟨(Less.eq eF), J, J, J, J, J, J, J, J, trivial⟩⟩
              · skip
                have g16_2' := g16_2
                try simp only [qq] at g16_2'
                have hnl : nl (c.cell (k : Nat) (m : Nat), (Ca.mk c.s g q).cell (k : Nat) (m : Nat)) = false := by rw [dec46n] at g16_2; unfold nl; simp only [g16_2, Bool.false_and]
                have eF : I (soft (mall c (Ca.mk c.s g q) m ++ mrow c (Ca.mk c.s g q) m k)) = I (soft (mall c (Ca.mk c.s g q) m ++ mrow c (Ca.mk c.s g q) m (k + 1))) := by rw [mrow_succ, ← List.append_assoc, soft_snoc]; rw [hnl]; rfl
                refine sq_no rfl rfl (less_b g16_2) rfl rfl ?_
                refine sq_no rfl rfl (less_b g16_2) rfl rfl ?_
                refine sq_ev rfl (ev_pickF (v := .raw _) (less_b g16_2) J) ?_
                refine asr J rfl (sq_nil ?_)
                refine aw_false J ?_
                refine aw_skip (aw_region (sq_ev rfl (ev_add J J (wr (by omega) (by omega))) ?_))
                refine mvr J rfl (sq_nil ?_)
                exact ⟨⟨k + 1, by omega, hnx⟩, by simp only; omega, Sub.slots ⟨(Less.eq eF), J, J, J, J, J, J, J, J, trivial⟩⟩
          · skip
            have g14_2' := g14_2
            try simp only [qq] at g14_2'
            have hdd : dd (c.cell (k : Nat) (m : Nat), (Ca.mk c.s g q).cell (k : Nat) (m : Nat)) = false := by rw [dec35] at g14_2; unfold dd; simp only [g14_2, Bool.false_and]
            have hnx : (mrow c (Ca.mk c.s g q) m (k + 1)).any dd = false := by rw [mrow_succ]; exact any_snoc hd2 hdd
            refine sq_no rfl rfl (less_b g14_2) rfl rfl ?_
            refine sq_no rfl rfl (less_b g14_2) rfl rfl ?_
            refine sq_ev rfl (ev_pickF (v := .raw _) (less_b g14_2) J) ?_
            refine asr J rfl (sq_nil ?_)
            refine aw_false J ?_
            refine aw_seq (aw_region (mvr J rfl (sq_ev rfl (ev_neq J J) ?_)))
            refine mvr J rfl ?_
            refine sq_split 79 J (fun g16_2 => ?_) (fun g16_2 => ?_)
            · skip
              have g16_2' := g16_2
              try simp only [qq] at g16_2'
              refine sq_yes rfl rfl (less_b g16_2) rfl (ev_mv (v := .raw _) J) ?_
              refine sq_yes rfl rfl (less_b g16_2) rfl (ev_neq J J) ?_
              refine sq_ev rfl (ev_pickT (v := .raw _) (less_b g16_2) J) ?_
              refine asr J rfl (sq_nil ?_)
              refine aw_cond J (fun c_76 => ?_) (fun c_76 => ?_)
              · skip
                have c_76' := c_76
                try simp only [qq] at c_76'
                have hnl : nl (c.cell (k : Nat) (m : Nat), (Ca.mk c.s g q).cell (k : Nat) (m : Nat)) = true := by rw [dec46n] at c_76 g16_2; unfold nl; simp only [c_76, g16_2, Bool.and_true]
                have eF : I 2 = I (soft (mall c (Ca.mk c.s g q) m ++ mrow c (Ca.mk c.s g q) m (k + 1))) := by rw [mrow_succ, ← List.append_assoc, soft_snoc]; rw [hnl]; rfl
                refine aw_region (asr J rfl (sq_nil (aw_region (sq_ev rfl (ev_add J J (wr (by omega) (by omega))) ?_))))
                refine mvr J rfl (sq_nil ?_)
                exact ⟨⟨k + 1, by omega, hnx⟩, by simp only; omega, Sub.slots ⟨(Less.eq eF), J, J, J, J, J, J, J, J, trivial⟩⟩
              · skip
                have c_76' := c_76
                try simp only [qq] at c_76'
                have hnl : nl (c.cell (k : Nat) (m : Nat), (Ca.mk c.s g q).cell (k : Nat) (m : Nat)) = false := by rw [dec46n] at c_76; unfold nl; simp only [c_76, Bool.and_false]
                have eF : I (soft (mall c (Ca.mk c.s g q) m ++ mrow c (Ca.mk c.s g q) m k)) = I (soft (mall c (Ca.mk c.s g q) m ++ mrow c (Ca.mk c.s g q) m (k + 1))) := by rw [mrow_succ, ← List.append_assoc, soft_snoc]; rw [hnl]; rfl
                refine aw_skip (aw_region (sq_ev rfl (ev_add J J (wr (by omega) (by omega))) ?_))
                refine mvr J rfl (sq_nil ?_)
                exact ⟨⟨k + 1, by omega, hnx⟩, by simp only; omega, Sub.slots ⟨(Less.eq eF), J, J, J, J, J, J, J, J, trivial⟩⟩
            · skip
              have g16_2' := g16_2
              try simp only [qq] at g16_2'
              have hnl : nl (c.cell (k : Nat) (m : Nat), (Ca.mk c.s g q).cell (k : Nat) (m : Nat)) = false := by rw [dec46n] at g16_2; unfold nl; simp only [g16_2, Bool.false_and]
              have eF : I (soft (mall c (Ca.mk c.s g q) m ++ mrow c (Ca.mk c.s g q) m k)) = I (soft (mall c (Ca.mk c.s g q) m ++ mrow c (Ca.mk c.s g q) m (k + 1))) := by rw [mrow_succ, ← List.append_assoc, soft_snoc]; rw [hnl]; rfl
              refine sq_no rfl rfl (less_b g16_2) rfl rfl ?_
              refine sq_no rfl rfl (less_b g16_2) rfl rfl ?_
              refine sq_ev rfl (ev_pickF (v := .raw _) (less_b g16_2) J) ?_
              refine asr J rfl (sq_nil ?_)
              refine aw_false J ?_
              refine aw_skip (aw_region (sq_ev rfl (ev_add J J (wr (by omega) (by omega))) ?_))
              refine mvr J rfl (sq_nil ?_)
              exact ⟨⟨k + 1, by omega, hnx⟩, by simp only; omega, Sub.slots ⟨(Less.eq eF), J, J, J, J, J, J, J, J, trivial⟩⟩
        · skip
          have c_55' := c_55
          try simp only [qq] at c_55'
          refine aw_exit (aw_region (sq_ev rfl (ev_add J J (wr (by omega) (by omega))) ?_))
          refine mvr J rfl (sq_nil ?_)
          have hkt : k = c.s.wide.toNat := by omega
          exact ⟨⟨m + 1, by omega, by rw [mall_succ, List.any_append, hd1, ← hkt, hd2]; rfl⟩, by simp only; omega, Sub.slots ⟨(Less.eq (show I (soft (mall c (Ca.mk c.s g q) m ++ mrow c (Ca.mk c.s g q) m k)) = _ by rw [mall_succ, hkt])), J, J, J, J, J, trivial⟩⟩
      · skip
        have c_50' := c_50
        try simp only [qq] at c_50'
        have hmt : mall c (Ca.mk c.s g q) m = mall c (Ca.mk c.s g q) c.s.high.toNat := by rw [show m = c.s.high.toNat by omega]
        refine aw_exit (aw_seq (aw_region (mvr J rfl (asr J rfl (asr J rfl (sq_nil (aw_ret ?_)))))))
        exact retQ_pure (v := .tup [.raw _, .raw _]) rfl rfl (less_tup ⟨less_int (by first | (rw [hok]; rfl) | (rw [if_pos hok]; unfold meetsC; rw [← hmt, meetsP_soft hd1])), less_int (by simp [er, *]), trivial⟩)
end Go.Proofs.YtmbknoaneglilaaGreatDoor
namespace Go.Proofs.YtmbknoaneglilaaGreatDoor
open Go Go.Ab Ni Ol
instance en107 : EnT Tryz.prog 107 := ⟨Ent.of Tryz.func107 (by kernel_rfl) rfl⟩
instance en149 : EnT Tryz.prog 149 := ⟨Ent.of Tryz.func149 (by kernel_rfl) rfl⟩
instance en150 : EnT Tryz.prog 150 := ⟨Ent.of Tryz.func150 (by kernel_rfl) rfl⟩
instance en151 : EnT Tryz.prog 151 := ⟨Ent.of Tryz.func151 (by kernel_rfl) rfl⟩
instance en152 : EnT Tryz.prog 152 := ⟨Ent.of Tryz.func152 (by kernel_rfl) rfl⟩
instance en177 : EnT Tryz.prog 177 := ⟨Ent.of Tryz.func177 (by kernel_rfl) rfl⟩
instance en178 : EnT Tryz.prog 178 := ⟨Ent.of Tryz.func178 (by kernel_rfl) rfl⟩
instance en179 : EnT Tryz.prog 179 := ⟨Ent.of Tryz.func179 (by kernel_rfl) rfl⟩
instance en180 : EnT Tryz.prog 180 := ⟨Ent.of Tryz.func180 (by kernel_rfl) rfl⟩
instance en191 : EnT Tryz.prog 191 := ⟨Ent.of Tryz.func191 (by kernel_rfl) rfl⟩
instance fo145_0 : FoF Tryz.prog 145 0 0 23 := ⟨by kernel_rfl⟩
instance fo145_1 : FoF Tryz.prog 145 1 6 45 := ⟨by kernel_rfl⟩
instance fo145_2 : FoF Tryz.prog 145 2 7 49 := ⟨by kernel_rfl⟩
instance fo47_0 : FoF Tryz.prog 47 0 0 3 := ⟨by kernel_rfl⟩
instance fo47_1 : FoF Tryz.prog 47 1 1 3 := ⟨by kernel_rfl⟩
instance fo49_0 : FoF Tryz.prog 49 0 0 47 := ⟨by kernel_rfl⟩
instance fo49_1 : FoF Tryz.prog 49 1 2 47 := ⟨by kernel_rfl⟩
instance fo49_2 : FoF Tryz.prog 49 2 4 3 := ⟨by kernel_rfl⟩
instance sl45 : SlE Tryz.prog 45 26 1 := ⟨by kernel_rfl⟩
instance ty45 : TyF Tryz.prog 45 false 1 := ⟨by kernel_rfl⟩
instance ty47 : TyF Tryz.prog 47 true 2 := ⟨by kernel_rfl⟩
instance ty49 : TyF Tryz.prog 49 true 5 := ⟨by kernel_rfl⟩
instance ty5 : TyF Tryz.prog 5 false 1 := ⟨by kernel_rfl⟩
abbrev shp (l : List (List UInt8)) : Prop := l.length ≤ 1000 ∧ ∀ r ∈ l, r.length ≤ 1000
theorem decNn {c : UInt8} {n : Nat} {u : UInt8} (h : u.toNat = n) : decide (((c.toNat : Nat) : Int) ≠ (n : Int)) = !decide (c = u) := by
  rw [← decN h]; by_cases k : ((c.toNat : Nat) : Int) = n <;> simp [k]
theorem dec35n {c : UInt8} : decide (((c.toNat : Nat) : Int) ≠ 35) = !decide (c = 35) := decNn (n := 35) rfl
theorem dec43n {c : UInt8} : decide (((c.toNat : Nat) : Int) ≠ 43) = !decide (c = 43) := decNn (n := 43) rfl
theorem dec63n {c : UInt8} : decide (((c.toNat : Nat) : Int) ≠ 63) = !decide (c = 63) := decNn (n := 63) rfl
theorem sBad_eq (c : UInt8) : sBad c = (!decide (c = 35) && !decide (c = 43) && !decide (c = 46) && !decide (c = 63)) := by
  unfold sBad; rw [Bool.eq_iff_iff]; simp [and_assoc]
theorem figF_ix {f : FuncId} {cap : List AV} {q : Fg → Bool} (E : List (Fg)) (hE : E.length ≤ 1000000) (en : Ent Tryz.prog f) (hc : ∀ i, (hi : i < E.length) → APure Tryz.prog f (.agg [strs E[i]] :: cap) (B (q E[i]))) (hp : AV.pureL cap = true) : APure Tryz.prog 191 [.sl 1 (E.map fun x => [strs x]), .fn (.func f) [] cap] (I (ixQ q E)) := by
  refine apure_of (rs := [.tmp 4]) Tryz.func191 rfl rfl (Nat.le_of_ble_eq_true rfl) (by simp [AV.pureL, AV.pureB, AV.pureE, pureE_map, hp]) (by first | rfl | (simp [AV.pureL, AV.pureB, AV.pureE, pureE_map])) fun e0 he0 => ?_
  refine W 4 ?_
  refine aw_loopk (ι := { k : Nat // k ≤ E.length ∧ ∀ i, (hi : i < E.length) → i < k → q E[i] = false }) [0, 1, 7] (fun i => [(8, I i.1)]) (fun H i => H) (fun i => E.length - i.1) (⟨0, Nat.zero_le _, by omega⟩) ⟨J, J, J, J, trivial⟩ rfl ?_
  rintro ⟨k, hk, hok⟩
  dsimp only [keepS, St.put, sget, slotsOf, nn1, nn2, nn3, nn4, nn5, nn6, Nat.reduceBEq, Nat.reduceAdd, nn7, nn8]
  refine W 1 ?_
  refine iff (fun c_9 c_9' => ?_) (fun c_9 c_9' => ?_)
  · skip
    have hkL : k < E.length := by omega
    refine W 7 ?_
    refine sq_ev rfl (ev_call en J (hc k hkL) ⟨J, LessL.rfl' _⟩) ?_
    refine W 0 ?_
    refine aw_cond J (fun c_16 => ?_) (fun c_16 => ?_)
    · skip
      have c_16' := c_16
      try simp only [qq] at c_16'
      refine W 2 ?_
      exact retQ_pure (v := .raw _) rfl rfl (Less.eq (by rw [ixQ_at hkL (by simpa using c_16') hok]))
    · skip
      have c_16' := c_16
      try simp only [qq] at c_16'
      refine W 2 ?_
      exact ⟨⟨k + 1, by omega, fun i hi h => (by by_cases e : i = k; (subst e; simpa using c_16'); exact hok i hi (by omega))⟩, by simp only; omega, Sub.slots ⟨J, J, J, J, trivial⟩⟩
  · skip
    refine W 1 ?_
    exact retQ_pure (v := .raw _) rfl rfl (Less.eq (by rw [ixQ_no fun i hi => hok i hi (by omega)]))
theorem figF_any {f : FuncId} {cap : List AV} {q : Fg → Bool} (E : List (Fg)) (hE : E.length ≤ 1000000) (en : Ent Tryz.prog f) (hc : ∀ i, (hi : i < E.length) → APure Tryz.prog f (.agg [strs E[i]] :: cap) (B (q E[i]))) (hp : AV.pureL cap = true) : APure Tryz.prog 177 [.sl 1 (E.map fun x => [strs x]), .fn (.func f) [] cap] (B (E.any q)) := by
 refine apure_of (rs := [.tmp 4]) Tryz.func177 rfl rfl (Nat.le_of_ble_eq_true rfl) (by simp [AV.pureL, AV.pureB, AV.pureE, pureE_map, hp]) (by first | rfl | (simp [AV.pureL, AV.pureB, AV.pureE, pureE_map])) fun e0 he0 => ?_
 refine W 3 ?_
 refine cl A (figF_ix E hE en hc hp) ?_
 refine W 2 ?_
 exact retQ_pure (v := .raw _) rfl rfl (Less.eq (by rw [← ixQ_any]))
theorem byteF_ix {f : FuncId} {cap : List AV} {q : UInt8 → Bool} (E : List (UInt8)) (hE : E.length ≤ 1000000) (en : Ent Tryz.prog f) (hc : ∀ i, (hi : i < E.length) → APure Tryz.prog f (C E[i] :: cap) (B (q E[i]))) (hp : AV.pureL cap = true) : APure Tryz.prog 180 [.sl 1 (E.map fun x => [C x]), .fn (.func f) [] cap] (I (ixQ q E)) := by
 refine apure_of (rs := [.tmp 4]) Tryz.func180 rfl rfl (Nat.le_of_ble_eq_true rfl) (by simp [AV.pureL, AV.pureB, AV.pureE, pureE_map, hp]) (by first | rfl | (simp [AV.pureL, AV.pureB, AV.pureE, pureE_map])) fun e0 he0 => ?_
 refine W 4 ?_
 refine aw_loopk (ι := { k : Nat // k ≤ E.length ∧ ∀ i, (hi : i < E.length) → i < k → q E[i] = false }) [0, 1, 7] (fun i => [(8, I i.1)]) (fun H i => H) (fun i => E.length - i.1) (⟨0, Nat.zero_le _, by omega⟩) ⟨J, J, J, J, trivial⟩ rfl ?_
 rintro ⟨k, hk, hok⟩
 dsimp only [keepS, St.put, sget, slotsOf, nn1, nn2, nn3, nn4, nn5, nn6, Nat.reduceBEq, Nat.reduceAdd, nn7, nn8]
 refine W 1 ?_
 refine iff (fun c_9 c_9' => ?_) (fun c_9 c_9' => ?_)
 ·
  have hkL : k < E.length := by omega
  refine W 7 ?_
  refine sq_ev rfl (ev_call en J (hc k hkL) ⟨J, LessL.rfl' _⟩) ?_
  refine W 0 ?_
  refine aw_cond J (fun c_16 => ?_) (fun c_16 => ?_)
  ·
   have c_16' := c_16
   try simp only [qq] at c_16'
   refine W 2 ?_
   exact retQ_pure (v := .raw _) rfl rfl (Less.eq (by rw [ixQ_at hkL (by simpa using c_16') hok]))
  have c_16' := c_16
  try simp only [qq] at c_16'
  refine W 2 ?_
  exact ⟨⟨k + 1, by omega, fun i hi h => (by by_cases e : i = k; (subst e; simpa using c_16'); exact hok i hi (by omega))⟩, by simp only; omega, Sub.slots ⟨J, J, J, J, trivial⟩⟩
 refine W 1 ?_
 exact retQ_pure (v := .raw _) rfl rfl (Less.eq (by rw [ixQ_no fun i hi => hok i hi (by omega)]))
theorem byteF_any {f : FuncId} {cap : List AV} {q : UInt8 → Bool} (E : List (UInt8)) (hE : E.length ≤ 1000000) (en : Ent Tryz.prog f) (hc : ∀ i, (hi : i < E.length) → APure Tryz.prog f (C E[i] :: cap) (B (q E[i]))) (hp : AV.pureL cap = true) : APure Tryz.prog 151 [.sl 1 (E.map fun x => [C x]), .fn (.func f) [] cap] (B (E.any q)) := by
 refine apure_of (rs := [.tmp 4]) Tryz.func151 rfl rfl (Nat.le_of_ble_eq_true rfl) (by simp [AV.pureL, AV.pureB, AV.pureE, pureE_map, hp]) (by first | rfl | (simp [AV.pureL, AV.pureB, AV.pureE, pureE_map])) fun e0 he0 => ?_
 refine W 3 ?_
 refine cl A (byteF_ix E hE en hc hp) ?_
 refine W 2 ?_
 exact retQ_pure (v := .raw _) rfl rfl (Less.eq (by rw [← ixQ_any]))
theorem notfig_pure (f : Fg) : APure Tryz.prog 178 [fgA f] (B (!fgOK f)) := by
 refine apure_of (rs := [.tmp 2]) Tryz.func178 rfl rfl (Nat.le_of_ble_eq_true rfl) (by simp [AV.pureL, AV.pureB, AV.pureE, pureE_map]) (by first | rfl | (simp [AV.pureL, AV.pureB, AV.pureE, pureE_map])) fun e0 he0 => ?_
 refine W 3 ?_
 refine cl A (isfigure_pure f) ?_
 refine W 2 ?_
 exact retQ_pure (v := .raw _) rfl rfl J
theorem sbad_pure (c : UInt8) : APure Tryz.prog 152 [C c] (B (sBad c)) := by
 refine apure_of (rs := [.tmp 2]) Tryz.func152 rfl rfl (Nat.le_of_ble_eq_true rfl) (by simp [AV.pureL, AV.pureB, AV.pureE, pureE_map]) (by first | rfl | (simp [AV.pureL, AV.pureB, AV.pureE, pureE_map])) fun e0 he0 => ?_
 refine W 4 ?_
 refine sq_split 5 J (fun g1_2 => ?_) (fun g1_2 => ?_)
 ·
  have g1_2' := g1_2
  try simp only [qq] at g1_2'
  refine W 4 ?_
  refine sq_split 9 J (fun g1_6 => ?_) (fun g1_6 => ?_)
  ·
   have g1_6' := g1_6
   try simp only [qq] at g1_6'
   refine W 4 ?_
   refine sq_split 13 J (fun g1_10 => ?_) (fun g1_10 => ?_)
   ·
    have g1_10' := g1_10
    try simp only [qq] at g1_10'
    refine W 4 ?_
    exact retQ_pure (v := .raw _) rfl rfl (Less.eq (by have e := sBad_eq c; simp only [dec35n, dec43n, dec46n, dec63n] at *; rw [e]; simp [*]))
   have g1_10' := g1_10
   try simp only [qq] at g1_10'
   refine W 4 ?_
   exact retQ_pure (v := .raw _) rfl rfl (Less.eq (by have e := sBad_eq c; simp only [dec35n, dec43n, dec46n, dec63n] at *; rw [e]; simp [*]))
  have g1_6' := g1_6
  try simp only [qq] at g1_6'
  refine W 8 ?_
  exact retQ_pure (v := .raw _) rfl rfl (Less.eq (by have e := sBad_eq c; simp only [dec35n, dec43n, dec46n, dec63n] at *; rw [e]; simp [*]))
 have g1_2' := g1_2
 try simp only [qq] at g1_2'
 refine W 12 ?_
 exact retQ_pure (v := .raw _) rfl rfl (Less.eq (by have e := sBad_eq c; simp only [dec35n, dec43n, dec46n, dec63n] at *; rw [e]; simp [*]))
theorem iscompany_pure (l : List Fg) (hl : l.length ≤ 1000000) : APure Tryz.prog 149 [figs l] (B (coOK l)) := by
 refine apure_of (rs := [.tmp 2]) Tryz.func149 rfl rfl (Nat.le_of_ble_eq_true rfl) (by simp [AV.pureL, AV.pureB, AV.pureE, pureE_map]) (by first | rfl | (simp [AV.pureL, AV.pureB, AV.pureE, pureE_map])) fun e0 he0 => ?_
 refine W 3 ?_
 refine cl A (in_pure _ _ _) ?_
 refine W 1 ?_
 refine sq_split 6 J (fun g1_3 => ?_) (fun g1_3 => ?_)
 ·
  have g1_3' := g1_3
  try simp only [qq] at g1_3'
  refine W 1 ?_
  refine sq_yes rfl rfl (less_b g1_3) rfl (ev_call en177.h J (figF_any (q := fun f => !fgOK f) l hl en178.h (fun i hi => notfig_pure _) rfl) ⟨J, J, trivial⟩) ?_
  refine W 3 ?_
  exact retQ_pure (v := .raw _) rfl rfl (Less.eq (by rw [coOK_eq]; simp [*]))
 have g1_3' := g1_3
 try simp only [qq] at g1_3'
 refine W 5 ?_
 exact retQ_pure (v := .raw _) rfl rfl (Less.eq (by rw [coOK_eq]; simp [*]))
theorem isspan_pure (lo hi : Int) (h1 : -1000 ≤ lo ∧ lo ≤ 1000) (h2 : -1000 ≤ hi ∧ hi ≤ 1000) : APure Tryz.prog 179 [.agg [I lo, I hi]] (B (spOK lo hi)) := by
 refine apure_of (rs := [.tmp 2]) Tryz.func179 rfl rfl (Nat.le_of_ble_eq_true rfl) (by simp [AV.pureL, AV.pureB, AV.pureE, pureE_map]) (by first | rfl | (simp [AV.pureL, AV.pureB, AV.pureE, pureE_map])) fun e0 he0 => ?_
 refine W 7 ?_
 refine cl A (in_pure _ _ _) ?_
 refine W 1 ?_
 exact retQ_pure (v := .raw _) rfl rfl J
theorem isreach_pure (s : Sg) (r : Rc) (h : 2 ≤ s.far ∧ s.far ≤ 40) : APure Tryz.prog 150 [stA s, rcA r] (B (rcOK s r)) := by
 refine apure_of (rs := [.tmp 4]) Tryz.func150 rfl rfl (Nat.le_of_ble_eq_true rfl) (by simp [AV.pureL, AV.pureB, AV.pureE, pureE_map]) (by first | rfl | (simp [AV.pureL, AV.pureB, AV.pureE, pureE_map])) fun e0 he0 => ?_
 refine W 13 ?_
 refine cl A (isplace_pure s ⟨r.nl, r.xl, r.y⟩ h) ?_
 refine W 1 ?_
 refine sq_split 16 J (fun g1_11 => ?_) (fun g1_11 => ?_)
 ·
  have g1_11' := g1_11
  try simp only [qq] at g1_11'
  have k1 := pcOK_iff.1 g1_11
  simp only at k1
  refine W 10 ?_
  refine cy A (isplace_pure s ⟨r.nh, r.xh, r.y⟩ h) ?_
  refine W 2 ?_
  refine sq_split 29 J (fun g1_24 => ?_) (fun g1_24 => ?_)
  ·
   have g1_24' := g1_24
   try simp only [qq] at g1_24'
   have k2 := pcOK_iff.1 g1_24
   simp only at k2
   refine W 2 ?_
   refine cy A (isspan_pure r.nl r.nh (by omega) (by omega)) ?_
   refine W 2 ?_
   refine sq_split 34 J (fun g1_29 => ?_) (fun g1_29 => ?_)
   ·
    have g1_29' := g1_29
    try simp only [qq] at g1_29'
    refine W 2 ?_
    refine cy A (isspan_pure r.xl r.xh (by omega) (by omega)) ?_
    refine W 2 ?_
    exact retQ_pure (v := .raw _) rfl rfl (Less.eq (by unfold rcOK; simp [*]))
   have g1_29' := g1_29
   try simp only [qq] at g1_29'
   refine W 5 ?_
   exact retQ_pure (v := .raw _) rfl rfl (Less.eq (by unfold rcOK; simp [*]))
  have g1_24' := g1_24
  try simp only [qq] at g1_24'
  refine W 10 ?_
  exact retQ_pure (v := .raw _) rfl rfl (Less.eq (by unfold rcOK; simp [*]))
 have g1_11' := g1_11
 try simp only [qq] at g1_11'
 refine W 23 ?_
 exact retQ_pure (v := .raw _) rfl rfl (Less.eq (by unfold rcOK; simp [*]))
theorem isscene_pure (x : Sn) (hl : x.l.length ≤ 1000000) : APure Tryz.prog 101 [snA x] (B (snOK x)) := by
 refine apure_of (rs := [.tmp 2]) Tryz.func101 rfl rfl (Nat.le_of_ble_eq_true rfl) (by simp [AV.pureL, AV.pureB, AV.pureE, pureE_map]) (by first | rfl | (simp [AV.pureL, AV.pureB, AV.pureE, pureE_map])) fun e0 he0 => ?_
 refine W 4 ?_
 refine cl A (isstage_pure x.s) ?_
 refine W 1 ?_
 refine sq_split 6 J (fun g1_3 => ?_) (fun g1_3 => ?_)
 ·
  have g1_3' := g1_3
  try simp only [qq] at g1_3'
  refine W 2 ?_
  refine cy A (iscompany_pure x.l hl) ?_
  refine W 2 ?_
  refine sq_split 11 J (fun g1_8 => ?_) (fun g1_8 => ?_)
  ·
   have g1_8' := g1_8
   try simp only [qq] at g1_8'
   refine W 4 ?_
   refine cy A (isreach_pure x.s x.r (by have := stOK_iff.1 g1_3; omega)) ?_
   refine W 2 ?_
   exact retQ_pure (v := .raw _) rfl rfl (Less.eq (by unfold snOK; simp [*]))
  have g1_8' := g1_8
  try simp only [qq] at g1_8'
  refine W 7 ?_
  exact retQ_pure (v := .raw _) rfl rfl (Less.eq (by unfold snOK; simp [*]))
 have g1_3' := g1_3
 try simp only [qq] at g1_3'
 refine W 12 ?_
 exact retQ_pure (v := .raw _) rfl rfl (Less.eq (by unfold snOK; simp [*]))
theorem issight_pure (s : Sg) (l : List (List UInt8)) (hs : shp l) : APure Tryz.prog 102 [stA s, strs l] (B (siOK s l)) := by
 refine apure_of (rs := [.tmp 4]) Tryz.func102 rfl rfl (Nat.le_of_ble_eq_true rfl) (by simp [AV.pureL, AV.pureB, AV.pureE, pureE_map]) (by first | rfl | (simp [AV.pureL, AV.pureB, AV.pureE, pureE_map])) fun e0 he0 => ?_
 refine W 7 ?_
 refine ifn (fun c_11 c_11' => ?_) (fun c_11 c_11' => ?_)
 ·
  refine W 1 ?_
  exact retQ_pure (v := .raw _) rfl rfl (Less.eq (by unfold siOK; rw [decide_eq_false c_11']; rfl))
 refine W 3 ?_
 refine aw_loopk (ι := { k : Nat // k ≤ l.length ∧ ∀ i, (h : i < l.length) → i < k → siRow s.wide l[i] = true }) [2, 12, 13] (fun i => [(14, I i.1)]) (fun H i => H) (fun i => l.length - i.1) (⟨0, Nat.zero_le _, by omega⟩) ⟨J, J, J, J, trivial⟩ rfl ?_
 rintro ⟨k, hk, hok⟩
 dsimp only [keepS, St.put, sget, slotsOf, nn1, nn2, nn3, nn4, nn5, nn6, Nat.reduceBEq, Nat.reduceAdd, nn7, nn8]
 have hs1 := hs.1
 refine W 1 ?_
 refine iff (fun c_15 c_15' => ?_) (fun c_15 c_15' => ?_)
 ·
  have hkl : k < l.length := by omega
  have hrl := hs.2 _ (List.getElem_mem hkl)
  refine W 9 ?_
  refine sq_split 23 J (fun g6_5 => ?_) (fun g6_5 => ?_)
  ·
   have g6_5' := g6_5
   try simp only [qq] at g6_5'
   refine W 6 ?_
   exact retQ_pure (v := .raw _) rfl rfl (Less.eq (by rw [siOK_bad hkl (by rw [siRow_eq, decide_eq_false g6_5']; rfl)]))
  have g6_5' := g6_5
  try simp only [qq] at g6_5'
  refine W 1 ?_
  refine sq_yes rfl rfl (less_b g6_5) rfl (ev_bytes_row Tryz.underlying9 Tryz.underlying92 Tryz.underlying5 J) ?_
  refine sq_yes rfl rfl (less_b g6_5) rfl (ev_call en151.h J (byteF_any (q := sBad) l[k] (by omega) en152.h (fun i hi => sbad_pure _) rfl) ⟨J, J, trivial⟩) ?_
  refine W 1 ?_
  refine aw_cond J (fun c_27 => ?_) (fun c_27 => ?_)
  ·
   have c_27' := c_27
   try simp only [qq] at c_27'
   refine W 1 ?_
   exact retQ_pure (v := .raw _) rfl rfl (Less.eq (by rw [siOK_bad hkl (by rw [siRow_eq, c_27]; simp)]))
  have c_27' := c_27
  try simp only [qq] at c_27'
  refine V 2 ?_
  refine sq_nil ?_
  have hgood : siRow s.wide l[k] = true := by rw [siRow_eq, c_27]; simp [g6_5']
  exact ⟨⟨k + 1, by omega, fun i h hi => (by by_cases e : i = k; (subst e; exact hgood); exact hok i h (by omega))⟩, by simp only; omega, Sub.slots ⟨J, J, J, J, trivial⟩⟩
 refine W 1 ?_
 exact retQ_pure (v := .raw _) rfl rfl (Less.eq (by rw [siOK_end c_11' (fun i hi => hok i hi (by omega))]))
theorem differ_pure (a b : UInt8) : APure Tryz.prog 107 [C a, C b] (B (opp a b)) := by
 refine apure_of (rs := [.tmp 4]) Tryz.func107 rfl rfl (Nat.le_of_ble_eq_true rfl) (by simp [AV.pureL, AV.pureB, AV.pureE, pureE_map]) (by first | rfl | (simp [AV.pureL, AV.pureB, AV.pureE, pureE_map])) fun e0 he0 => ?_
 refine W 4 ?_
 refine sq_split 7 J (fun g1_2 => ?_) (fun g1_2 => ?_)
 ·
  have g1_2' := g1_2
  try simp only [qq] at g1_2'
  refine W 4 ?_
  refine sq_split 11 J (fun g1_6 => ?_) (fun g1_6 => ?_)
  ·
   have g1_6' := g1_6
   try simp only [qq] at g1_6'
   refine W 8 ?_
   exact retQ_pure (v := .raw _) rfl rfl (Less.eq (by unfold opp; simp only [dec35, dec46] at *; simp [*]))
  have g1_6' := g1_6
  try simp only [qq] at g1_6'
  refine W 3 ?_
  refine sq_split 14 J (fun g1_9 => ?_) (fun g1_9 => ?_)
  ·
   have g1_9' := g1_9
   try simp only [qq] at g1_9'
   refine W 5 ?_
   exact retQ_pure (v := .raw _) rfl rfl (Less.eq (by unfold opp; simp only [dec35, dec46] at *; simp [*]))
  have g1_9' := g1_9
  try simp only [qq] at g1_9'
  refine W 5 ?_
  exact retQ_pure (v := .raw _) rfl rfl (Less.eq (by unfold opp; simp only [dec35, dec46] at *; simp [*]))
 have g1_2' := g1_2
 try simp only [qq] at g1_2'
 refine W 7 ?_
 refine sq_split 14 J (fun g1_9 => ?_) (fun g1_9 => ?_)
 ·
  have g1_9' := g1_9
  try simp only [qq] at g1_9'
  refine W 5 ?_
  exact retQ_pure (v := .raw _) rfl rfl (Less.eq (by unfold opp; simp only [dec35, dec46] at *; simp [*]))
 have g1_9' := g1_9
 try simp only [qq] at g1_9'
 refine W 5 ?_
 exact retQ_pure (v := .raw _) rfl rfl (Less.eq (by unfold opp; simp only [dec35, dec46] at *; simp [*]))
theorem agree_pure {a b : List (List UInt8)} (hf : Fit a b) : APure Tryz.prog 141 [strs a, strs b] (B (agree a b)) := by
 refine apure_of (rs := [.tmp 4]) Tryz.func141 rfl rfl (Nat.le_of_ble_eq_true rfl) (by simp [AV.pureL, AV.pureB, AV.pureE, pureE_map]) (by first | rfl | (simp [AV.pureL, AV.pureB, AV.pureE, pureE_map])) fun e0 he0 => ?_
 refine W 4 ?_
 refine aw_loopk (ι := { m : Nat // m ≤ a.length ∧ ∀ i, i < m → agRow a b i }) [1, 8, 9] (fun i => [(10, I i.1)]) (fun H i => H) (fun i => a.length - i.1) (⟨0, Nat.zero_le _, by omega⟩) ⟨J, J, J, J, trivial⟩ rfl ?_
 rintro ⟨m, hm, hok⟩
 dsimp only [keepS, St.put, sget, slotsOf, nn1, nn2, nn3, nn4, nn5, nn6, Nat.reduceBEq, Nat.reduceAdd, nn7, nn8]
 have h1 := hf.len
 have h2 := hf.many
 refine W 1 ?_
 refine iff (fun c_11 c_11' => ?_) (fun c_11 c_11' => ?_)
 ·
  have hma : m < a.length := by omega
  have h3 := hf.row m hma (by omega)
  have h4 := hf.wide m (by omega)
  refine W 8 ?_
  refine aw_loopk (ι := { k : Nat // k ≤ a[m].length ∧ ∀ i, i < k → (p3 : i < a[m].length) → (p4 : i < b[m].length) → opp a[m][i] b[m][i] = false }) [1, 5, 6, 8, 9, 10, 16] (fun i => [(17, I i.1)]) (fun H i => H) (fun i => a[m].length - i.1) (⟨0, Nat.zero_le _, by omega⟩) ⟨J, J, J, J, J, J, J, J, trivial⟩ rfl ?_
  rintro ⟨k, hk, hin⟩
  dsimp only [keepS, St.put, sget, slotsOf, nn1, nn2, nn3, nn4, nn5, nn6, Nat.reduceBEq, Nat.reduceAdd, nn7, nn8]
  refine W 1 ?_
  refine iff (fun c_18 c_18' => ?_) (fun c_18 c_18' => ?_)
  ·
   refine W 2 ?_
   refine aw_draw 10 mo (by kernel_rfl) ?_
   refine WD 9 ?_
   refine dcl A (differ_pure _ _) ?_
   refine dr_end ?_
   refine W 0 ?_
   refine aw_cond J (fun c_29 => ?_) (fun c_29 => ?_)
   ·
    have c_29' := c_29
    try simp only [qq] at c_29'
    refine W 1 ?_
    exact retQ_pure (v := .raw _) rfl rfl (Less.eq (by rw [agree_no (m := m) (k := k) hma (by omega) (by omega) (by omega) (by simpa using c_29)]))
   have c_29' := c_29
   try simp only [qq] at c_29'
   refine W 2 ?_
   exact ⟨⟨k + 1, by omega, fun i hi p3 p4 => (by by_cases e : i = k; (subst e; simpa using c_29); exact hin i (by omega) p3 p4)⟩, by simp only; omega, Sub.slots ⟨J, J, J, J, J, J, J, J, trivial⟩⟩
  refine V 2 ?_
  refine sq_nil ?_
  have hrow : agRow a b m := fun i p1 p2 p3 p4 => hin i (by omega) p3 p4
  exact ⟨⟨m + 1, by omega, fun i hi => (by by_cases e : i = m; (subst e; exact hrow); exact hok i (by omega))⟩, by simp only; omega, Sub.slots ⟨J, J, J, J, trivial⟩⟩
 refine W 1 ?_
 exact retQ_pure (v := .raw _) rfl rfl (Less.eq (by rw [agree_yes fun i => (by by_cases e : i < a.length; exact hok i (by omega); exact fun k p1 => absurd p1 e)]))
end Go.Proofs.YtmbknoaneglilaaGreatDoor
namespace Go.Proofs.YtmbknoaneglilaaGreatDoor
open Go Go.Ab Ni Ol
instance bi152 : BdI Tryz.prog 152 [.raw (.int .i64 0), .raw (.int .i64 0), .raw (.int .i64 0), .raw (.int .i64 0), .raw (.slice none 0 0)] true [(0, 4), (4, 1)] 0 := ⟨by kernel_rfl⟩
instance bi73 : BdI Tryz.prog 73 [.raw (.int .i64 0), .raw (.int .i64 0), .raw (.int .i64 0), .raw (.int .i64 0)] true [(0, 1), (1, 3)] 0 := ⟨by kernel_rfl⟩
instance en140 : EnT Tryz.prog 140 := ⟨Ent.of Tryz.func140 (by kernel_rfl) rfl⟩
instance en169 : EnT Tryz.prog 169 := ⟨Ent.of Tryz.func169 (by kernel_rfl) rfl⟩
instance z26 : ZeO Tryz.prog 26 [.raw (.slice none 0 0)] := ⟨by kernel_rfl⟩
instance z28 : ZeO Tryz.prog 28 [.raw (.int .i64 0), .raw (.int .i64 0), .raw (.int .i64 0)] := ⟨by kernel_rfl⟩
abbrev thA (t : Th) : AV := .agg (thC t)
structure ItO (e : Env) (l m : Nat) (st : Bool) (T : Nat → List AObj) (xs : List AV) : Prop where
  hT : ∀ i, (T i).length = (T 0).length
  hm : m ≤ xs.length
  all : st = false → m = xs.length
  pos : st = true → 0 < m
  hy : ∀ i x, i < m → xs[i]? = some x → ∀ X, AYieldAt e Tryz.prog l x (T i ++ X) (goes m st i) (T (i + 1) ++ X)
theorem ItO.lt {e : Env} {l m : Nat} {st : Bool} {T : Nat → List AObj} {xs : List AV} (it : ItO e l m st T xs) {k : Nat} (h : st = true → k < m) (hk : k < xs.length) : k < m := by
  cases hst : st with
  | true => exact h hst
  | false => have := it.all hst; omega
theorem goes_no {m k : Nat} {st : Bool} (h : goes m st k = false) : st = true ∧ k + 1 = m := by
  unfold goes at h
  cases hst : st with
  | false => rw [hst] at h; cases h
  | true => rw [hst] at h; exact ⟨rfl, Nat.eq_of_beq_eq_true (by simpa using h)⟩
theorem goes_yes {m k : Nat} {st : Bool} (h : goes m st k = true) (hk : k < m) : st = true → k + 1 < m := by
  intro hst
  unfold goes at h
  rw [hst] at h
  have : k + 1 ≠ m := Nat.ne_of_beq_eq_false (by simpa using h)
  omega
theorem pos0 (x : Sn) : pos x 0 0 0 = 0 := by simp [pos]
theorem ca_of {x : Sn} (hx : snOK x = true) {i : Nat} (hi : i < x.l.length) {n k : Int} (hn : x.r.nl ≤ n ∧ n ≤ x.r.nh) (hk : x.r.xl ≤ k ∧ k ≤ x.r.xh) : CaB ⟨x.s, x.l[i], ⟨n, k, x.r.y⟩⟩ := by
  unfold snOK at hx
  simp only [Bool.and_eq_true] at hx
  obtain ⟨⟨h1, h2⟩, h3⟩ := hx
  have h4 := (coOK_facts h2).2 i hi
  have h5 := rcOK_facts h3
  refine caOK_B ?_
  unfold caOK
  simp only [Bool.and_eq_true]
  exact ⟨⟨h1, h4⟩, pcOK_iff.2 ⟨by simp only; omega, by simp only; omega, by simp only; omega⟩⟩
theorem sn_facts {x : Sn} (hx : snOK x = true) : (1 ≤ x.l.length ∧ x.l.length ≤ 6) ∧ stOK x.s = true ∧ rcOK x.s x.r = true ∧ ∀ i, (hi : i < x.l.length) → fgOK x.l[i] = true := by
  unfold snOK at hx
  simp only [Bool.and_eq_true] at hx
  exact ⟨(coOK_facts hx.1.2).1, hx.1.1, hx.2, (coOK_facts hx.1.2).2⟩
theorem readings_call {x : Sn} (hx : snOK x = true) {e : Env} {l m : Nat} {st : Bool} {T : Nat → List AObj} (it : ItO e l m st T ((rdgs x).map thA)) : ACallE e Tryz.prog 169 [.fn (.yield l) [] [], .iptr (snC x)] (T 0) (fun y H' => y = .ret (.tup []) ∧ ∃ X, H' = T m ++ X) := by
  refine acallE_of_marks (rs := []) Tryz.func169 rfl rfl (Nat.le_of_ble_eq_true rfl) fun e0 hle he0 => ?_
  rw [nil_pre (T 0)]
  obtain ⟨hlb, hs1, hr1, _⟩ := sn_facts hx
  have hs := stOK_iff.1 hs1
  have hr := rcOK_facts hr1
  refine W 4 ?_
  refine aw_loopk (ι := { g : Nat × List AObj // g.1 ≤ x.l.length ∧ (st = true → pos x g.1 0 0 < m) }) [0, 1, 9, 10] (fun g => [(11, I g.1.1)]) (fun H g => T (pos x g.1.1 0 0) ++ g.1.2) (fun g => x.l.length - g.1.1) (⟨(0, []), Nat.zero_le _, fun h => by simpa [pos] using it.pos h⟩) ⟨J, J, J, J, J, trivial⟩ (by simp only [pos0]; rfl) ?_
  rintro ⟨⟨i, X⟩, hi, hkm⟩
  dsimp only [keepS, St.put, sget, slotsOf, nn1, nn2, nn3, nn4, nn5, nn6, Nat.reduceBEq, Nat.reduceAdd, nn7, nn8]
  dsimp only at hi hkm
  refine W 1 ?_
  refine iff (fun c_12 c_12' => ?_) (fun c_12 c_12' => ?_)
  · skip
    have hil : i < x.l.length := by omega
    have hgi : x.l.getD i [] = x.l[i] := getD_get hil
    refine W 3 ?_
    refine sq_allocP (H0 := T (pos x i 0 0)) rfl z26.h ?_
    refine W 1 ?_
    refine sq_storeE (A := T (pos x i 0 0)) (X := X) rfl rfl J J rfl ty26.h rfl rfl ?_
    refine sq_frz (A := T (pos x i 0 0)) (X := X) [0, 1, 3, 9, 10, 11] 4 rfl ?_
    refine W 5 ?_
    refine aw_loopk (ι := { g : Nat × List AObj // g.1 ≤ nN x ∧ (st = true → pos x i g.1 0 < m) }) [0, 1, 3, 4, 9, 10, 11] (fun g => [(5, I (x.r.nl + (g.1.1 : Nat)))]) (fun H g => T (pos x i g.1.1 0) ++ g.1.2) (fun g => nN x - g.1.1) (⟨(0, X ++ [.dead]), Nat.zero_le _, hkm⟩) ⟨(by exact less_int (by simp)), J, J, J, J, J, J, J, trivial⟩ rfl ?_
    rintro ⟨⟨d, Y⟩, hd, hkd⟩
    dsimp only [keepS, St.put, sget, slotsOf, nn1, nn2, nn3, nn4, nn5, nn6, Nat.reduceBEq, Nat.reduceAdd, nn7, nn8]
    dsimp only at hd hkd
    refine W 6 ?_
    refine iff (fun c_25 c_25' => ?_) (fun c_25 c_25' => ?_)
    · skip
      have hdl : d < nN x := by unfold nN; omega
      refine W 5 ?_
      refine aw_loopk (ι := { g : Nat × List AObj // g.1 ≤ nX x ∧ (st = true → pos x i d g.1 < m) }) [0, 1, 3, 4, 5, 9, 10, 11] (fun g => [(6, I (x.r.xl + (g.1.1 : Nat)))]) (fun H g => T (pos x i d g.1.1) ++ g.1.2) (fun g => nX x - g.1.1) (⟨(0, Y), Nat.zero_le _, hkd⟩) ⟨(by exact less_int (by simp)), J, J, J, J, J, J, J, J, trivial⟩ rfl ?_
      rintro ⟨⟨k, Z⟩, hk, hkx⟩
      dsimp only [keepS, St.put, sget, slotsOf, nn1, nn2, nn3, nn4, nn5, nn6, Nat.reduceBEq, Nat.reduceAdd, nn7, nn8]
      dsimp only at hk hkx
      refine W 6 ?_
      refine iff (fun c_37 c_37' => ?_) (fun c_37 c_37' => ?_)
      · skip
        have hkl : k < nX x := by unfold nX; omega
        have hc := ca_of hx hil (n := x.r.nl + (d : Nat)) (k := x.r.xl + (k : Nat)) (by omega) (by omega)
        have hg := rdgs_get hil hdl hkl
        have hget : ((rdgs x).map thA)[pos x i d k]? = some (thA (thrown x i (x.r.nl + (d : Nat)) (x.r.xl + (k : Nat)))) := by rw [List.getElem?_map, hg]; rfl
        have hth : Less (.agg [I i, I (x.r.nl + (d : Nat)), I (x.r.xl + (k : Nat)), I x.r.y, strs (Ca.mk x.s x.l[i] ⟨x.r.nl + (d : Nat), x.r.xl + (k : Nat), x.r.y⟩).shadow]) (thA (thrown x i (x.r.nl + (d : Nat)) (x.r.xl + (k : Nat)))) := Less.eq (by unfold thrown; rw [hgi])
        have hkL := it.lt hkx (lt_of_get? hget)
        refine W 6 ?_
        refine sq_allocP (H0 := T (pos x i d k)) rfl z28.h ?_
        refine sq_storeE (A := T (pos x i d k)) (X := Z) rfl rfl J J rfl ty28.h rfl rfl ?_
        refine sq_frz (A := T (pos x i d k)) (X := Z) [0, 1, 3, 4, 5, 6, 9, 10, 11] 7 rfl ?_
        refine W 0 ?_
        refine aw_draw 11 mo (by kernel_rfl) ?_
        refine WD 9 ?_
        refine dcl A (shadow_pure hc) ?_
        refine WD 1 ?_
        refine sq_yield hle rfl J ?_ (it.hy _ _ hkL hget _) ?_
        · exact hth
        refine W 1 ?_
        refine aw_cond J (fun c_58 => ?_) (fun c_58 => ?_)
        · skip
          have c_58' := c_58
          try simp only [qq] at c_58'
          have hg2 := goes_no (m := m) (st := st) (k := pos x i d k) (by simpa using c_58)
          refine W 0 ?_
          exact ⟨_, .tup [], rfl, rfl, rfl, Z ++ [.dead], by rw [← hg2.2]; rfl⟩
        · skip
          have c_58' := c_58
          try simp only [qq] at c_58'
          have hg2 := goes_yes (m := m) (st := st) (k := pos x i d k) (by simpa using c_58) hkL
          rw [show pos x i d k + 1 = pos x i d (k + 1) from rfl]
          refine V 3 ?_
          refine sq_nil ?_
          refine ⟨⟨(k + 1, Z ++ [.dead]), by simp only; omega, hg2⟩, by simp only; omega, ?_⟩
          refine Sub.slots ?_
          exact ⟨(by exact less_int (by simp <;> omega)), J, J, J, J, J, J, J, J, trivial⟩
      · skip
        obtain rfl : k = nX x := by unfold nX at *; omega
        rw [pos_x]
        refine V 3 ?_
        refine sq_nil ?_
        have hke := hkx
        rw [pos_x] at hke
        exact ⟨⟨(d + 1, Z), by simp only; omega, hke⟩, by simp only; omega, Sub.slots ⟨(by exact less_int (by simp <;> omega)), J, J, J, J, J, J, J, trivial⟩⟩
    · skip
      obtain rfl : d = nN x := by unfold nN at *; omega
      rw [pos_n]
      refine V 2 ?_
      refine sq_nil ?_
      have hki := hkd
      rw [pos_n] at hki
      exact ⟨⟨(i + 1, Y), by simp only; omega, hki⟩, by simp only; omega, Sub.slots ⟨J, J, J, J, J, trivial⟩⟩
  · skip
    obtain rfl : i = x.l.length := by omega
    refine aw_exit ?_
    have hst : st = false := by
      cases h : st with
      | false => rfl
      | true => have h1 := hkm h; have h2 := it.hm; rw [List.length_map, rdgs_len] at h2; omega
    have hmm := it.all hst
    rw [List.length_map, rdgs_len] at hmm
    exact ⟨_, .tup [], rfl, rfl, rfl, X, by rw [hmm]; rfl⟩
/-- **All readings**, in order. -/
theorem readings_iter {x : Sn} (hx : snOK x = true) : AIter Tryz.prog 169 [] [.iptr (snC x)] ((rdgs x).map thA) := by
  intro m st hm h1 h2 l T e vs hT ok hH hs hy
  refine (readings_call hx ⟨hT, hm, h1, h2, fun i a hi ha X => hy i a hi ha X⟩ e vs (.refl e) ok hH hs).mono ?_
  rintro y w' ⟨ax, e', rfl, ok', fr, ⟨rfl, hX⟩, u, rfl, hu⟩
  exact ⟨u, e', rfl, rfl, ok', fr, hX⟩
theorem readings_pure (x : Sn) : APure Tryz.prog 140 [snA x] (.fn (.func 169) [] [.iptr (snC x)]) := by
  refine apure_of (rs := [.tmp 2]) Tryz.func140 rfl rfl (Nat.le_of_ble_eq_true rfl) (by simp [AV.pureL, AV.pureB, AV.pureE, pureE_map]) (by simp [AV.pureL, AV.pureB, AV.pureE, pureE_map]) fun e0 he0 => ?_
  refine aw_seq (aw_region (sq_box rfl J rfl (asr J rfl (sq_nil (aw_seq (aw_region (sq_ev rfl ev_makeFunc ?_)))))))
  refine sq_ev rfl (ev_as (v := .fn _ _ _) J) ?_
  refine sq_nil ?_
  refine aw_sub (sub_iptr (j := 0) (l := snC x) (sl' := [(2, .fn (.func 169) [] [.iptr (snC x)])]) (H' := [.dead]) rfl rfl ?_) ?_
  · intro q hq e e' _ key v hv
    obtain rfl := List.mem_singleton.1 hq
    have hv : Rep e (.fn (.func 169) [] [.ptr 0 0]) v := hv
    rw [Rep] at hv ⊢
    obtain ⟨x, y, h1, h2, h3⟩ := hv
    rw [RepL] at h3
    obtain ⟨u, rest, h4, h5, h6⟩ := h3
    rw [RepL] at h6
    refine ⟨x, y, h1, ?_, ?_⟩
    · rw [RepL] at h2 ⊢; exact h2
    · rw [h4, h6]; exact RepL.cons (key _ h5) RepL.nil
  refine aw_ret ?_
  exact retQ_pure (v := .fn _ _ _) rfl rfl J
end Go.Proofs.YtmbknoaneglilaaGreatDoor
namespace Go.Proofs.YtmbknoaneglilaaGreatDoor
open Go Go.Ab Ni Ol
instance en141 : EnT Tryz.prog 141 := ⟨Ent.of Tryz.func141 (by kernel_rfl) rfl⟩
instance fo152_1 : FoF Tryz.prog 152 1 4 24 := ⟨by kernel_rfl⟩
instance sf146 : SlS Tryz.prog 146 152 5 56 := ⟨SlFact.of (by kernel_rfl)⟩
instance sl146 : SlE Tryz.prog 146 152 5 := ⟨by kernel_rfl⟩
instance ty145 : TyF Tryz.prog 145 true 12 := ⟨by kernel_rfl⟩
instance ty146 : TyF Tryz.prog 146 false 1 := ⟨by kernel_rfl⟩
instance ty152 : TyF Tryz.prog 152 true 5 := ⟨by kernel_rfl⟩
instance ud146 : UnD Tryz.prog 146 (.slice 152) := ⟨Tryz.underlying146⟩
instance z146 : ZeO Tryz.prog 146 [.raw (.slice none 0 0)] := ⟨by kernel_rfl⟩
instance z152 : ZeO Tryz.prog 152 [.raw (.int .i64 0), .raw (.int .i64 0), .raw (.int .i64 0), .raw (.int .i64 0), .raw (.slice none 0 0)] := ⟨by kernel_rfl⟩
abbrev ths (l : List Th) : AV := .sl 5 (l.map thC)
def clOf : AV → List AV
  | .agg l => l
  | _ => []
theorem inE_ths (n : Nat) (l : List Th) : AV.inE n (l.map thC) = true := inE_map fun x _ => by simp [thC, AV.inL, AV.inB, inE_strs]
theorem pureE_ths (l : List Th) : AV.pureE (l.map thC) = true := pureE_map fun x _ => by simp [thC, AV.pureL, AV.pureB, AV.pureE, pureE_map]
theorem th_cl {x : Sn} {a : AV} (n : Nat) (h : a ∈ (rdgs x).map thA) : a.cells = some (clOf a) ∧ (clOf a).length = 5 ∧ AV.inL n (clOf a) = true := by
  obtain ⟨t, _, rfl⟩ := List.mem_map.1 h
  exact ⟨rfl, rfl, by simp [clOf, thC, AV.inL, AV.inB, inE_strs]⟩
theorem th_pure {x : Sn} {a : AV} (h : a ∈ (rdgs x).map thA) : a.pureB = true := by
  obtain ⟨t, _, rfl⟩ := List.mem_map.1 h
  simp [thC, AV.pureL, AV.pureB, AV.pureE, pureE_map]
theorem ths_get {L : List Th} {i : Nat} {a : AV} (h : (L.map thA)[i]? = some a) : ∃ hk : i < L.length, a = thA L[i] := by
  rw [List.getElem?_map] at h
  cases hy : L[i]? with
  | none => rw [hy] at h; cases h
  | some y =>
    rw [hy] at h
    have hk := lt_of_get? hy
    rw [List.getElem?_eq_getElem hk] at hy
    exact ⟨hk, by rw [Option.some.inj hy]; exact (Option.some.inj h).symm⟩
theorem fl_yes {q : Th → Bool} {L : List Th} {i : Nat} (hk : i < L.length) (h : q L[i] = true) : (L.take (i + 1)).filter q = (L.take i).filter q ++ [L[i]] := by
  rw [List.take_succ_eq_append_getElem hk, List.filter_append, List.filter_cons_of_pos h]; rfl
theorem fl_no {q : Th → Bool} {L : List Th} {i : Nat} (hk : i < L.length) (h : q L[i] = false) : (L.take (i + 1)).filter q = (L.take i).filter q := by
  rw [List.take_succ_eq_append_getElem hk, List.filter_append, List.filter_cons_of_neg (by simp [h])]; simp
theorem rdgs_mx {x : Sn} (hx : snOK x = true) : (rdgs x).length ≤ 1000 := by
  obtain ⟨h1, h2, h3, _⟩ := sn_facts hx
  have h4 := rcOK_facts h3
  rw [rdgs_len]
  have a1 : nN x ≤ 6 := by unfold nN; omega
  have a2 : nX x ≤ 6 := by unfold nX; omega
  unfold pos
  have : (x.l.length * nN x + 0) * nX x ≤ (6 * 6) * 6 := Nat.mul_le_mul (by have := Nat.mul_le_mul h1.2 a1; omega) a2
  omega
theorem rdgs_sh {x : Sn} (hx : snOK x = true) {t : Th} (ht : t ∈ rdgs x) : t.sh.length = x.s.high.toNat ∧ ∀ r ∈ t.sh, r.length = x.s.wide.toNat := by
  obtain ⟨i, n, k, hi, hn, hk, rfl⟩ := rdgs_mem ht
  unfold thrown Ca.shadow
  refine ⟨by simp, fun r hr => ?_⟩
  obtain ⟨m, _, rfl⟩ := List.mem_map.1 hr
  simp [Ca.srow]
structure Clo (s : Sg) (l : List (List UInt8)) : Prop where
  len : l.length = s.high.toNat
  row : ∀ r ∈ l, r.length = s.wide.toNat
theorem rdgs_clo {x : Sn} (hx : snOK x = true) {t : Th} (ht : t ∈ rdgs x) : Clo x.s t.sh := ⟨(rdgs_sh hx ht).1, (rdgs_sh hx ht).2⟩
theorem clo_fit {s : Sg} {a b : List (List UInt8)} (hs : stOK s = true) (ha : Clo s a) (hb : Clo s b) : Fit a b := by
  have h := stOK_iff.1 hs
  refine ⟨by rw [ha.len, hb.len]; exact Nat.le_refl _, fun m h1 h2 => by rw [ha.row _ (List.getElem_mem h1), hb.row _ (List.getElem_mem h2)]; exact Nat.le_refl _, by rw [hb.len]; omega, fun m h1 => by rw [hb.row _ (List.getElem_mem h1)]; omega⟩
theorem sight_clo {s : Sg} {l : List (List UInt8)} (hs : stOK s = true) (h : siOK s l = true) : Clo s l := by
  have h0 := stOK_iff.1 hs
  unfold siOK at h
  simp only [Bool.and_eq_true, decide_eq_true_eq, List.all_eq_true, siRow] at h
  exact ⟨by omega, fun r hr => by have := (h.2 r hr).1; omega⟩
theorem agreeing_pure {x : Sn} {sight : List (List UInt8)} (hxo : snOK x = true) (hsi : Clo x.s sight) : APure Tryz.prog 103 [snA x, strs sight] (.tup [ths (agrees x sight), B (decide (0 < (agrees x sight).length))]) := by
  refine apure_of_marks (rs := [.tmp 4, .tmp 5]) Tryz.func103 rfl rfl (Nat.le_of_ble_eq_true rfl) (by simp [AV.pureL, AV.pureB, AV.pureE, pureE_map]) (by first | rfl | (simp [AV.pureL, AV.pureB, AV.pureE, pureE_map])) fun e0 he0 => ?_
  have hst := (sn_facts hxo).2.1
  refine W 6 ?_
  refine cl A (readings_pure x) ?_
  refine sq_nil (aw_block ?_)
  refine aw_sub (sub_token_box 2 5 rfl) ?_
  refine aw_rangeFuncB [3, 6] (xs := (rdgs x).map thA) (cl := clOf) (fun k => [.cells (snC x), .cells [strs sight], .cells [.own 3 5 ((((rdgs x).take k).filter fun t => agree t.sh sight).map thC)], .tok ((((rdgs x).take k).filter fun t => agree t.sh sight).map thC).length]) ((rdgs x).map thA).length none (Nat.le_refl _) (fun _ => rfl) (fun h => absurd rfl h) rfl rfl J en169.h (readings_iter hxo) rfl (fun _ => rfl) (fun k hk => by show objsIn 4 _ = true; simp [objsIn, AObj.inB, AV.inB, AV.inL, inE_ths, inE_figs, inE_strs]) (fun x hx => th_pure hx) rfl rfl (by decide) rfl rfl z152.h rfl ty152.h (fun x hx => th_cl _ hx) (by decide) (by show slotsIn 4 [(3, AV.ptr 1 0), (6, AV.ptr 2 0)] = true; rfl) ?_ ?_
  · intro l i x e0 hi hx he0
    obtain ⟨hk, rfl⟩ := ths_get hx
    have hfit := clo_fit hst (rdgs_clo hxo (List.getElem_mem hk)) hsi
    have hal := rdgs_mx hxo
    have hfl : (((rdgs x).take i).filter fun t => agree t.sh sight).length ≤ i := Nat.le_trans (List.length_filter_le _ _) (by rw [List.length_take]; omega)
    dsimp only [keepS, St.put, sget, slotsOf, nn1, nn2, nn3, nn4, nn5, nn6, Nat.reduceBEq, Nat.reduceAdd, nn7, nn8]
    refine W 3 ?_
    refine cl A (agree_pure hfit) ?_
    refine W 0 ?_
    refine aw_cond J (fun c_14 => ?_) (fun c_14 => ?_)
    · skip
      have c_14' := c_14
      try simp only [qq] at c_14'
      have eS : (((rdgs x).take (i + 1)).filter fun t => agree t.sh sight).map thC = (((rdgs x).take i).filter fun t => agree t.sh sight).map thC ++ [thC (rdgs x)[i]] := by rw [fl_yes hk (by exact c_14), List.map_append]; rfl
      refine W 2 ?_
      refine sq_ev rfl (ev_buildSlice (es := [[_, _, _, _, _]]) sf146.h rfl rfl rfl rfl) ?_
      first | refine sq_append rfl sf146.h Tryz.underlying146 rfl rfl J (Nat.succ_pos _) (by simp; omega) (by simp; omega) ?_ | refine sq_append rfl sf146.h Tryz.underlying146 rfl rfl (less_slx _ _) (Nat.succ_pos _) (by simp; omega) (by simp; omega) ?_
      refine W 1 ?_
      exact ⟨⟨[], congrArg (fun L => [AObj.cells (snC x), .cells [strs sight], .cells [.own 3 5 L], .tok L.length]) eS.symm⟩, rfl, by split <;> rfl⟩
    · skip
      have c_14' := c_14
      try simp only [qq] at c_14'
      have eS : (((rdgs x).take (i + 1)).filter fun t => agree t.sh sight).map thC = (((rdgs x).take i).filter fun t => agree t.sh sight).map thC := by rw [fl_no hk (by exact c_14)]
      refine W 0 ?_
      exact ⟨⟨[], congrArg (fun L => [AObj.cells (snC x), .cells [strs sight], .cells [.own 3 5 L], .tok L.length]) eS.symm⟩, rfl, by split <;> rfl⟩
  · rintro _ rfl
    have hfull : ((rdgs x).map thA).length = (rdgs x).length := by simp
    rw [hfull, List.take_length]
    refine W 0 ?_
    refine aw_draw 6 mo (by kernel_rfl) ?_
    refine WD 6 ?_
    refine W 0 ?_
    exact retQM_pure (v := .tup [.own _ _ _, .raw _]) rfl rfl (less_tup ⟨Less.trans (less_own _ _ _) (Less.eq rfl), Less.eq (by simp [agrees]), trivial⟩)
end Go.Proofs.YtmbknoaneglilaaGreatDoor
namespace Go.Proofs.YtmbknoaneglilaaGreatDoor
open Go Go.Ab Ni Ol
instance bi145 : BdI Tryz.prog 145 [.raw (.int .i64 0), .raw (.int .i64 0), .raw (.int .i64 0), .raw (.int .i64 0), .raw (.int .i64 0), .raw (.int .i64 0), .raw (.slice none 0 0), .raw (.int .i64 0), .raw (.int .i64 0), .raw (.int .i64 0), .raw (.int .i64 0), .raw (.int .i64 0)] true [(0, 6), (6, 1), (7, 5)] 0 := ⟨by kernel_rfl⟩
instance en101 : EnT Tryz.prog 101 := ⟨Ent.of Tryz.func101 (by kernel_rfl) rfl⟩
instance en102 : EnT Tryz.prog 102 := ⟨Ent.of Tryz.func102 (by kernel_rfl) rfl⟩
instance fo152_0 : FoF Tryz.prog 152 0 0 73 := ⟨by kernel_rfl⟩
instance sf53 : SlS Tryz.prog 53 73 4 32 := ⟨SlFact.of (by kernel_rfl)⟩
instance ty53 : TyF Tryz.prog 53 false 1 := ⟨by kernel_rfl⟩
instance ty73 : TyF Tryz.prog 73 true 4 := ⟨by kernel_rfl⟩
instance ud53 : UnD Tryz.prog 53 (.slice 73) := ⟨Tryz.underlying53⟩
instance z145 : ZeO Tryz.prog 145 [.raw (.int .i64 0), .raw (.int .i64 0), .raw (.int .i64 0), .raw (.int .i64 0), .raw (.int .i64 0), .raw (.int .i64 0), .raw (.slice none 0 0), .raw (.int .i64 0), .raw (.int .i64 0), .raw (.int .i64 0), .raw (.int .i64 0), .raw (.int .i64 0)] := ⟨by kernel_rfl⟩
instance z53 : ZeO Tryz.prog 53 [.raw (.slice none 0 0)] := ⟨by kernel_rfl⟩
def askOK (x : Sn) (sight : List (List UInt8)) : Bool := snOK x && siOK x.s sight
theorem ask_f1 {x : Sn} {sight : List (List UInt8)} (h : snOK x = false) : askOK x sight = false := by unfold askOK; rw [h]; rfl
theorem ask_f2 {x : Sn} {sight : List (List UInt8)} (h : siOK x.s sight = false) : askOK x sight = false := by unfold askOK; rw [h]; simp
theorem ask_t {x : Sn} {sight : List (List UInt8)} (h : snOK x = true) (h2 : siOK x.s sight = true) : askOK x sight = true := by unfold askOK; rw [h, h2]; rfl
end Go.Proofs.YtmbknoaneglilaaGreatDoor
namespace Go.Proofs.YtmbknoaneglilaaGreatDoor
open Go Go.Ab Ni Ol
instance bi185 : BdI Tryz.prog 185 [] true [] 0 := ⟨by kernel_rfl⟩
instance en103 : EnT Tryz.prog 103 := ⟨Ent.of Tryz.func103 (by kernel_rfl) rfl⟩
instance en108 : EnT Tryz.prog 108 := ⟨Ent.of Tryz.func108 (by kernel_rfl) rfl⟩
instance fo73_0 : FoF Tryz.prog 73 0 0 3 := ⟨by kernel_rfl⟩
theorem it3 : isIntT Tryz.prog 3 = true := by kernel_rfl
theorem mt155 : mapTy Tryz.prog 155 = some (3, 185) := by kernel_rfl
instance sf117 : SlS Tryz.prog 117 108 1 8 := ⟨SlFact.of (by kernel_rfl)⟩
instance ty185 : TyF Tryz.prog 185 true 0 := ⟨by kernel_rfl⟩
instance ud117 : UnD Tryz.prog 117 (.slice 108) := ⟨Tryz.underlying117⟩
instance z185 : ZeO Tryz.prog 185 [] := ⟨by kernel_rfl⟩
def figK (l : List Th) : List Int := l.map fun t => (t.rd.fig : Int)
theorem figK_take {l : List Th} {k : Nat} (h : k < l.length) : figK (l.take k) ++ [(l[k].rd.fig : Int)] = figK (l.take (k + 1)) := by
  unfold figK; rw [List.take_succ_eq_append_getElem h, List.map_append]; rfl
theorem seenF_keys (l : List Th) : seenF l = keysIn (figK l) := by
  unfold seenF keysIn figK
  rw [List.foldl_map]; rfl
abbrev seenO (l : List Th) : AObj := .map (imap (setM (figK l)))
theorem seenO_len (l : List Th) : ((imap (setM (figK l))).length : Int) = lenS l := by
  unfold lenS; rw [seenF_keys]; simp [imap, setM]
theorem seenF_mem {l : List Th} {n : Int} : n ∈ seenF l ↔ n ∈ figK l := by rw [seenF_keys]; exact mem_keysIn
def whoK (S : List Int) (k : Nat) : List Int := (List.range k).map (wordOf S)
theorem whoK_succ (S : List Int) (k : Nat) : whoK S (k + 1) = whoK S k ++ [wordOf S k] := by unfold whoK; rw [List.range_succ, List.map_append]; rfl
theorem whoK_len (S : List Int) (k : Nat) : (whoK S k).length = k := by simp [whoK]
def anyOK (x : Sn) (sight : List (List UInt8)) : Bool := decide (0 < (agrees x sight).length)
def whoE (x : Sn) (sight : List (List UInt8)) : Int := if askOK x sight = true then (if anyOK x sight = true then 0 else 7) else 2
def whoL (x : Sn) (sight : List (List UInt8)) : List Int := if askOK x sight = true ∧ anyOK x sight = true then whoOf x sight else []
theorem whoE_0 {x : Sn} {sight : List (List UInt8)} (h : askOK x sight = false) : whoE x sight = 2 ∧ whoL x sight = [] := by unfold whoE whoL; rw [h]; simp
theorem whoE_1 {x : Sn} {sight : List (List UInt8)} (h : askOK x sight = true) (h2 : anyOK x sight = false) : whoE x sight = 7 ∧ whoL x sight = [] := by unfold whoE whoL; rw [h, h2]; simp
theorem whoE_2 {x : Sn} {sight : List (List UInt8)} (h : askOK x sight = true) (h2 : anyOK x sight = true) : whoE x sight = 0 ∧ whoL x sight = whoOf x sight := by unfold whoE whoL; rw [h, h2]; simp
theorem word_1 {l : List Th} {k : Nat} (h : decide ((k : Int) ∈ figK l) = false) : wordOf (seenF l) k = 1 := by
  unfold wordOf; rw [if_neg (by rw [seenF_mem]; simpa using h)]
theorem word_3 {l : List Th} {k : Nat} (h : decide ((k : Int) ∈ figK l) = true) (h2 : ((imap (setM (figK l))).length : Int) = 1) : wordOf (seenF l) k = 3 := by
  rw [seenO_len] at h2; unfold lenS at h2
  unfold wordOf; rw [if_pos (by rw [seenF_mem]; simpa using h), if_pos (by omega)]
theorem word_2 {l : List Th} {k : Nat} (h : decide ((k : Int) ∈ figK l) = true) (h2 : ¬ ((imap (setM (figK l))).length : Int) = 1) : wordOf (seenF l) k = 2 := by
  rw [seenO_len] at h2; unfold lenS at h2
  unfold wordOf; rw [if_pos (by rw [seenF_mem]; simpa using h), if_neg (by omega)]
theorem agrees_len {x : Sn} {sight : List (List UInt8)} (hx : snOK x = true) : (agrees x sight).length ≤ 1000 := Nat.le_trans (List.length_filter_le _ _) (rdgs_mx hx)
theorem seen_call (l : List Th) (hl : l.length ≤ 1000000) (H0 : List AObj) : ACall Tryz.prog 108 [ths l] H0 (fun y H' => y = .ret (.mp H0.length) ∧ ∃ X, H' = H0 ++ (seenO l :: X)) := by
  refine acall_of (rs := [.tmp 2]) Tryz.func108 rfl rfl (Nat.le_of_ble_eq_true rfl) fun e0 he0 => ?_
  refine W 1 ?_
  refine sq_makeMap rfl ?_
  refine W 4 ?_
  refine aw_loopk (ι := { g : Nat × List AObj // g.1 ≤ l.length }) [3, 7, 8] (fun g => [(9, I g.1.1)]) (fun H g => H0 ++ (seenO (l.take g.1.1) :: g.1.2)) (fun g => l.length - g.1.1) (⟨(0, []), Nat.zero_le _⟩) ⟨J, J, J, J, trivial⟩ rfl ?_
  rintro ⟨⟨k, X⟩, hk⟩
  dsimp only [keepS, St.put, sget, slotsOf, nn1, nn2, nn3, nn4, nn5, nn6, Nat.reduceBEq, Nat.reduceAdd, nn7, nn8]
  dsimp only at hk
  refine W 1 ?_
  refine iff (fun c_10 c_10' => ?_) (fun c_10 c_10' => ?_)
  · skip
    have hkl : k < l.length := by omega
    refine W 2 ?_
    refine sq_allocP (H0 := H0) (X := seenO (l.take k) :: X) rfl z152.h ?_
    refine sq_storeE (A := H0) (X := seenO (l.take k) :: X) rfl rfl J J rfl ty152.h rfl rfl ?_
    refine sq_frz (A := H0) (X := seenO (l.take k) :: X) [3, 7, 8, 9] 5 rfl ?_
    refine W 5 ?_
    refine sq_setAdd (A := H0) (l := figK (l.take k)) (l' := figK (l.take (k + 1))) rfl rfl mt155 it3 J rfl J less_unit (figK_take hkl) ?_
    refine V 2 ?_
    refine sq_nil ?_
    refine ⟨⟨(k + 1, X ++ [.dead]), by simp only; omega⟩, by simp only; omega, ?_⟩
    refine Sub.slots ?_
    exact ⟨J, J, J, J, trivial⟩
  · skip
    obtain rfl : k = l.length := by omega
    refine W 2 ?_
    exact ⟨rfl, .mp H0.length, rfl, rfl, X, by rw [List.take_length]; rfl⟩
theorem who_pure (x : Sn) (sight : List (List UInt8)) (hl : x.l.length ≤ 1000000) (hs : shp sight) : APure Tryz.prog 79 [stA x.s, figs x.l, rcA x.r, strs sight] (.tup [ints (whoL x sight), I (whoE x sight)]) := by
 refine apure_of (rs := [.tmp 8, .tmp 9]) Tryz.func79 rfl rfl (Nat.le_of_ble_eq_true rfl) (by simp [AV.pureL, AV.pureB, AV.pureE, pureE_map]) (by first | rfl | (simp [AV.pureL, AV.pureB, AV.pureE, pureE_map])) fun e0 he0 => ?_
 refine W 11 ?_
 refine cl A (isscene_pure x hl) ?_
 refine W 2 ?_
 refine sq_split 26 J (fun g2_3 => ?_) (fun g2_3 => ?_)
 ·
  have g2_3' := g2_3
  try simp only [qq] at g2_3'
  refine W 8 ?_
  exact retQ_pure (v := .tup [.raw _, .raw _]) rfl rfl (less_tup ⟨Less.trans (less_nil 1) (Less.eq (by rw [(whoE_0 (ask_f1 g2_3')).2]; rfl)), Less.eq (by rw [(whoE_0 (ask_f1 g2_3')).1]), trivial⟩)
 have g2_3' := g2_3
 try simp only [qq] at g2_3'
 refine W 2 ?_
 refine cy A (issight_pure x.s sight hs) ?_
 refine W 2 ?_
 refine aw_cond J (fun c_31 => ?_) (fun c_31 => ?_)
 ·
  have c_31' := c_31
  try simp only [qq] at c_31'
  refine W 2 ?_
  exact retQ_pure (v := .tup [.raw _, .raw _]) rfl rfl (less_tup ⟨Less.trans (less_nil 1) (Less.eq (by rw [(whoE_0 (ask_f2 (by simpa using c_31))).2]; rfl)), Less.eq (by rw [(whoE_0 (ask_f2 (by simpa using c_31))).1]), trivial⟩)
 have c_31' := c_31
 try simp only [qq] at c_31'
 have hxo : snOK x = true := by cases h : snOK x <;> simp_all
 have hso : siOK x.s sight = true := by cases h : siOK x.s sight <;> simp_all
 have hst := (sn_facts hxo).2.1
 have hsi := sight_clo hst hso
 have hak := ask_t hxo hso
 have hlb := (sn_facts hxo).1
 refine W 2 ?_
 refine cl A (agreeing_pure hxo hsi) ?_
 refine W 7 ?_
 refine aw_cond J (fun c_39 => ?_) (fun c_39 => ?_)
 ·
  have c_39' := c_39
  try simp only [qq] at c_39'
  have hno : anyOK x sight = false := by unfold anyOK; simpa using c_39
  refine W 2 ?_
  exact retQ_pure (v := .tup [.raw _, .raw _]) rfl rfl (less_tup ⟨Less.trans (less_nil 1) (Less.eq (by rw [(whoE_1 hak hno).2]; rfl)), Less.eq (by rw [(whoE_1 hak hno).1]), trivial⟩)
 have c_39' := c_39
 try simp only [qq] at c_39'
 have hyes : anyOK x sight = true := by unfold anyOK; simpa using c_39
 refine W 1 ?_
 refine sq_call (first := []) (cap := []) (args := [ths (agrees x sight)]) rfl en108.h J ⟨J, trivial⟩ (seen_call (agrees x sight) (by have := agrees_len (sight := sight) hxo; omega) _) ?_ (by rintro v H' ⟨h, _⟩; cases h)
 rintro _ _ ⟨h, X, rfl⟩; cases h
 refine V 1 ?_
 refine sq_nil (aw_seq ?_)
 refine aw_sub (Sub.fin (sl' := [(1, figs x.l), (13, .mp 3)]) 4 (H' := [.cells (stC x.s), .cells (rcC x.r), .cells (snC x), seenO (agrees x sight)]) ⟨J, J, trivial⟩ rfl (by simp [slotsIn, objsIn, sget, keepS, AObj.inB, AV.inB, AV.inL, AV.inE, inE_map, inE_ints, inE_strs, inE_figs, inE_cloths, -List.map_append, -List.map_take, -List.map_map]) (by simp [slotsIn, objsIn, sget, keepS, AObj.inB, AV.inB, AV.inL, AV.inE, inE_map, inE_ints, inE_strs, inE_figs, inE_cloths, -List.map_append, -List.map_take, -List.map_map]) (by simp [he0])) ?_
 refine V 4 ?_
 refine sq_nil (aw_block ?_)
 refine aw_sub (sub_token 14 1 J) ?_
 refine aw_loopk (ι := { k : Nat // k ≤ x.l.length }) [13, 43] (fun i => [(44, I i.1), (14, .own 4 1 ((whoK (seenF (agrees x sight)) i.1).map fun x => [I x]))]) (fun H i => H.set 4 (.tok ((whoK (seenF (agrees x sight)) i.1).map fun x => [I x]).length)) (fun i => x.l.length - i.1) (⟨0, Nat.zero_le _⟩) ⟨J, J, J, J, trivial⟩ rfl ?_
 rintro ⟨k, hk⟩
 dsimp only [keepS, St.put, sget, slotsOf, nn1, nn2, nn3, nn4, nn5, nn6, Nat.reduceBEq, Nat.reduceAdd, nn7, nn8]
 have hwl := whoK_len (seenF (agrees x sight)) k
 refine W 1 ?_
 refine iff (fun c_45 c_45' => ?_) (fun c_45 c_45' => ?_)
 ·
  refine W 5 ?_
  refine sq_ev rfl (ev_lookup_set mt155 it3 z185.h J J rfl) ?_
  refine W 7 ?_
  refine aw_cond J (fun c_53 => ?_) (fun c_53 => ?_)
  ·
   have c_53' := c_53
   try simp only [qq] at c_53'
   refine W 2 ?_
   refine sq_ev rfl (ev_len_mp mt155 J rfl) ?_
   refine W 1 ?_
   refine iff (fun c_56 c_56' => ?_) (fun c_56 c_56' => ?_)
   ·
    have hw := word_3 c_53 c_56'
    have eS : ((whoK (seenF (agrees x sight)) (k + 1))).map (fun x => [I x]) = ((whoK (seenF (agrees x sight)) k)).map (fun x => [I x]) ++ [[I 3]] := by rw [whoK_succ, List.map_append]; simp only [List.map_cons, List.map_nil]; rw [hw]
    refine W 3 ?_
    refine sq_ev rfl (ev_buildSlice (es := [[_]]) sf117.h rfl rfl rfl rfl) ?_
    first | refine sq_append rfl sf117.h Tryz.underlying117 rfl rfl J (Nat.succ_pos _) (by simp; omega) (by simp; omega) ?_ | refine sq_append rfl sf117.h Tryz.underlying117 rfl rfl (less_slx _ _) (Nat.succ_pos _) (by simp; omega) (by simp; omega) ?_
    refine W 3 ?_
    exact ⟨⟨k + 1, by omega⟩, by simp only; omega, Sub.fin 5 ⟨J, Less.eq (b := .own 4 1 ((whoK (seenF (agrees x sight)) (k + 1)).map fun x => [I x])) (by rw [eS] <;> rfl), J, J, trivial⟩ (congrArg (fun n => [_, _, _, _, AObj.tok n]) (congrArg List.length eS.symm)) (by simp [slotsIn, objsIn, sget, keepS, AObj.inB, AV.inB, AV.inL, AV.inE, inE_map, inE_ints, inE_strs, inE_figs, inE_cloths, -List.map_append, -List.map_take, -List.map_map]) (by simp [slotsIn, objsIn, sget, keepS, AObj.inB, AV.inB, AV.inL, AV.inE, inE_map, inE_ints, inE_strs, inE_figs, inE_cloths, -List.map_append, -List.map_take, -List.map_map]) (by simp [he0])⟩
   have hw := word_2 c_53 c_56'
   have eS : ((whoK (seenF (agrees x sight)) (k + 1))).map (fun x => [I x]) = ((whoK (seenF (agrees x sight)) k)).map (fun x => [I x]) ++ [[I 2]] := by rw [whoK_succ, List.map_append]; simp only [List.map_cons, List.map_nil]; rw [hw]
   refine W 2 ?_
   refine sq_ev rfl (ev_buildSlice (es := [[_]]) sf117.h rfl rfl rfl rfl) ?_
   first | refine sq_append rfl sf117.h Tryz.underlying117 rfl rfl J (Nat.succ_pos _) (by simp; omega) (by simp; omega) ?_ | refine sq_append rfl sf117.h Tryz.underlying117 rfl rfl (less_slx _ _) (Nat.succ_pos _) (by simp; omega) (by simp; omega) ?_
   refine W 3 ?_
   exact ⟨⟨k + 1, by omega⟩, by simp only; omega, Sub.fin 5 ⟨J, Less.eq (b := .own 4 1 ((whoK (seenF (agrees x sight)) (k + 1)).map fun x => [I x])) (by rw [eS] <;> rfl), J, J, trivial⟩ (congrArg (fun n => [_, _, _, _, AObj.tok n]) (congrArg List.length eS.symm)) (by simp [slotsIn, objsIn, sget, keepS, AObj.inB, AV.inB, AV.inL, AV.inE, inE_map, inE_ints, inE_strs, inE_figs, inE_cloths, -List.map_append, -List.map_take, -List.map_map]) (by simp [slotsIn, objsIn, sget, keepS, AObj.inB, AV.inB, AV.inL, AV.inE, inE_map, inE_ints, inE_strs, inE_figs, inE_cloths, -List.map_append, -List.map_take, -List.map_map]) (by simp [he0])⟩
  have c_53' := c_53
  try simp only [qq] at c_53'
  have hw := word_1 c_53
  have eS : ((whoK (seenF (agrees x sight)) (k + 1))).map (fun x => [I x]) = ((whoK (seenF (agrees x sight)) k)).map (fun x => [I x]) ++ [[I 1]] := by rw [whoK_succ, List.map_append]; simp only [List.map_cons, List.map_nil]; rw [hw]
  refine W 2 ?_
  refine sq_ev rfl (ev_buildSlice (es := [[_]]) sf117.h rfl rfl rfl rfl) ?_
  first | refine sq_append rfl sf117.h Tryz.underlying117 rfl rfl J (Nat.succ_pos _) (by simp; omega) (by simp; omega) ?_ | refine sq_append rfl sf117.h Tryz.underlying117 rfl rfl (less_slx _ _) (Nat.succ_pos _) (by simp; omega) (by simp; omega) ?_
  refine W 3 ?_
  exact ⟨⟨k + 1, by omega⟩, by simp only; omega, Sub.fin 5 ⟨J, Less.eq (b := .own 4 1 ((whoK (seenF (agrees x sight)) (k + 1)).map fun x => [I x])) (by rw [eS] <;> rfl), J, J, trivial⟩ (congrArg (fun n => [_, _, _, _, AObj.tok n]) (congrArg List.length eS.symm)) (by simp [slotsIn, objsIn, sget, keepS, AObj.inB, AV.inB, AV.inL, AV.inE, inE_map, inE_ints, inE_strs, inE_figs, inE_cloths, -List.map_append, -List.map_take, -List.map_map]) (by simp [slotsIn, objsIn, sget, keepS, AObj.inB, AV.inB, AV.inL, AV.inE, inE_map, inE_ints, inE_strs, inE_figs, inE_cloths, -List.map_append, -List.map_take, -List.map_map]) (by simp [he0])⟩
 obtain rfl : k = x.l.length := by omega
 refine W 3 ?_
 exact retQ_pure (v := .tup [.own _ _ _, .raw _]) rfl rfl (less_tup ⟨Less.trans (less_own _ _ _) (Less.eq (by rw [(whoE_2 hak hyes).2]; rfl)), Less.eq (by rw [(whoE_2 hak hyes).1]), trivial⟩)
end Go.Proofs.YtmbknoaneglilaaGreatDoor
