/-
  Conditions: none.
-/
import Derived.Test.YtjghdbdiejaacaaGreatDoorWalkB
import Derived.Test.YtjghdbdiejaacaaGreatDoorLogicC
import Derived.Test.YtjghdbdiejaacaaGreatDoorLogicD
set_option linter.all false
namespace Go.Proofs.YtjghdbdiejaacaaGreatDoor
open Go Go.Ab Ni
theorem en141 : Ent Tryz.prog 141 := Ent.of Tryz.func141 (by kernel_rfl) rfl
theorem en142 : Ent Tryz.prog 142 := Ent.of Tryz.func142 (by kernel_rfl) rfl

def prevP (l : List Sc) (k : Nat) : Int := if k = 0 then 0 else (l.getD (k - 1) default).part
theorem prevP_succ {l : List Sc} {k : Nat} (h : k < l.length) : prevP l (k + 1) = l[k].part := by simp [prevP, List.getD_eq_getElem?_getD, h]
theorem prevP_nn {l : List Sc} {k : Nat} (hk : k ≤ l.length) (hok : ∀ i, (h : i < l.length) → i < k → scBad l i h = false) : 0 ≤ prevP l k := by
  unfold prevP
  split
  · omega
  · have := hok (k - 1) (by omega) (by omega)
    simp [scBad, inn] at this
    rw [List.getD_eq_getElem?_getD, List.getElem?_eq_getElem (by omega)]
    exact this.1.1.1.1.1.1
theorem part_ok {l : List Sc} {k : Nat} (h : k < l.length) (hok : ∀ i, (h : i < l.length) → i < k → scBad l i h = false) :
    inn l[k].part (prevP l k) 2 = (inn l[k].part 0 2 && !(decide (0 < k) && decide (l[k].part < (l[k - 1]'(by omega)).part))) := by
  have hp := prevP_nn (by omega) hok
  rw [Bool.eq_iff_iff]
  unfold prevP at hp ⊢
  by_cases h0 : k = 0
  · subst h0; simp [inn]
  · simp only [if_neg h0] at hp ⊢
    rw [List.getD_eq_getElem?_getD, List.getElem?_eq_getElem (by omega)] at hp ⊢
    simp only [Option.getD_some] at hp ⊢
    simp [inn]
    omega
theorem part_ok' {l : List Sc} {k : Nat} (h : k < l.length) (hok : ∀ i, (h : i < l.length) → i < k → scBad l i h = false) :
    (!inn l[k].part 0 2 || (decide (0 < k) && decide (l[k].part < (l[k - 1]'(by omega)).part))) = !inn l[k].part (prevP l k) 2 := by
  rw [part_ok h hok]
  cases inn l[k].part 0 2 <;> simp
theorem wins_ok {p : Pl} {k : Nat} (hk : ¬ (k : Int) < 3) (h3 : k ≤ 3) (h : ∀ j, j < k → wnd (wl p j) (wh p j) = true) : wnd p.s0l p.s0h = true ∧ wnd p.s1l p.s1h = true ∧ wnd p.dl p.dh = true :=
  ⟨h 0 (by omega), h 1 (by omega), h 2 (by omega)⟩
theorem wins_bad {p : Pl} {k : Nat} (hk : k < 3) (h : wnd (wl p k) (wh p k) = false) : (wnd p.s0l p.s0h && wnd p.s1l p.s1h && wnd p.dl p.dh) = false := by
  rcases k with _ | _ | _ | k
  · simp [wl, wh] at h; simp [h]
  · simp [wl, wh] at h; simp [h]
  · simp [wl, wh] at h; simp [h]
  · omega
set_option maxHeartbeats 4000000 in
/-- kelir/night.isPlan -/
theorem isplan_pure (p : Pl) (hl : p.scenes.length ≤ 1000000) : APure Tryz.prog 85 [plan p] (B (PlOK p)) := by
  refine apure_of (rs := [.tmp 2]) Tryz.func85 rfl rfl (Nat.le_of_ble_eq_true rfl) (by simp [AV.pureL, AV.pureB, AV.pureE, pureE_map]) (rfl) fun e0 he0 => ?_
  refine aw_seq (aw_region ?_)
  refine sq_box rfl (lr _) rfl ?_
  refine asr (lr _) rfl ?_
  refine sq_nil (aw_seq (aw_seq (aw_region ?_)))
  refine sq_ev rfl (ev_fieldAddr fo27_0 (lr _)) ?_
  refine sq_ev rfl (ev_load (lr _) rfl ty3 rfl) ?_
  refine sq_ev rfl (ev_call en122 (lr _) (nin_pure _ _ _) ⟨lr _, lr _, lr _, trivial⟩) ?_
  refine sq_ev rfl (ev_not (lr _)) ?_
  refine mvr (lr _) rfl ?_
  refine sq_split 12 (lr _) (fun g1 => ?_) (fun g1 => ?_)
  · skip
    have g1' := g1
    try simp only [qq] at g1'
    refine sq_no rfl rfl (less_b g1) rfl rfl ?_
    refine sq_no rfl rfl (less_b g1) rfl rfl ?_
    refine sq_no rfl rfl (less_b g1) rfl rfl ?_
    refine sq_no rfl rfl (less_b g1) rfl rfl ?_
    refine sq_no rfl rfl (less_b g1) rfl rfl ?_
    refine sq_ev rfl (ev_pickT (v := .raw _) (less_b g1) (lr _)) ?_
    refine sq_nil ?_
    refine aw_true (lr _) ?_
    refine aw_seq (aw_region ?_)
    refine asr (lr _) rfl ?_
    refine sq_nil (aw_ret ?_)
    exact retQ_pure (v := .raw _) rfl rfl (Less.eq (by simp_all [PlOK]))
  · skip
    have g1' := g1
    try simp only [qq] at g1'
    refine sq_yes rfl rfl (less_b g1) rfl (ev_fieldAddr fo27_3 (lr _)) ?_
    refine sq_yes rfl rfl (less_b g1) rfl (ev_load (lr _) rfl ty25 rfl) ?_
    refine sq_yes rfl rfl (less_b g1) rfl (ev_len_map sl25 (lr _)) ?_
    refine sq_yes rfl rfl (less_b g1) rfl (ev_call en122 (lr _) (nin_pure _ _ _) ⟨lr _, lr _, lr _, trivial⟩) ?_
    refine sq_yes rfl rfl (less_b g1) rfl (ev_not (lr _)) ?_
    refine sq_ev rfl (ev_pickF (v := .raw _) (less_b g1) (lr _)) ?_
    refine sq_nil ?_
    refine aw_cond (lr _) (fun c2 => ?_) (fun c2 => ?_)
    · skip
      have c2' := c2
      try simp only [qq] at c2'
      refine aw_seq (aw_region ?_)
      refine asr (lr _) rfl ?_
      refine sq_nil (aw_ret ?_)
      exact retQ_pure (v := .raw _) rfl rfl (Less.eq (by simp_all [PlOK]))
    · skip
      have c2' := c2
      try simp only [qq] at c2'
      refine aw_skip (aw_seq (aw_seq (aw_region ?_)))
      refine mvr (lr _) rfl ?_
      refine sq_nil (aw_block ?_)
      refine aw_loopk (ι := { k : Nat // k ≤ 3 ∧ ∀ j, j < k → wnd (wl p j) (wh p j) = true }) [1] (fun i => [(19, I i.1)]) (fun H i => H) (fun i => 3 - i.1) (⟨0, by omega, by omega⟩) ⟨lr _, lr _, trivial⟩ rfl ?_
      rintro ⟨k, k3, hw⟩
      dsimp only [keepS, St.put, sget, slotsOf, List.map_cons, List.map_nil, List.cons_append, List.nil_append, List.length_cons, List.length_nil, Nat.reduceBEq, Nat.reduceAdd, cond_true, cond_false]
      refine aw_seq (aw_region ?_)
      refine sq_ev rfl (ev_lss (lr _) (lr _)) ?_
      refine sq_nil (aw_seq ?_)
      refine aw_cond (lr _) (fun c3 => ?_) (fun c3 => ?_)
      · skip
        have c3' := c3
        try simp only [qq] at c3'
        refine aw_skip (aw_seq (aw_block (aw_seq (aw_region ?_))))
        refine mvr (lr _) rfl ?_
        refine asr (lr _) rfl ?_
        refine sq_nil (aw_seq (aw_region ?_))
        refine sq_ev rfl (ev_load_agg (lr _) rfl ty27 rfl) ?_
        refine mvr (lr _) rfl ?_
        refine sq_ev rfl (ev_call en142 (lr _) (nwindow_pure _ _ (by omega)) ⟨lr _, lr _, trivial⟩) ?_
        refine sq_ev rfl (ev_call en141 (lr _) (niswindow_pure _ _) ⟨lr _, trivial⟩) ?_
        refine sq_ev rfl (ev_not (lr _)) ?_
        refine sq_nil ?_
        refine aw_cond (lr _) (fun c4 => ?_) (fun c4 => ?_)
        · skip
          have c4' := c4
          try simp only [qq] at c4'
          refine aw_seq (aw_region ?_)
          refine asr (lr _) rfl ?_
          refine sq_nil (aw_ret ?_)
          exact retQ_pure (v := .raw _) rfl rfl (Less.eq (by have h := wins_bad (p := p) (k := k) (by omega) c4'; simp [PlOK, g1', c2']; intro h1 h2 h3; rw [h1, h2, h3] at h; cases h))
        · skip
          have c4' := c4
          try simp only [qq] at c4'
          refine aw_skip (aw_region ?_)
          refine sq_ev rfl (ev_add (lr _) (lr _) (wr (by omega) (by omega))) ?_
          refine mvr (lr _) rfl ?_
          refine sq_nil ?_
          exact ⟨⟨k + 1, by omega, fun j h => (by by_cases e : j = k; (subst e; assumption); exact hw j (by omega))⟩, by simp only; omega, Sub.fin 1 ⟨lr _, lr _, trivial⟩ rfl (by simp [slotsIn, objsIn, sget, keepS, AObj.inB, AV.inB, AV.inL, AV.inE, inE_map]) (by simp [slotsIn, objsIn, sget, keepS, AObj.inB, AV.inB, AV.inL, AV.inE, inE_map]) (by simp [he0])⟩
      · skip
        have c3' := c3
        try simp only [qq] at c3'
        refine aw_exit (aw_seq (aw_region ?_))
        refine asr (lr _) rfl ?_
        refine asr (lr _) rfl ?_
        refine sq_nil (aw_seq (aw_seq (aw_region ?_)))
        refine sq_ev rfl (ev_fieldAddr fo27_3 (lr _)) ?_
        refine sq_ev rfl (ev_load (lr _) rfl ty25 rfl) ?_
        refine sq_ev rfl (ev_len_map sl25 (lr _)) ?_
        refine mvr (lr _) rfl ?_
        refine sq_nil (aw_block ?_)
        obtain ⟨w1, w2, w3⟩ := wins_ok c3' k3 hw
        refine aw_loopk (ι := { k : Nat // k ≤ p.scenes.length ∧ ∀ i, (h : i < p.scenes.length) → i < k → scBad p.scenes i h = false }) [1, 29, 30] (fun i => [(31, I i.1), (4, I (prevP p.scenes i.1)), (5, I (loosies (p.scenes.take i.1)))]) (fun H i => H) (fun i => p.scenes.length - i.1) (⟨0, Nat.zero_le _, by omega⟩) ⟨lr _, lr _, lr _, lr _, lr _, lr _, trivial⟩ rfl ?_
        rintro ⟨k, hk, hok⟩
        dsimp only [keepS, St.put, sget, slotsOf, List.map_cons, List.map_nil, List.cons_append, List.nil_append, List.length_cons, List.length_nil, Nat.reduceBEq, Nat.reduceAdd, cond_true, cond_false]
        have hlo := loosies_le (p.scenes.take k)
        have hlt := List.length_take_le k p.scenes
        refine aw_seq (aw_region ?_)
        refine sq_ev rfl (ev_lss (lr _) (lr _)) ?_
        refine sq_nil (aw_seq ?_)
        refine aw_cond (lr _) (fun c5 => ?_) (fun c5 => ?_)
        · skip
          have c5' := c5
          try simp only [qq] at c5'
          refine aw_skip (aw_seq (aw_block (aw_seq (aw_region ?_))))
          refine mvr (lr _) rfl ?_
          refine sq_ev rfl (ev_index_map sl25 (lr _) (lr _) rfl (by omega)) ?_
          refine sq_ev rfl (ev_load_agg_i (lr _) ty84 (Nat.le_of_ble_eq_true rfl)) ?_
          refine sq_alloc rfl z84 ?_
          refine asr (lr _) rfl ?_
          refine sq_store rfl (lr _) (lr _) rfl rfl ty84 rfl rfl ?_
          refine sq_nil (aw_seq (aw_seq (aw_region ?_)))
          refine sq_ev rfl (ev_fieldAddr fo84_0 (lr _)) ?_
          refine sq_ev rfl (ev_load (lr _) rfl ty3 rfl) ?_
          refine mvr (lr _) rfl ?_
          refine sq_ev rfl (ev_call en122 (lr _) (nin_pure _ _ _) ⟨lr _, lr _, lr _, trivial⟩) ?_
          refine sq_ev rfl (ev_not (lr _)) ?_
          refine mvr (lr _) rfl ?_
          refine sq_split 41 (lr _) (fun g6 => ?_) (fun g6 => ?_)
          · skip
            have g6' := g6
            try simp only [qq] at g6'
            refine sq_no rfl rfl (less_b g6) rfl rfl ?_
            refine sq_no rfl rfl (less_b g6) rfl rfl ?_
            refine sq_no rfl rfl (less_b g6) rfl rfl ?_
            refine sq_no rfl rfl (less_b g6) rfl rfl ?_
            refine sq_ev rfl (ev_pickT (v := .raw _) (less_b g6) (lr _)) ?_
            refine mvr (lr _) rfl ?_
            refine sq_no rfl rfl (lr _) rfl rfl ?_
            refine sq_no rfl rfl (lr _) rfl rfl ?_
            refine sq_no rfl rfl (lr _) rfl rfl ?_
            refine sq_no rfl rfl (lr _) rfl rfl ?_
            refine sq_no rfl rfl (lr _) rfl rfl ?_
            refine sq_no rfl rfl (lr _) rfl rfl ?_
            refine sq_ev rfl (ev_pickT (v := .raw _) (lr _) (lr _)) ?_
            refine mvr (lr _) rfl ?_
            refine sq_no rfl rfl (lr _) rfl rfl ?_
            refine sq_no rfl rfl (lr _) rfl rfl ?_
            refine sq_no rfl rfl (lr _) rfl rfl ?_
            refine sq_no rfl rfl (lr _) rfl rfl ?_
            refine sq_no rfl rfl (lr _) rfl rfl ?_
            refine sq_no rfl rfl (lr _) rfl rfl ?_
            refine sq_no rfl rfl (lr _) rfl rfl ?_
            refine sq_no rfl rfl (lr _) rfl rfl ?_
            refine sq_ev rfl (ev_pickT (v := .raw _) (lr _) (lr _)) ?_
            refine mvr (lr _) rfl ?_
            refine sq_no rfl rfl (lr _) rfl rfl ?_
            refine sq_no rfl rfl (lr _) rfl rfl ?_
            refine sq_no rfl rfl (lr _) rfl rfl ?_
            refine sq_no rfl rfl (lr _) rfl rfl ?_
            refine sq_ev rfl (ev_pickT (v := .raw _) (lr _) (lr _)) ?_
            refine sq_nil ?_
            refine aw_true (lr _) ?_
            refine aw_seq (aw_region ?_)
            refine asr (lr _) rfl ?_
            refine sq_nil (aw_ret ?_)
            exact retQ_pure (v := .raw _) rfl rfl (Less.eq (by have h : scBad p.scenes k (by omega) = true := (by simp only [scBad, part_ok' (l := p.scenes) (k := k) (by omega) hok]; simp [*]); simp only [PlOK, scOK_bad (by omega) h, Bool.and_false]))
          · skip
            have g6' := g6
            try simp only [qq] at g6'
            refine sq_yes rfl rfl (less_b g6) rfl (ev_fieldAddr fo84_1 (lr _)) ?_
            refine sq_yes rfl rfl (less_b g6) rfl (ev_load (lr _) rfl ty3 rfl) ?_
            refine sq_yes rfl rfl (less_b g6) rfl (ev_call en122 (lr _) (nin_pure _ _ _) ⟨lr _, lr _, lr _, trivial⟩) ?_
            refine sq_yes rfl rfl (less_b g6) rfl (ev_not (lr _)) ?_
            refine sq_ev rfl (ev_pickF (v := .raw _) (less_b g6) (lr _)) ?_
            refine mvr (lr _) rfl ?_
            refine sq_split 47 (lr _) (fun g7 => ?_) (fun g7 => ?_)
            · skip
              have g7' := g7
              try simp only [qq] at g7'
              refine sq_no rfl rfl (less_b g7) rfl rfl ?_
              refine sq_no rfl rfl (less_b g7) rfl rfl ?_
              refine sq_no rfl rfl (less_b g7) rfl rfl ?_
              refine sq_no rfl rfl (less_b g7) rfl rfl ?_
              refine sq_no rfl rfl (less_b g7) rfl rfl ?_
              refine sq_no rfl rfl (less_b g7) rfl rfl ?_
              refine sq_ev rfl (ev_pickT (v := .raw _) (less_b g7) (lr _)) ?_
              refine mvr (lr _) rfl ?_
              refine sq_no rfl rfl (lr _) rfl rfl ?_
              refine sq_no rfl rfl (lr _) rfl rfl ?_
              refine sq_no rfl rfl (lr _) rfl rfl ?_
              refine sq_no rfl rfl (lr _) rfl rfl ?_
              refine sq_no rfl rfl (lr _) rfl rfl ?_
              refine sq_no rfl rfl (lr _) rfl rfl ?_
              refine sq_no rfl rfl (lr _) rfl rfl ?_
              refine sq_no rfl rfl (lr _) rfl rfl ?_
              refine sq_ev rfl (ev_pickT (v := .raw _) (lr _) (lr _)) ?_
              refine mvr (lr _) rfl ?_
              refine sq_no rfl rfl (lr _) rfl rfl ?_
              refine sq_no rfl rfl (lr _) rfl rfl ?_
              refine sq_no rfl rfl (lr _) rfl rfl ?_
              refine sq_no rfl rfl (lr _) rfl rfl ?_
              refine sq_ev rfl (ev_pickT (v := .raw _) (lr _) (lr _)) ?_
              refine sq_nil ?_
              refine aw_true (lr _) ?_
              refine aw_seq (aw_region ?_)
              refine asr (lr _) rfl ?_
              refine sq_nil (aw_ret ?_)
              exact retQ_pure (v := .raw _) rfl rfl (Less.eq (by have h : scBad p.scenes k (by omega) = true := (by simp only [scBad, part_ok' (l := p.scenes) (k := k) (by omega) hok]; simp [*]); simp only [PlOK, scOK_bad (by omega) h, Bool.and_false]))
            · skip
              have g7' := g7
              try simp only [qq] at g7'
              refine sq_yes rfl rfl (less_b g7) rfl (ev_fieldAddr fo84_2 (lr _)) ?_
              refine sq_yes rfl rfl (less_b g7) rfl (ev_load (lr _) rfl ty3 rfl) ?_
              refine sq_yes rfl rfl (less_b g7) rfl (ev_fieldAddr fo84_1 (lr _)) ?_
              refine sq_yes rfl rfl (less_b g7) rfl (ev_load (lr _) rfl ty3 rfl) ?_
              refine sq_yes rfl rfl (less_b g7) rfl (ev_call en122 (lr _) (nin_pure _ _ _) ⟨lr _, lr _, lr _, trivial⟩) ?_
              refine sq_yes rfl rfl (less_b g7) rfl (ev_not (lr _)) ?_
              refine sq_ev rfl (ev_pickF (v := .raw _) (less_b g7) (lr _)) ?_
              refine mvr (lr _) rfl ?_
              refine sq_split 55 (lr _) (fun g8 => ?_) (fun g8 => ?_)
              · skip
                have g8' := g8
                try simp only [qq] at g8'
                refine sq_no rfl rfl (less_b g8) rfl rfl ?_
                refine sq_no rfl rfl (less_b g8) rfl rfl ?_
                refine sq_no rfl rfl (less_b g8) rfl rfl ?_
                refine sq_no rfl rfl (less_b g8) rfl rfl ?_
                refine sq_no rfl rfl (less_b g8) rfl rfl ?_
                refine sq_no rfl rfl (less_b g8) rfl rfl ?_
                refine sq_no rfl rfl (less_b g8) rfl rfl ?_
                refine sq_no rfl rfl (less_b g8) rfl rfl ?_
                refine sq_ev rfl (ev_pickT (v := .raw _) (less_b g8) (lr _)) ?_
                refine mvr (lr _) rfl ?_
                refine sq_no rfl rfl (lr _) rfl rfl ?_
                refine sq_no rfl rfl (lr _) rfl rfl ?_
                refine sq_no rfl rfl (lr _) rfl rfl ?_
                refine sq_no rfl rfl (lr _) rfl rfl ?_
                refine sq_ev rfl (ev_pickT (v := .raw _) (lr _) (lr _)) ?_
                refine sq_nil ?_
                refine aw_true (lr _) ?_
                refine aw_seq (aw_region ?_)
                refine asr (lr _) rfl ?_
                refine sq_nil (aw_ret ?_)
                exact retQ_pure (v := .raw _) rfl rfl (Less.eq (by have h : scBad p.scenes k (by omega) = true := (by simp only [scBad, part_ok' (l := p.scenes) (k := k) (by omega) hok]; simp [*]); simp only [PlOK, scOK_bad (by omega) h, Bool.and_false]))
              · skip
                have g8' := g8
                try simp only [qq] at g8'
                refine sq_yes rfl rfl (less_b g8) rfl (ev_fieldAddr fo84_4 (lr _)) ?_
                refine sq_yes rfl rfl (less_b g8) rfl (ev_load (lr _) rfl ty3 rfl) ?_
                refine sq_yes rfl rfl (less_b g8) rfl (ev_fieldAddr fo27_3 (lr _)) ?_
                refine sq_yes rfl rfl (less_b g8) rfl (ev_load (lr _) rfl ty25 rfl) ?_
                refine sq_yes rfl rfl (less_b g8) rfl (ev_len_map sl25 (lr _)) ?_
                refine sq_yes rfl rfl (less_b g8) rfl (ev_sub (lr _) (lr _) (wr (by omega) (by omega))) ?_
                refine sq_yes rfl rfl (less_b g8) rfl (ev_call en122 (lr _) (nin_pure _ _ _) ⟨lr _, lr _, lr _, trivial⟩) ?_
                refine sq_yes rfl rfl (less_b g8) rfl (ev_not (lr _)) ?_
                refine sq_ev rfl (ev_pickF (v := .raw _) (less_b g8) (lr _)) ?_
                refine mvr (lr _) rfl ?_
                refine sq_split 65 (lr _) (fun g9 => ?_) (fun g9 => ?_)
                · skip
                  have g9' := g9
                  try simp only [qq] at g9'
                  refine sq_no rfl rfl (less_b g9) rfl rfl ?_
                  refine sq_no rfl rfl (less_b g9) rfl rfl ?_
                  refine sq_no rfl rfl (less_b g9) rfl rfl ?_
                  refine sq_no rfl rfl (less_b g9) rfl rfl ?_
                  refine sq_ev rfl (ev_pickT (v := .raw _) (less_b g9) (lr _)) ?_
                  refine sq_nil ?_
                  refine aw_true (lr _) ?_
                  refine aw_seq (aw_region ?_)
                  refine asr (lr _) rfl ?_
                  refine sq_nil (aw_ret ?_)
                  exact retQ_pure (v := .raw _) rfl rfl (Less.eq (by have h : scBad p.scenes k (by omega) = true := (by simp only [scBad, part_ok' (l := p.scenes) (k := k) (by omega) hok]; simp [*]); simp only [PlOK, scOK_bad (by omega) h, Bool.and_false]))
                · skip
                  have g9' := g9
                  try simp only [qq] at g9'
                  refine sq_yes rfl rfl (less_b g9) rfl (ev_fieldAddr fo84_4 (lr _)) ?_
                  refine sq_yes rfl rfl (less_b g9) rfl (ev_load (lr _) rfl ty3 rfl) ?_
                  refine sq_yes rfl rfl (less_b g9) rfl (ev_mv (v := .raw _) (lr _)) ?_
                  refine sq_yes rfl rfl (less_b g9) rfl (ev_eql (lr _) (lr _)) ?_
                  refine sq_ev rfl (ev_pickF (v := .raw _) (less_b g9) (lr _)) ?_
                  refine sq_nil ?_
                  refine aw_cond (lr _) (fun c10 => ?_) (fun c10 => ?_)
                  · skip
                    have c10' := c10
                    try simp only [qq] at c10'
                    refine aw_seq (aw_region ?_)
                    refine asr (lr _) rfl ?_
                    refine sq_nil (aw_ret ?_)
                    exact retQ_pure (v := .raw _) rfl rfl (Less.eq (by have h : scBad p.scenes k (by omega) = true := (by simp only [scBad, part_ok' (l := p.scenes) (k := k) (by omega) hok]; simp [*]); simp only [PlOK, scOK_bad (by omega) h, Bool.and_false]))
                  · skip
                    have c10' := c10
                    try simp only [qq] at c10'
                    refine aw_skip (aw_seq (aw_region ?_))
                    refine sq_ev rfl (ev_fieldAddr fo84_0 (lr _)) ?_
                    refine sq_ev rfl (ev_load (lr _) rfl ty3 rfl) ?_
                    refine asr (lr _) rfl ?_
                    refine sq_nil (aw_seq (aw_region ?_))
                    refine sq_ev rfl (ev_fieldAddr fo84_3 (lr _)) ?_
                    refine sq_ev rfl (ev_load (lr _) rfl ty4 rfl) ?_
                    refine sq_nil ?_
                    refine aw_cond (lr _) (fun c11 => ?_) (fun c11 => ?_)
                    · skip
                      have c11' := c11
                      try simp only [qq] at c11'
                      refine aw_region ?_
                      refine mvr (lr _) rfl ?_
                      refine sq_ev rfl (ev_add (lr _) (lr _) (wr (by omega) (by omega))) ?_
                      refine asr (lr _) rfl ?_
                      refine sq_nil (aw_region ?_)
                      refine sq_ev rfl (ev_add (lr _) (lr _) (wr (by omega) (by omega))) ?_
                      refine mvr (lr _) rfl ?_
                      refine sq_nil ?_
                      have hstep := loosies_take (l := p.scenes) (k := k) (by omega)
                      have hgood : scBad p.scenes k (by omega) = false := by (simp only [scBad, part_ok' (l := p.scenes) (k := k) (by omega) hok]; simp [*])
                      exact ⟨⟨k + 1, by omega, fun i h hi => (by by_cases e : i = k; (subst e; exact hgood); exact hok i h (by omega))⟩, by simp only; omega, Sub.fin 1 ⟨lr _, less_int (prevP_succ (by omega)).symm, less_int (by rw [hstep]; simp [*]), lr _, lr _, lr _, trivial⟩ rfl (by simp [slotsIn, objsIn, sget, keepS, AObj.inB, AV.inB, AV.inL, AV.inE, inE_map]) (by simp [slotsIn, objsIn, sget, keepS, AObj.inB, AV.inB, AV.inL, AV.inE, inE_map]) (by simp [he0])⟩
                    · skip
                      have c11' := c11
                      try simp only [qq] at c11'
                      refine aw_skip (aw_region ?_)
                      refine sq_ev rfl (ev_add (lr _) (lr _) (wr (by omega) (by omega))) ?_
                      refine mvr (lr _) rfl ?_
                      refine sq_nil ?_
                      have hstep := loosies_take (l := p.scenes) (k := k) (by omega)
                      have hgood : scBad p.scenes k (by omega) = false := by (simp only [scBad, part_ok' (l := p.scenes) (k := k) (by omega) hok]; simp [*])
                      exact ⟨⟨k + 1, by omega, fun i h hi => (by by_cases e : i = k; (subst e; exact hgood); exact hok i h (by omega))⟩, by simp only; omega, Sub.fin 1 ⟨lr _, less_int (prevP_succ (by omega)).symm, less_int (by rw [hstep]; simp [*]), lr _, lr _, lr _, trivial⟩ rfl (by simp [slotsIn, objsIn, sget, keepS, AObj.inB, AV.inB, AV.inL, AV.inE, inE_map]) (by simp [slotsIn, objsIn, sget, keepS, AObj.inB, AV.inB, AV.inL, AV.inE, inE_map]) (by simp [he0])⟩
        · skip
          have c5' := c5
          try simp only [qq] at c5'
          refine aw_exit (aw_seq (aw_region ?_))
          refine mvr (lr _) rfl ?_
          refine sq_ev rfl (ev_leq (lr _) (lr _)) ?_
          refine asr (lr _) rfl ?_
          refine sq_nil (aw_ret ?_)
          exact retQ_pure (v := .raw _) rfl rfl (Less.eq (by rw [scOK_end hk c5' hok]; simp [PlOK, w1, w2, w3, g1', c2']))


end Go.Proofs.YtjghdbdiejaacaaGreatDoor

namespace Go.Proofs.YtjghdbdiejaacaaGreatDoor
open Go Go.Ab Ni
theorem ar187 : arrElem Tryz.prog 187 = some (2, 186, 1) := by kernel_rfl
theorem bi187 : bldInfo Tryz.prog 187 = some ([.raw .nilFunc, .raw .nilFunc], false, [], 1) := by kernel_rfl
theorem en160 : Ent Tryz.prog 160 := Ent.of Tryz.func160 (by kernel_rfl) rfl
theorem en161 : Ent Tryz.prog 161 := Ent.of Tryz.func161 (by kernel_rfl) rfl
theorem en167 : Ent Tryz.prog 167 := Ent.of Tryz.func167 (by kernel_rfl) rfl
theorem fo110_0 : fOff Tryz.prog 110 0 = some (0, 27) := by kernel_rfl
theorem fo110_1 : fOff Tryz.prog 110 1 = some (8, 34) := by kernel_rfl
theorem ty110 : tySz Tryz.prog 110 = some (true, 9) := by kernel_rfl
theorem ty186 : tySz Tryz.prog 186 = some (false, 1) := by kernel_rfl
theorem ty187 : tySz Tryz.prog 187 = some (true, 2) := by kernel_rfl
theorem z187 : zeroOf Tryz.prog 187 = some [.raw .nilFunc, .raw .nilFunc] := by kernel_rfl

abbrev playedC (p : Pl) (l : List Nat) : List AV := [I p.beg, I p.s0l, I p.s0h, I p.s1l, I p.s1h, I p.dl, I p.dh, .sl 5 (p.scenes.map sc), nats l]
abbrev played (p : Pl) (l : List Nat) : AV := .agg (playedC p l)
theorem inE_ints (n : Nat) (l : List Int) : AV.inE n (l.map fun x => [I x]) = true := inE_map fun x _ => by simp [AV.inL, AV.inB]
theorem inE_nats1 (n : Nat) (l : List Nat) : AV.inE n (l.map fun (x : Nat) => [I x]) = true := inE_map fun x _ => by simp [AV.inL, AV.inB]
theorem inE_sc (n : Nat) (l : List Sc) : AV.inE n (l.map sc) = true := inE_map fun x _ => by simp [AV.inL, AV.inB]
set_option maxHeartbeats 400000 in
/-- kelir/night.sum -/
theorem nsum_pure (l : List Int) (hb : ∀ x ∈ l, 0 ≤ x ∧ x ≤ 10000) (hl : l.length ≤ 1000000) : APure Tryz.prog 167 [ints l] (I l.sum) := by
  refine apure_of (rs := [.tmp 2]) Tryz.func167 rfl rfl (Nat.le_of_ble_eq_true rfl) (by simp [AV.pureL, AV.pureB, AV.pureE, pureE_map]) (rfl) fun e0 he0 => ?_
  refine aw_seq (aw_region ?_)
  refine asr (lr _) rfl ?_
  refine sq_nil (aw_seq (aw_region ?_))
  refine asr (lr _) rfl ?_
  refine sq_nil (aw_seq (aw_seq (aw_region ?_)))
  refine sq_ev rfl (ev_mv (v := .sl _ _) (lr _)) ?_
  refine sq_ev rfl (ev_len_map sl34 (lr _)) ?_
  refine mvr (lr _) rfl ?_
  refine sq_nil (aw_block ?_)
  refine aw_loopk (ι := { k : Nat // k ≤ l.length }) [6, 7] (fun i => [(8, I i.1), (3, I (l.take i.1).sum)]) (fun H i => H) (fun i => l.length - i.1) (⟨0, Nat.zero_le _⟩) ⟨lr _, lr _, lr _, lr _, trivial⟩ rfl ?_
  rintro ⟨k, hk⟩
  dsimp only [keepS, St.put, sget, slotsOf, List.map_cons, List.map_nil, List.cons_append, List.nil_append, List.length_cons, List.length_nil, Nat.reduceBEq, Nat.reduceAdd, cond_true, cond_false]
  have h1 := isum_bd_take hb hl k
  refine aw_seq (aw_region ?_)
  refine sq_ev rfl (ev_lss (lr _) (lr _)) ?_
  refine sq_nil (aw_seq ?_)
  refine aw_cond (lr _) (fun c1 => ?_) (fun c1 => ?_)
  · skip
    have c1' := c1
    try simp only [qq] at c1'
    have hk' : k < l.length := by omega
    have hv := hb _ (List.getElem_mem hk')
    refine aw_skip (aw_seq (aw_block (aw_seq (aw_region ?_))))
    refine sq_ev rfl (ev_index_map sl34 (lr _) (lr _) rfl (by omega)) ?_
    refine sq_ev rfl (ev_load_i (lr _) ty3 rfl) ?_
    refine asr (lr _) rfl ?_
    refine sq_nil (aw_region ?_)
    refine mvr (lr _) rfl ?_
    refine mvr (lr _) rfl ?_
    refine sq_ev rfl (ev_add (lr _) (lr _) (wr (by omega) (by omega))) ?_
    refine asr (lr _) rfl ?_
    refine sq_nil (aw_region ?_)
    refine sq_ev rfl (ev_add (lr _) (lr _) (wr (by omega) (by omega))) ?_
    refine mvr (lr _) rfl ?_
    refine sq_nil ?_
    exact ⟨⟨k + 1, by omega⟩, by simp only; omega, Sub.slots ⟨lr _, less_int (isum_take hk').symm, lr _, lr _, trivial⟩⟩
  · skip
    have c1' := c1
    try simp only [qq] at c1'
    obtain rfl : k = l.length := by omega
    refine aw_exit (aw_seq (aw_region ?_))
    refine mvr (lr _) rfl ?_
    refine asr (lr _) rfl ?_
    refine sq_nil (aw_ret ?_)
    exact retQ_pure (v := .raw _) rfl rfl (Less.eq (by simp))

set_option maxHeartbeats 1000000 in
/-- (kelir/night.played).least -/
theorem nleast_pure (p : Pl) (l xs : List Nat) (gp : GP p) (cv : CV p xs) : APure Tryz.prog 160 [played p l, nats xs] (I (lsum p xs)) := by
 refine apure_of (rs := [.tmp 4]) Tryz.func160 rfl rfl (Nat.le_of_ble_eq_true rfl) (by simp [AV.pureL, AV.pureB, AV.pureE, pureE_map]) (rfl) fun e0 he0 => ?_
 refine aw_seq (aw_region ?_)
 refine sq_box rfl (lr _) rfl ?_
 refine asr (lr _) rfl ?_
 refine sq_nil (aw_seq (aw_region ?_))
 refine asr (lr _) rfl ?_
 refine sq_nil (aw_seq (aw_seq (aw_region ?_)))
 refine sq_ev rfl (ev_mv (v := .sl _ _) (lr _)) ?_
 refine sq_ev rfl (ev_len_map sl34 (lr _)) ?_
 refine mvr (lr _) rfl ?_
 refine sq_nil (aw_block ?_)
 refine aw_sub (sub_token 5 1 (lr _)) ?_
 refine aw_loopk (ι := { k : Nat // k ≤ xs.length }) [2, 8, 9] (fun i => [(10, I i.1), (5, .own 1 1 (((xs.take i.1).map fun x => (scn p x).least).map fun x => [I x]))]) (fun H i => H.set 1 (.tok (((xs.take i.1).map fun x => (scn p x).least).map fun x => [I x]).length)) (fun i => xs.length - i.1) (⟨0, Nat.zero_le _⟩) ⟨lr _, lr _, lr _, lr _, lr _, trivial⟩ rfl ?_
 rintro ⟨k, hk⟩
 dsimp only [keepS, St.put, sget, slotsOf, List.map_cons, List.map_nil, List.cons_append, List.nil_append, List.length_cons, List.length_nil, Nat.reduceBEq, Nat.reduceAdd, cond_true, cond_false]
 have hl1 := cv.len
 have hl2 := gp.len
 refine aw_seq (aw_region ?_)
 refine sq_ev rfl (ev_lss (lr _) (lr _)) ?_
 refine sq_nil (aw_seq ?_)
 refine aw_cond (lr _) (fun c1 => ?_) (fun c1 => ?_)
 ·
  have c1' := c1
  try simp only [qq] at c1'
  have hk' : k < xs.length := by omega
  have hlt := cv.rng _ (List.getElem_mem hk')
  have he := scn_eq hlt
  have eS : ((xs.take (k + 1)).map fun x => (scn p x).least).map (fun x => [I x]) = ((xs.take k).map fun x => (scn p x).least).map (fun x => [I x]) ++ [[I (p.scenes[xs[k]]).least]] := by rw [map_take_succ _ hk', List.map_append, he]; rfl
  refine aw_skip (aw_seq (aw_block (aw_seq (aw_region ?_))))
  refine sq_ev rfl (ev_index_map sl34 (lr _) (lr _) rfl (by omega)) ?_
  refine sq_ev rfl (ev_load_i (lr _) ty3 rfl) ?_
  refine asr (lr _) rfl ?_
  refine sq_nil (aw_region ?_)
  refine sq_ev rfl (ev_mv (v := .own _ _ _) (lr _)) ?_
  refine sq_ev rfl (ev_fieldAddr fo110_0 (lr _)) ?_
  refine sq_ev rfl (ev_fieldAddr fo27_3 (lr _)) ?_
  refine sq_ev rfl (ev_load (lr _) rfl ty25 rfl) ?_
  refine mvr (lr _) rfl ?_
  refine sq_ev rfl (ev_index_map sl25 (lr _) (lr _) rfl (by omega)) ?_
  refine sq_ev rfl (ev_fieldAddr_i fo84_1 (lr _)) ?_
  refine sq_ev rfl (ev_load_i (lr _) ty3 rfl) ?_
  refine sq_ev rfl (ev_buildSlice (es := [[_]]) sf34 rfl rfl rfl rfl) ?_
  refine sq_append rfl sf34 Tryz.underlying34 rfl rfl (less_slx _ _) (Nat.succ_pos _) (by simp; omega) (by simp; omega) ?_
  refine sq_ev rfl (ev_as (v := .own _ _ _) (lr _)) ?_
  refine sq_nil (aw_region ?_)
  refine sq_ev rfl (ev_add (lr _) (lr _) (wr (by omega) (by omega))) ?_
  refine mvr (lr _) rfl ?_
  refine sq_nil ?_
  exact ⟨⟨k + 1, by omega⟩, by simp only; omega, Sub.fin 2 ⟨lr _, Less.eq (b := .own 1 1 (((xs.take (k + 1)).map fun x => (scn p x).least).map fun x => [I x])) (by rw [eS] <;> rfl), lr _, lr _, lr _, trivial⟩ (congrArg (fun n => [_, AObj.tok n]) (congrArg List.length eS.symm)) (by simp [slotsIn, objsIn, sget, keepS, AObj.inB, AV.inB, AV.inL, AV.inE, inE_map, inE_ints, inE_sc, -List.map_append, -List.map_take, -List.map_map]) (by simp [slotsIn, objsIn, sget, keepS, AObj.inB, AV.inB, AV.inL, AV.inE, inE_map, inE_ints, inE_sc, -List.map_append, -List.map_take, -List.map_map]) (by simp [he0])⟩
 ·
  have c1' := c1
  try simp only [qq] at c1'
  obtain rfl : k = xs.length := by omega
  refine aw_exit (aw_seq (aw_region ?_))
  refine sq_ev rfl (ev_mv (v := .own _ _ _) (lr _)) ?_
  refine sq_ev rfl (ev_call en167 (lr _) (nsum_pure (leasts p xs) (leasts_mem gp cv) (by simp [leasts]; have := cv.len; omega)) ⟨Less.trans (less_own _ _ _) (Less.eq (by simp [leasts])), trivial⟩) ?_
  refine asr (lr _) rfl ?_
  refine sq_nil (aw_ret ?_)
  exact retQ_pure (v := .raw _) rfl rfl (Less.eq (by simp [lsum]))

set_option maxHeartbeats 1000000 in
/-- (kelir/night.played).most -/
theorem nmost_pure (p : Pl) (l xs : List Nat) (gp : GP p) (cv : CV p xs) : APure Tryz.prog 161 [played p l, nats xs] (I (hsum p xs)) := by
 refine apure_of (rs := [.tmp 4]) Tryz.func161 rfl rfl (Nat.le_of_ble_eq_true rfl) (by simp [AV.pureL, AV.pureB, AV.pureE, pureE_map]) (rfl) fun e0 he0 => ?_
 refine aw_seq (aw_region ?_)
 refine sq_box rfl (lr _) rfl ?_
 refine asr (lr _) rfl ?_
 refine sq_nil (aw_seq (aw_region ?_))
 refine asr (lr _) rfl ?_
 refine sq_nil (aw_seq (aw_seq (aw_region ?_)))
 refine sq_ev rfl (ev_mv (v := .sl _ _) (lr _)) ?_
 refine sq_ev rfl (ev_len_map sl34 (lr _)) ?_
 refine mvr (lr _) rfl ?_
 refine sq_nil (aw_block ?_)
 refine aw_sub (sub_token 5 1 (lr _)) ?_
 refine aw_loopk (ι := { k : Nat // k ≤ xs.length }) [2, 8, 9] (fun i => [(10, I i.1), (5, .own 1 1 (((xs.take i.1).map fun x => (scn p x).most).map fun x => [I x]))]) (fun H i => H.set 1 (.tok (((xs.take i.1).map fun x => (scn p x).most).map fun x => [I x]).length)) (fun i => xs.length - i.1) (⟨0, Nat.zero_le _⟩) ⟨lr _, lr _, lr _, lr _, lr _, trivial⟩ rfl ?_
 rintro ⟨k, hk⟩
 dsimp only [keepS, St.put, sget, slotsOf, List.map_cons, List.map_nil, List.cons_append, List.nil_append, List.length_cons, List.length_nil, Nat.reduceBEq, Nat.reduceAdd, cond_true, cond_false]
 have hl1 := cv.len
 have hl2 := gp.len
 refine aw_seq (aw_region ?_)
 refine sq_ev rfl (ev_lss (lr _) (lr _)) ?_
 refine sq_nil (aw_seq ?_)
 refine aw_cond (lr _) (fun c1 => ?_) (fun c1 => ?_)
 ·
  have c1' := c1
  try simp only [qq] at c1'
  have hk' : k < xs.length := by omega
  have hlt := cv.rng _ (List.getElem_mem hk')
  have he := scn_eq hlt
  have eS : ((xs.take (k + 1)).map fun x => (scn p x).most).map (fun x => [I x]) = ((xs.take k).map fun x => (scn p x).most).map (fun x => [I x]) ++ [[I (p.scenes[xs[k]]).most]] := by rw [map_take_succ _ hk', List.map_append, he]; rfl
  refine aw_skip (aw_seq (aw_block (aw_seq (aw_region ?_))))
  refine sq_ev rfl (ev_index_map sl34 (lr _) (lr _) rfl (by omega)) ?_
  refine sq_ev rfl (ev_load_i (lr _) ty3 rfl) ?_
  refine asr (lr _) rfl ?_
  refine sq_nil (aw_region ?_)
  refine sq_ev rfl (ev_mv (v := .own _ _ _) (lr _)) ?_
  refine sq_ev rfl (ev_fieldAddr fo110_0 (lr _)) ?_
  refine sq_ev rfl (ev_fieldAddr fo27_3 (lr _)) ?_
  refine sq_ev rfl (ev_load (lr _) rfl ty25 rfl) ?_
  refine mvr (lr _) rfl ?_
  refine sq_ev rfl (ev_index_map sl25 (lr _) (lr _) rfl (by omega)) ?_
  refine sq_ev rfl (ev_fieldAddr_i fo84_2 (lr _)) ?_
  refine sq_ev rfl (ev_load_i (lr _) ty3 rfl) ?_
  refine sq_ev rfl (ev_buildSlice (es := [[_]]) sf34 rfl rfl rfl rfl) ?_
  refine sq_append rfl sf34 Tryz.underlying34 rfl rfl (less_slx _ _) (Nat.succ_pos _) (by simp; omega) (by simp; omega) ?_
  refine sq_ev rfl (ev_as (v := .own _ _ _) (lr _)) ?_
  refine sq_nil (aw_region ?_)
  refine sq_ev rfl (ev_add (lr _) (lr _) (wr (by omega) (by omega))) ?_
  refine mvr (lr _) rfl ?_
  refine sq_nil ?_
  exact ⟨⟨k + 1, by omega⟩, by simp only; omega, Sub.fin 2 ⟨lr _, Less.eq (b := .own 1 1 (((xs.take (k + 1)).map fun x => (scn p x).most).map fun x => [I x])) (by rw [eS] <;> rfl), lr _, lr _, lr _, trivial⟩ (congrArg (fun n => [_, AObj.tok n]) (congrArg List.length eS.symm)) (by simp [slotsIn, objsIn, sget, keepS, AObj.inB, AV.inB, AV.inL, AV.inE, inE_map, inE_ints, inE_sc, -List.map_append, -List.map_take, -List.map_map]) (by simp [slotsIn, objsIn, sget, keepS, AObj.inB, AV.inB, AV.inL, AV.inE, inE_map, inE_ints, inE_sc, -List.map_append, -List.map_take, -List.map_map]) (by simp [he0])⟩
 ·
  have c1' := c1
  try simp only [qq] at c1'
  obtain rfl : k = xs.length := by omega
  refine aw_exit (aw_seq (aw_region ?_))
  refine sq_ev rfl (ev_mv (v := .own _ _ _) (lr _)) ?_
  refine sq_ev rfl (ev_call en167 (lr _) (nsum_pure (mosts p xs) (mosts_mem gp cv) (by simp [mosts]; have := cv.len; omega)) ⟨Less.trans (less_own _ _ _) (Less.eq (by simp [mosts])), trivial⟩) ?_
  refine asr (lr _) rfl ?_
  refine sq_nil (aw_ret ?_)
  exact retQ_pure (v := .raw _) rfl rfl (Less.eq (by simp [hsum]))

set_option maxHeartbeats 1000000 in
/-- (kelir/night.played).of -/
theorem nof_pure (p : Pl) (l : List Nat) (part : Int) (gp : GP p) (cv : CV p l) : APure Tryz.prog 136 [played p l, I part] (nats (ofP p l part)) := by
 refine apure_of (rs := [.tmp 4]) Tryz.func136 rfl rfl (Nat.le_of_ble_eq_true rfl) (by simp [AV.pureL, AV.pureB, AV.pureE, pureE_map]) (by simp [AV.pureL, AV.pureB, AV.pureE, pureE_map]) fun e0 he0 => ?_
 refine aw_seq (aw_region ?_)
 refine sq_box rfl (lr _) rfl ?_
 refine asr (lr _) rfl ?_
 refine sq_nil (aw_seq (aw_region ?_))
 refine asr (lr _) rfl ?_
 refine sq_nil (aw_seq (aw_seq (aw_region ?_)))
 refine sq_ev rfl (ev_fieldAddr fo110_1 (lr _)) ?_
 refine sq_ev rfl (ev_load (lr _) rfl ty34 rfl) ?_
 refine sq_ev rfl (ev_len_map sl34 (lr _)) ?_
 refine mvr (lr _) rfl ?_
 refine sq_nil (aw_block ?_)
 refine aw_sub (sub_token 5 1 (lr _)) ?_
 refine aw_loopk (ι := { k : Nat // k ≤ l.length }) [1, 2, 9, 10] (fun i => [(11, I i.1), (5, .own 1 1 (((l.take i.1).filter (inPart p part)).map fun (x : Nat) => [I x]))]) (fun H i => H.set 1 (.tok (((l.take i.1).filter (inPart p part)).map fun (x : Nat) => [I x]).length)) (fun i => l.length - i.1) (⟨0, Nat.zero_le _⟩) ⟨lr _, lr _, lr _, lr _, lr _, lr _, trivial⟩ rfl ?_
 rintro ⟨k, hk⟩
 dsimp only [keepS, St.put, sget, slotsOf, List.map_cons, List.map_nil, List.cons_append, List.nil_append, List.length_cons, List.length_nil, Nat.reduceBEq, Nat.reduceAdd, cond_true, cond_false]
 have hl1 := cv.len
 have hl2 := gp.len
 have hft := ft_len (inPart p part) l k
 refine aw_seq (aw_region ?_)
 refine sq_ev rfl (ev_lss (lr _) (lr _)) ?_
 refine sq_nil (aw_seq ?_)
 refine aw_cond (lr _) (fun c1 => ?_) (fun c1 => ?_)
 ·
  have c1' := c1
  try simp only [qq] at c1'
  have hk' : k < l.length := by omega
  have hlt := cv.rng _ (List.getElem_mem hk')
  have he := scn_eq hlt
  refine aw_skip (aw_seq (aw_block (aw_seq (aw_region ?_))))
  refine sq_ev rfl (ev_index_map sl34 (lr _) (lr _) rfl (by omega)) ?_
  refine sq_ev rfl (ev_load_i (lr _) ty3 rfl) ?_
  refine asr (lr _) rfl ?_
  refine sq_nil (aw_seq (aw_region ?_))
  refine sq_ev rfl (ev_fieldAddr fo110_0 (lr _)) ?_
  refine sq_ev rfl (ev_fieldAddr fo27_3 (lr _)) ?_
  refine sq_ev rfl (ev_load (lr _) rfl ty25 rfl) ?_
  refine mvr (lr _) rfl ?_
  refine sq_ev rfl (ev_index_map sl25 (lr _) (lr _) rfl (by omega)) ?_
  refine sq_ev rfl (ev_fieldAddr_i fo84_0 (lr _)) ?_
  refine sq_ev rfl (ev_load_i (lr _) ty3 rfl) ?_
  refine mvr (lr _) rfl ?_
  refine sq_ev rfl (ev_eql (lr _) (lr _)) ?_
  refine sq_nil ?_
  refine aw_cond (lr _) (fun c2 => ?_) (fun c2 => ?_)
  ·
   have c2' := c2
   try simp only [qq] at c2'
   have eS : ((l.take (k + 1)).filter (inPart p part)).map (fun (x : Nat) => [I x]) = ((l.take k).filter (inPart p part)).map (fun (x : Nat) => [I x]) ++ [[I l[k]]] := by rw [filter_take_succ _ hk', if_pos (by simp [inPart, he, c2']), List.map_append]; rfl
   refine aw_region ?_
   refine sq_ev rfl (ev_mv (v := .own _ _ _) (lr _)) ?_
   refine mvr (lr _) rfl ?_
   refine sq_ev rfl (ev_buildSlice (es := [[_]]) sf34 rfl rfl rfl rfl) ?_
   refine sq_append rfl sf34 Tryz.underlying34 rfl rfl (less_slx _ _) (Nat.succ_pos _) (by simp; omega) (by simp; omega) ?_
   refine sq_ev rfl (ev_as (v := .own _ _ _) (lr _)) ?_
   refine sq_nil (aw_region ?_)
   refine sq_ev rfl (ev_add (lr _) (lr _) (wr (by omega) (by omega))) ?_
   refine mvr (lr _) rfl ?_
   refine sq_nil ?_
   exact ⟨⟨k + 1, by omega⟩, by simp only; omega, Sub.fin 2 ⟨lr _, Less.eq (b := .own 1 1 (((l.take (k + 1)).filter (inPart p part)).map fun (x : Nat) => [I x])) (by rw [eS] <;> rfl), lr _, lr _, lr _, lr _, trivial⟩ (congrArg (fun n => [_, AObj.tok n]) (congrArg List.length eS.symm)) (by simp [slotsIn, objsIn, sget, keepS, AObj.inB, AV.inB, AV.inL, AV.inE, inE_map, inE_ints, inE_sc, -List.map_append, -List.map_take, -List.map_map]) (by simp [slotsIn, objsIn, sget, keepS, AObj.inB, AV.inB, AV.inL, AV.inE, inE_map, inE_ints, inE_sc, -List.map_append, -List.map_take, -List.map_map]) (by simp [he0])⟩
  ·
   have c2' := c2
   try simp only [qq] at c2'
   have eS : ((l.take (k + 1)).filter (inPart p part)).map (fun (x : Nat) => [I x]) = ((l.take k).filter (inPart p part)).map (fun (x : Nat) => [I x]) := by rw [filter_take_succ _ hk', if_neg (by simp [inPart, he, c2']), List.append_nil]
   refine aw_skip (aw_region ?_)
   refine sq_ev rfl (ev_add (lr _) (lr _) (wr (by omega) (by omega))) ?_
   refine mvr (lr _) rfl ?_
   refine sq_nil ?_
   exact ⟨⟨k + 1, by omega⟩, by simp only; omega, Sub.fin 2 ⟨lr _, Less.eq (b := .own 1 1 (((l.take (k + 1)).filter (inPart p part)).map fun (x : Nat) => [I x])) (by rw [eS] <;> rfl), lr _, lr _, lr _, lr _, trivial⟩ (congrArg (fun n => [_, AObj.tok n]) (congrArg List.length eS.symm)) (by simp [slotsIn, objsIn, sget, keepS, AObj.inB, AV.inB, AV.inL, AV.inE, inE_map, inE_ints, inE_sc, -List.map_append, -List.map_take, -List.map_map]) (by simp [slotsIn, objsIn, sget, keepS, AObj.inB, AV.inB, AV.inL, AV.inE, inE_map, inE_ints, inE_sc, -List.map_append, -List.map_take, -List.map_map]) (by simp [he0])⟩
 ·
  have c1' := c1
  try simp only [qq] at c1'
  obtain rfl : k = l.length := by omega
  refine aw_exit (aw_seq (aw_region ?_))
  refine sq_ev rfl (ev_mv (v := .own _ _ _) (lr _)) ?_
  refine sq_ev rfl (ev_as (v := .own _ _ _) (lr _)) ?_
  refine sq_nil (aw_ret ?_)
  exact retQ_pure (v := .own _ _ _) rfl rfl (Less.trans (less_own _ _ _) (Less.eq (by simp [ofP])))

set_option maxHeartbeats 400000 in
/-- kelir/night.both -/
theorem nboth_pure (a b c d : Int) : APure Tryz.prog 98 [.agg [I a, I b], .agg [I c, I d]] (.agg [I (max a c), I (min b d)]) := by
 refine apure_of (rs := [.cell 4 23]) Tryz.func98 rfl rfl (Nat.le_of_ble_eq_true rfl) (by simp [AV.pureL, AV.pureB, AV.pureE, pureE_map]) (rfl) fun e0 he0 => ?_
 refine aw_seq (aw_region ?_)
 refine sq_box rfl (lr _) rfl ?_
 refine sq_box rfl (lr _) rfl ?_
 refine sq_alloc rfl z23 ?_
 refine sq_nil (aw_seq (aw_region ?_))
 refine sq_ev rfl (ev_fieldAddr fo23_0 (lr _)) ?_
 refine sq_ev rfl (ev_load (lr _) rfl ty3 rfl) ?_
 refine sq_ev rfl (ev_fieldAddr fo23_0 (lr _)) ?_
 refine sq_ev rfl (ev_load (lr _) rfl ty3 rfl) ?_
 refine sq_ev rfl (ev_max2 (lr _) (lr _)) ?_
 refine sq_ev rfl (ev_fieldAddr fo23_1 (lr _)) ?_
 refine sq_ev rfl (ev_load (lr _) rfl ty3 rfl) ?_
 refine sq_ev rfl (ev_fieldAddr fo23_1 (lr _)) ?_
 refine sq_ev rfl (ev_load (lr _) rfl ty3 rfl) ?_
 refine sq_ev rfl (ev_min2 (lr _) (lr _)) ?_
 refine sq_ev rfl (ev_build bi23 rfl) ?_
 refine sq_store rfl (lr _) (lr _) rfl rfl ty23 rfl rfl ?_
 refine sq_nil (aw_ret ?_)
 exact retQ_res (vs := [.agg _]) rfl rfl ⟨resVar_cell rfl rfl ty23 rfl, trivial⟩ (Less.eq (by simp))

set_option maxHeartbeats 400000 in
/-- kelir/night.wider -/
theorem nwider_pure (a b c d : Int) (m : Bool) : APure Tryz.prog 97 [.agg [I a, I b], B m, .agg [I c, I d]] (.agg (if m then [I (min a c), I (max b d)] else [I c, I d])) := by
 refine apure_of (rs := [.cell 6 23]) Tryz.func97 rfl rfl (Nat.le_of_ble_eq_true rfl) (by simp [AV.pureL, AV.pureB, AV.pureE, pureE_map]) (by cases m <;> rfl) fun e0 he0 => ?_
 refine aw_seq (aw_region ?_)
 refine sq_box rfl (lr _) rfl ?_
 refine sq_box rfl (lr _) rfl ?_
 refine sq_alloc rfl z23 ?_
 refine sq_nil (aw_seq (aw_seq (aw_region ?_)))
 refine mvr (lr _) rfl ?_
 refine sq_ev rfl (ev_not (lr _)) ?_
 refine sq_nil ?_
 refine aw_cond (lr _) (fun c1 => ?_) (fun c1 => ?_)
 ·
  have c1' := c1
  try simp only [qq] at c1'
  refine aw_seq (aw_region ?_)
  refine sq_ev rfl (ev_load_agg (lr _) rfl ty23 rfl) ?_
  refine sq_store rfl (lr _) (lr _) rfl rfl ty23 rfl rfl ?_
  refine sq_nil (aw_ret ?_)
  exact retQ_res (vs := [.agg _]) rfl rfl ⟨resVar_cell rfl rfl ty23 rfl, trivial⟩ (Less.eq (by simp [*]))
 ·
  have c1' := c1
  try simp only [qq] at c1'
  refine aw_skip (aw_seq (aw_region ?_))
  refine sq_ev rfl (ev_fieldAddr fo23_0 (lr _)) ?_
  refine sq_ev rfl (ev_load (lr _) rfl ty3 rfl) ?_
  refine sq_ev rfl (ev_fieldAddr fo23_0 (lr _)) ?_
  refine sq_ev rfl (ev_load (lr _) rfl ty3 rfl) ?_
  refine sq_ev rfl (ev_min2 (lr _) (lr _)) ?_
  refine sq_ev rfl (ev_fieldAddr fo23_1 (lr _)) ?_
  refine sq_ev rfl (ev_load (lr _) rfl ty3 rfl) ?_
  refine sq_ev rfl (ev_fieldAddr fo23_1 (lr _)) ?_
  refine sq_ev rfl (ev_load (lr _) rfl ty3 rfl) ?_
  refine sq_ev rfl (ev_max2 (lr _) (lr _)) ?_
  refine sq_ev rfl (ev_build bi23 rfl) ?_
  refine sq_store rfl (lr _) (lr _) rfl rfl ty23 rfl rfl ?_
  refine sq_nil (aw_ret ?_)
  exact retQ_res (vs := [.agg _]) rfl rfl ⟨resVar_cell rfl rfl ty23 rfl, trivial⟩ (Less.eq (by simp [*]))

set_option maxHeartbeats 400000 in
/-- (kelir/night.played).lasts -/
theorem nlasts_pure (p : Pl) (l xs : List Nat) (gp : GP p) (cv : CV p xs) : APure Tryz.prog 135 [played p l, nats xs] (.agg [I (lsum p xs), I (hsum p xs)]) := by
 refine apure_of (rs := [.cell 4 23]) Tryz.func135 rfl rfl (Nat.le_of_ble_eq_true rfl) (by simp [AV.pureL, AV.pureB, AV.pureE, pureE_map]) (rfl) fun e0 he0 => ?_
 refine aw_seq (aw_region ?_)
 refine sq_box rfl (lr _) rfl ?_
 refine sq_alloc rfl z23 ?_
 refine sq_nil (aw_seq (aw_region ?_))
 refine sq_ev rfl (ev_load_agg (lr _) rfl ty110 rfl) ?_
 refine sq_ev rfl (ev_makeFunc) ?_
 refine sq_ev rfl (ev_load_agg (lr _) rfl ty110 rfl) ?_
 refine sq_ev rfl (ev_makeFunc) ?_
 refine sq_ev rfl (ev_build bi187 rfl) ?_
 refine sq_alloc rfl z187 ?_
 refine sq_store rfl (lr _) (lr _) rfl rfl ty187 rfl rfl ?_
 refine sq_nil (aw_seq ?_)
 refine aw_draw 9 mo (by kernel_rfl) ?_
 refine dr_ev rfl (ev_index_box ar187 (lr _) (lr _) rfl (by decide)) ?_
 refine dr_ev rfl (ev_load (lr _) rfl ty186 rfl) ?_
 refine dr_ev rfl (ev_mv (v := .sl _ _) (lr _)) ?_
 refine dr_ev rfl (ev_call en160 (lr _) (nleast_pure p l xs gp cv) ⟨lr _, lr _, trivial⟩) ?_
 refine dr_ev rfl (ev_index_box ar187 (lr _) (lr _) rfl (by decide)) ?_
 refine dr_ev rfl (ev_load (lr _) rfl ty186 rfl) ?_
 refine dr_ev rfl (ev_mv (v := .sl _ _) (lr _)) ?_
 refine dr_ev rfl (ev_call en161 (lr _) (nmost_pure p l xs gp cv) ⟨lr _, lr _, trivial⟩) ?_
 refine dr_ev rfl (ev_build bi23 rfl) ?_
 refine dr_end ?_
 refine sq_store rfl (lr _) (lr _) rfl rfl ty23 rfl rfl ?_
 refine sq_nil (aw_ret ?_)
 exact retQ_res (vs := [.agg _]) rfl rfl ⟨resVar_cell rfl rfl ty23 rfl, trivial⟩ (Less.eq (by simp))


end Go.Proofs.YtjghdbdiejaacaaGreatDoor

namespace Go.Proofs.YtjghdbdiejaacaaGreatDoor
open Go Go.Ab Ni
theorem ar118 : arrElem Tryz.prog 118 = some (4, 23, 2) := by kernel_rfl
theorem bi132 : bldInfo Tryz.prog 132 = some ([.raw (.int .i64 0), .raw (.int .i64 0)], true, [(0, 1), (1, 1)], 0) := by kernel_rfl
theorem en135 : Ent Tryz.prog 135 := Ent.of Tryz.func135 (by kernel_rfl) rfl
theorem en136 : Ent Tryz.prog 136 := Ent.of Tryz.func136 (by kernel_rfl) rfl
theorem en98 : Ent Tryz.prog 98 := Ent.of Tryz.func98 (by kernel_rfl) rfl
theorem ni132 : notIface Tryz.prog 132 = true := by kernel_rfl
theorem ty118 : tySz Tryz.prog 118 = some (true, 8) := by kernel_rfl
theorem z118 : zeroOf Tryz.prog 118 = some [.raw (.int .i64 0), .raw (.int .i64 0), .raw (.int .i64 0), .raw (.int .i64 0), .raw (.int .i64 0), .raw (.int .i64 0), .raw (.int .i64 0), .raw (.int .i64 0)] := by kernel_rfl

/-- the minutes at which parts begin, k of them told -/
abbrev fwc (p : Pl) (l : List Nat) (k : Nat) : List AV := [I (fw p l 0).1, I (fw p l 0).2, I (if 0 < k then (fw p l 1).1 else 0), I (if 0 < k then (fw p l 1).2 else 0), I (if 1 < k then (fw p l 2).1 else 0), I (if 1 < k then (fw p l 2).2 else 0), I (if 2 < k then (fw p l 3).1 else 0), I (if 2 < k then (fw p l 3).2 else 0)]
def fwR (p : Pl) (l : List Nat) : ARes → Prop := fun x => match ffail p l with
  | none => x = .ret (.agg (fwc p l 3))
  | some (k, f) => x = .pan (.ifc 132 (.agg [I k, I f]))
/-- the minutes at which parts end, by what comes later: j of them told -/
abbrev bwc (p : Pl) (l : List Nat) (j : Nat) : List AV := [I (if 2 < j then (bw p l 2).1 else 0), I (if 2 < j then (bw p l 2).2 else 0), I (if 1 < j then (bw p l 1).1 else 0), I (if 1 < j then (bw p l 1).2 else 0), I (if 0 < j then (bw p l 0).1 else 0), I (if 0 < j then (bw p l 0).2 else 0)]
theorem nlastsP_pure (p : Pl) (l : List Nat) (k : Nat) (gp : GP p) (cv : CV p l) : APure Tryz.prog 135 [played p l, nats (ofP p l (k : Int))] (.agg [I (pl p l k), I (ph p l k)]) := nlasts_pure p l (ofP p l k) gp (ofP_cv cv _)

set_option maxHeartbeats 2000000 in
/-- (kelir/night.played).forward -/
theorem nforward_pan (p : Pl) (l : List Nat) (gp : GP p) (cv : CV p l) : APan Tryz.prog 99 [played p l] (fwR p l) := by
 refine APan.of_acall (by simp [AV.pureL, AV.pureB, AV.pureE, pureE_map]) (acall_of (rs := [.cell 2 118]) Tryz.func99 rfl rfl (Nat.le_of_ble_eq_true rfl) fun e0 he0 => ?_)
 refine aw_seq (aw_region ?_)
 refine sq_box rfl (lr _) rfl ?_
 refine sq_alloc rfl z118 ?_
 refine sq_nil (aw_seq (aw_region ?_))
 refine sq_alloc rfl z118 ?_
 refine sq_nil (aw_seq (aw_region ?_))
 refine sq_ev rfl (ev_fieldAddr fo110_0 (lr _)) ?_
 refine sq_ev rfl (ev_fieldAddr fo27_0 (lr _)) ?_
 refine sq_ev rfl (ev_load (lr _) rfl ty3 rfl) ?_
 refine sq_ev rfl (ev_fieldAddr fo110_0 (lr _)) ?_
 refine sq_ev rfl (ev_fieldAddr fo27_0 (lr _)) ?_
 refine sq_ev rfl (ev_load (lr _) rfl ty3 rfl) ?_
 refine sq_ev rfl (ev_build bi23 rfl) ?_
 refine sq_ev rfl (ev_index_box ar118 (lr _) (lr _) rfl (by decide)) ?_
 refine sq_store rfl (lr _) (lr _) rfl rfl ty23 rfl rfl ?_
 refine sq_nil (aw_seq (aw_seq (aw_region ?_)))
 refine mvr (lr _) rfl ?_
 refine sq_nil (aw_block ?_)
 refine aw_loopk (ι := { k : Nat // k ≤ 3 ∧ ∀ j, j < k → flt p l j = 0 }) [1, 2, 3] (fun i => [(16, I i.1)]) (fun H i => H.set 2 (.cells (fwc p l i.1))) (fun i => 3 - i.1) (⟨0, by omega, by omega⟩) ⟨lr _, lr _, lr _, lr _, trivial⟩ rfl ?_
 rintro ⟨k, hk, hno⟩
 dsimp only [keepS, St.put, sget, slotsOf, List.map_cons, List.map_nil, List.cons_append, List.nil_append, List.length_cons, List.length_nil, Nat.reduceBEq, Nat.reduceAdd, cond_true, cond_false]
 refine aw_seq (aw_region ?_)
 refine sq_ev rfl (ev_lss (lr _) (lr _)) ?_
 refine sq_nil (aw_seq ?_)
 refine aw_cond (lr _) (fun c1 => ?_) (fun c1 => ?_)
 ·
  have c1' := c1
  try simp only [qq] at c1'
  have hk3 : k < 3 := by omega
  have b1 := fw_bd gp cv k
  have b2 : 0 ≤ pl p l k ∧ pl p l k ≤ 10000000 := lsum_bd gp (ofP_cv cv _)
  have b3 : 0 ≤ ph p l k ∧ ph p l k ≤ 10000000 := hsum_bd gp (ofP_cv cv _)
  refine aw_skip (aw_seq (aw_block (aw_seq (aw_region ?_))))
  refine mvr (lr _) rfl ?_
  refine asr (lr _) rfl ?_
  refine sq_nil (aw_seq ?_)
  refine aw_draw 11 mo (by kernel_rfl) ?_
  refine dr_ev rfl (ev_load_agg (lr _) rfl ty110 rfl) ?_
  refine dr_ev rfl (ev_load_agg (lr _) rfl ty110 rfl) ?_
  refine dr_ev rfl (ev_mv (v := .raw _) (lr _)) ?_
  refine dr_ev rfl (ev_call en136 (lr _) (nof_pure p l (k : Int) gp cv) ⟨lr _, lr _, trivial⟩) ?_
  refine dr_ev rfl (ev_call en135 (lr _) (nlastsP_pure p l k gp cv) ⟨lr _, lr _, trivial⟩) ?_
  refine dr_ev rfl (ev_fieldAddr fo110_0 (lr _)) ?_
  refine dr_ev rfl (ev_load_agg (lr _) rfl ty27 rfl) ?_
  refine dr_ev rfl (ev_mv (v := .raw _) (lr _)) ?_
  refine dr_ev rfl (ev_call en142 (lr _) (nwindow_pure p k hk3) ⟨lr _, lr _, trivial⟩) ?_
  refine dr_alloc rfl z23 ?_
  refine dr_alloc rfl z23 ?_
  refine dr_end ?_
  refine sq_store rfl (lr _) (lr _) rfl rfl ty23 rfl rfl ?_
  refine sq_store rfl (lr _) (lr _) rfl rfl ty23 rfl rfl ?_
  refine sq_nil (aw_seq ?_)
  refine aw_draw 16 mo (by kernel_rfl) ?_
  refine dr_ev rfl (ev_mv (v := .raw _) (lr _)) ?_
  refine dr_ev rfl (ev_index_box ar118 (lr _) (lr _) rfl (by omega)) ?_
  refine dr_ev rfl (ev_fieldAddr fo23_0 (lr _)) ?_
  refine dr_ev rfl (ev_load (v := I (fw p l k).1) (lr _) rfl ty3 (by rcases k with _ | _ | _ | k <;> first | rfl | omega)) ?_
  refine dr_ev rfl (ev_fieldAddr fo23_0 (lr _)) ?_
  refine dr_ev rfl (ev_load (lr _) rfl ty3 rfl) ?_
  refine dr_ev rfl (ev_add (lr _) (lr _) (wr (by omega) (by omega))) ?_
  refine dr_ev rfl (ev_mv (v := .raw _) (lr _)) ?_
  refine dr_ev rfl (ev_index_box ar118 (lr _) (lr _) rfl (by omega)) ?_
  refine dr_ev rfl (ev_fieldAddr fo23_1 (lr _)) ?_
  refine dr_ev rfl (ev_load (v := I (fw p l k).2) (lr _) rfl ty3 (by rcases k with _ | _ | _ | k <;> first | rfl | omega)) ?_
  refine dr_ev rfl (ev_fieldAddr fo23_1 (lr _)) ?_
  refine dr_ev rfl (ev_load (lr _) rfl ty3 rfl) ?_
  refine dr_ev rfl (ev_add (lr _) (lr _) (wr (by omega) (by omega))) ?_
  refine dr_ev rfl (ev_build bi23 rfl) ?_
  refine dr_alloc rfl z23 ?_
  refine dr_end ?_
  refine sq_store rfl (lr _) (lr _) rfl rfl ty23 rfl rfl ?_
  refine sq_nil (aw_seq (aw_block (aw_seq (aw_region ?_))))
  refine sq_ev rfl (ev_fieldAddr fo23_1 (lr _)) ?_
  refine sq_ev rfl (ev_load (lr _) rfl ty3 rfl) ?_
  refine sq_ev rfl (ev_fieldAddr fo23_0 (lr _)) ?_
  refine sq_ev rfl (ev_load (lr _) rfl ty3 rfl) ?_
  refine sq_ev rfl (ev_lss (lr _) (lr _)) ?_
  refine asr (lr _) rfl ?_
  refine sq_nil ?_
  refine aw_cond (lr _) (fun c2 => ?_) (fun c2 => ?_)
  ·
   have c2' := c2
   try simp only [qq] at c2'
   refine aw_region ?_
   refine mvr (lr _) rfl ?_
   refine sq_ev rfl (ev_build bi132 rfl) ?_
   refine sq_ev rfl (ev_makeIface ni132 (lr _)) ?_
   refine sq_panic (lr _) ?_
   have hf : flt p l k = 1 := by simp [flt, *]
   exact ⟨rfl, .pan (.ifc 132 (.agg [I k, I 1])), (by rw [fwR, ffail_some hk3 hno (by rw [hf]; decide), hf]), rfl, lr _⟩
  ·
   have c2' := c2
   try simp only [qq] at c2'
   refine aw_seq (aw_region ?_)
   refine sq_ev rfl (ev_fieldAddr fo23_0 (lr _)) ?_
   refine sq_ev rfl (ev_load (lr _) rfl ty3 rfl) ?_
   refine sq_ev rfl (ev_fieldAddr fo23_1 (lr _)) ?_
   refine sq_ev rfl (ev_load (lr _) rfl ty3 rfl) ?_
   refine sq_ev rfl (ev_gtr (lr _) (lr _)) ?_
   refine asr (lr _) rfl ?_
   refine sq_nil ?_
   refine aw_cond (lr _) (fun c3 => ?_) (fun c3 => ?_)
   ·
    have c3' := c3
    try simp only [qq] at c3'
    refine aw_region ?_
    refine mvr (lr _) rfl ?_
    refine sq_ev rfl (ev_build bi132 rfl) ?_
    refine sq_ev rfl (ev_makeIface ni132 (lr _)) ?_
    refine sq_panic (lr _) ?_
    have hf : flt p l k = 2 := by simp only [flt]; rw [if_neg (by omega), if_pos (by omega)]
    exact ⟨rfl, .pan (.ifc 132 (.agg [I k, I 2])), (by rw [fwR, ffail_some hk3 hno (by rw [hf]; decide), hf]), rfl, lr _⟩
   ·
    have c3' := c3
    try simp only [qq] at c3'
    refine aw_skip (aw_region ?_)
    refine mvr (lr _) rfl ?_
    refine sq_ev rfl (ev_add (lr _) (lr _) (wr (by omega) (by omega))) ?_
    refine sq_ev rfl (ev_load_agg (lr _) rfl ty23 rfl) ?_
    refine sq_ev rfl (ev_load_agg (lr _) rfl ty23 rfl) ?_
    refine sq_ev rfl (ev_call en98 (lr _) (nboth_pure _ _ _ _) ⟨lr _, lr _, trivial⟩) ?_
    refine sq_ev rfl (ev_index_box (k := k + 1) ar118 (lr _) (lr _) (by omega) (by omega)) ?_
    refine sq_store rfl (lr _) (lr _) rfl rfl ty23 rfl (by rcases k with _ | _ | _ | k <;> first | rfl | omega) ?_
    refine sq_nil (aw_region ?_)
    refine sq_ev rfl (ev_add (lr _) (lr _) (wr (by omega) (by omega))) ?_
    refine mvr (lr _) rfl ?_
    refine sq_nil ?_
    have hf0 : flt p l k = 0 := by simp [flt, *]
    exact ⟨⟨k + 1, by omega, fun j hj => (by by_cases e : j = k; (subst e; exact hf0); exact hno j (by omega))⟩, by simp only; omega, Sub.fin 3 ⟨lr _, lr _, lr _, lr _, trivial⟩ (by rcases k with _ | _ | _ | k <;> first | rfl | omega) (by simp [slotsIn, objsIn, sget, keepS, AObj.inB, AV.inB, AV.inL, AV.inE, inE_map, inE_ints, inE_sc, -List.map_append, -List.map_take, -List.map_map]) (by simp [slotsIn, objsIn, sget, keepS, AObj.inB, AV.inB, AV.inL, AV.inE, inE_map, inE_ints, inE_sc, -List.map_append, -List.map_take, -List.map_map]) (by simp [he0])⟩
 ·
  have c1' := c1
  try simp only [qq] at c1'
  obtain rfl : k = 3 := by omega
  refine aw_exit (aw_seq (aw_region ?_))
  refine sq_ev rfl (ev_load_agg (lr _) rfl ty118 rfl) ?_
  refine sq_store rfl (lr _) (lr _) rfl rfl ty118 rfl rfl ?_
  refine sq_nil (aw_ret ?_)
  exact retQ_any (vs := [.agg _]) rfl rfl ⟨resVar_cell rfl rfl ty118 rfl, trivial⟩ (⟨.ret (.agg (fwc p l 3)), (by rw [fwR, ffail_none hno]), rfl, Less.eq (by simp)⟩)

theorem nforward_pure (p : Pl) (l : List Nat) (gp : GP p) (cv : CV p l) (h : ffail p l = none) : APure Tryz.prog 99 [played p l] (.agg (fwc p l 3)) :=
  (nforward_pan p l gp cv).pure (by simp [AV.pureL, AV.pureB, AV.pureE, pureE_map]) rfl fun x hx => by rw [fwR, h] at hx; exact ⟨_, hx, lr _⟩

set_option maxHeartbeats 2000000 in
/-- (kelir/night.played).backward -/
theorem nbackward_pure (p : Pl) (l : List Nat) (gp : GP p) (cv : CV p l) : APure Tryz.prog 100 [played p l] (.agg (bwc p l 3)) := by
 refine apure_of (rs := [.cell 2 120]) Tryz.func100 rfl rfl (Nat.le_of_ble_eq_true rfl) (by simp [AV.pureL, AV.pureB, AV.pureE, pureE_map]) (rfl) fun e0 he0 => ?_
 refine aw_seq (aw_region ?_)
 refine sq_box rfl (lr _) rfl ?_
 refine sq_alloc rfl z120 ?_
 refine sq_nil (aw_seq (aw_region ?_))
 refine sq_alloc rfl z120 ?_
 refine sq_nil (aw_seq (aw_seq (aw_region ?_)))
 refine asr (lr _) rfl ?_
 refine sq_nil (aw_block ?_)
 refine aw_loopk (ι := { j : Nat // j ≤ 3 }) [1, 2, 3] (fun i => [(4, I (2 - (i.1 : Int)))]) (fun H i => H.set 2 (.cells (bwc p l i.1))) (fun i => 3 - i.1) (⟨0, by omega⟩) ⟨(by exact less_int (by simp)), lr _, lr _, lr _, trivial⟩ rfl ?_
 rintro ⟨j, hj⟩
 dsimp only [keepS, St.put, sget, slotsOf, List.map_cons, List.map_nil, List.cons_append, List.nil_append, List.length_cons, List.length_nil, Nat.reduceBEq, Nat.reduceAdd, cond_true, cond_false]
 refine aw_seq (aw_seq (aw_region ?_))
 refine mvr (lr _) rfl ?_
 refine sq_ev rfl (ev_geq (lr _) (lr _)) ?_
 refine sq_nil ?_
 refine aw_cond (lr _) (fun c1 => ?_) (fun c1 => ?_)
 ·
  have c1' := c1
  try simp only [qq] at c1'
  have hj3 : j < 3 := by omega
  refine aw_skip (aw_seq (aw_block (aw_seq (aw_region ?_))))
  refine mvr (lr _) rfl ?_
  refine sq_ev rfl (ev_fieldAddr fo110_0 (lr _)) ?_
  refine sq_ev rfl (ev_load_agg (lr _) rfl ty27 rfl) ?_
  refine mvr (lr _) rfl ?_
  refine sq_ev rfl (ev_call en142 (lr _) (nwindow_pure p (2 - j) (by omega)) ⟨lr _, less_int (by omega), trivial⟩) ?_
  refine sq_ev rfl (ev_index_box (k := 2 - j) ar120 (lr _) (lr _) (by omega) (by omega)) ?_
  refine sq_store rfl (lr _) (lr _) rfl rfl ty23 rfl (by rcases j with _ | _ | _ | j <;> first | rfl | omega) ?_
  refine sq_nil (aw_seq (aw_region ?_))
  refine mvr (lr _) rfl ?_
  refine sq_ev rfl (ev_lss (lr _) (lr _)) ?_
  refine sq_nil ?_
  refine aw_cond (lr _) (fun c2 => ?_) (fun c2 => ?_)
  ·
   have c2' := c2
   try simp only [qq] at c2'
   obtain ⟨i, hi⟩ : ∃ i, j = i + 1 := ⟨j - 1, by omega⟩
   have b1 := bw_bd gp cv i
   have b2 : 0 ≤ pl p l (2 - i) ∧ pl p l (2 - i) ≤ 10000000 := lsum_bd gp (ofP_cv cv _)
   have b3 : 0 ≤ ph p l (2 - i) ∧ ph p l (2 - i) ≤ 10000000 := hsum_bd gp (ofP_cv cv _)
   refine aw_seq ?_
   refine aw_draw 7 mo (by kernel_rfl) ?_
   refine dr_ev rfl (ev_load_agg (lr _) rfl ty110 rfl) ?_
   refine dr_ev rfl (ev_load_agg (lr _) rfl ty110 rfl) ?_
   refine dr_ev rfl (ev_mv (v := .raw _) (lr _)) ?_
   refine dr_ev rfl (ev_add (lr _) (lr _) (wr (by omega) (by omega))) ?_
   refine dr_ev rfl (ev_call en136 (lr _) (nof_pure p l ((2 - i : Nat) : Int) gp cv) ⟨lr _, less_int (by omega), trivial⟩) ?_
   refine dr_ev rfl (ev_call en135 (lr _) (nlastsP_pure p l (2 - i) gp cv) ⟨lr _, lr _, trivial⟩) ?_
   refine dr_alloc rfl z23 ?_
   refine dr_end ?_
   refine sq_store rfl (lr _) (lr _) rfl rfl ty23 rfl rfl ?_
   refine sq_nil ?_
   refine aw_draw 23 mo (by kernel_rfl) ?_
   refine dr_ev rfl (ev_mv (v := .raw _) (lr _)) ?_
   refine dr_ev rfl (ev_mv (v := .raw _) (lr _)) ?_
   refine dr_ev rfl (ev_index_box (k := 1 - i) ar120 (lr _) (lr _) (by omega) (by omega)) ?_
   refine dr_ev rfl (ev_less (ev_load_agg (n := 2) (lr _) rfl ty23 (by subst hi; first | rfl | (rcases i with _ | _ | _ | i <;> first | rfl | omega))) (Less.eq (b := .agg [I (wl p (1 - i)), I (wh p (1 - i))]) (by subst hi; first | rfl | (rcases i with _ | _ | _ | i <;> first | rfl | omega)))) ?_
   refine dr_ev rfl (ev_mv (v := .raw _) (lr _)) ?_
   refine dr_ev rfl (ev_add (lr _) (lr _) (wr (by omega) (by omega))) ?_
   refine dr_ev rfl (ev_index_box (k := 2 - i) ar120 (lr _) (lr _) (by omega) (by omega)) ?_
   refine dr_ev rfl (ev_fieldAddr fo23_0 (lr _)) ?_
   refine dr_ev rfl (ev_load (v := I (bw p l i).1) (lr _) rfl ty3 (by subst hi; first | rfl | (rcases i with _ | _ | _ | i <;> first | rfl | omega))) ?_
   refine dr_ev rfl (ev_fieldAddr fo23_1 (lr _)) ?_
   refine dr_ev rfl (ev_load (lr _) rfl ty3 rfl) ?_
   refine dr_ev rfl (ev_sub (lr _) (lr _) (wr (by omega) (by omega))) ?_
   refine dr_ev rfl (ev_mv (v := .raw _) (lr _)) ?_
   refine dr_ev rfl (ev_add (lr _) (lr _) (wr (by omega) (by omega))) ?_
   refine dr_ev rfl (ev_index_box (k := 2 - i) ar120 (lr _) (lr _) (by omega) (by omega)) ?_
   refine dr_ev rfl (ev_fieldAddr fo23_1 (lr _)) ?_
   refine dr_ev rfl (ev_load (v := I (bw p l i).2) (lr _) rfl ty3 (by subst hi; first | rfl | (rcases i with _ | _ | _ | i <;> first | rfl | omega))) ?_
   refine dr_ev rfl (ev_fieldAddr fo23_0 (lr _)) ?_
   refine dr_ev rfl (ev_load (lr _) rfl ty3 rfl) ?_
   refine dr_ev rfl (ev_sub (lr _) (lr _) (wr (by omega) (by omega))) ?_
   refine dr_ev rfl (ev_build bi23 rfl) ?_
   refine dr_ev rfl (ev_call en98 (lr _) (nboth_pure _ _ _ _) ⟨lr _, lr _, trivial⟩) ?_
   refine dr_ev rfl (ev_index_box (k := 1 - i) ar120 (lr _) (lr _) (by omega) (by omega)) ?_
   refine dr_end ?_
   refine sq_store rfl (lr _) (lr _) rfl rfl ty23 rfl (by subst hi; first | rfl | (rcases i with _ | _ | _ | i <;> first | rfl | omega)) ?_
   refine sq_nil (aw_region ?_)
   refine mvr (lr _) rfl ?_
   refine sq_ev rfl (ev_sub (lr _) (lr _) (wr (by omega) (by omega))) ?_
   refine asr (lr _) rfl ?_
   refine sq_nil ?_
   exact ⟨⟨j + 1, by omega⟩, by simp only; omega, Sub.fin 3 ⟨(by exact less_int (by simp only; omega)), lr _, lr _, lr _, trivial⟩ (by subst hi; first | rfl | (rcases i with _ | _ | _ | i <;> first | rfl | omega)) (by simp [slotsIn, objsIn, sget, keepS, AObj.inB, AV.inB, AV.inL, AV.inE, inE_map, inE_ints, inE_sc, -List.map_append, -List.map_take, -List.map_map]) (by simp [slotsIn, objsIn, sget, keepS, AObj.inB, AV.inB, AV.inL, AV.inE, inE_map, inE_ints, inE_sc, -List.map_append, -List.map_take, -List.map_map]) (by simp [he0])⟩
  ·
   have c2' := c2
   try simp only [qq] at c2'
   have hi : j = 0 := by omega
   refine aw_skip (aw_region ?_)
   refine mvr (lr _) rfl ?_
   refine sq_ev rfl (ev_sub (lr _) (lr _) (wr (by omega) (by omega))) ?_
   refine asr (lr _) rfl ?_
   refine sq_nil ?_
   exact ⟨⟨j + 1, by omega⟩, by simp only; omega, Sub.fin 3 ⟨(by exact less_int (by simp only; omega)), lr _, lr _, lr _, trivial⟩ (by subst hi; first | rfl | (rcases i with _ | _ | _ | i <;> first | rfl | omega)) (by simp [slotsIn, objsIn, sget, keepS, AObj.inB, AV.inB, AV.inL, AV.inE, inE_map, inE_ints, inE_sc, -List.map_append, -List.map_take, -List.map_map]) (by simp [slotsIn, objsIn, sget, keepS, AObj.inB, AV.inB, AV.inL, AV.inE, inE_map, inE_ints, inE_sc, -List.map_append, -List.map_take, -List.map_map]) (by simp [he0])⟩
 ·
  have c1' := c1
  try simp only [qq] at c1'
  obtain rfl : j = 3 := by omega
  refine aw_exit (aw_seq (aw_region ?_))
  refine sq_ev rfl (ev_load_agg (lr _) rfl ty120 rfl) ?_
  refine sq_store rfl (lr _) (lr _) rfl rfl ty120 rfl rfl ?_
  refine sq_nil (aw_ret ?_)
  exact retQ_res (vs := [.agg _]) rfl rfl ⟨resVar_cell rfl rfl ty120 rfl, trivial⟩ (Less.eq (by simp))


end Go.Proofs.YtjghdbdiejaacaaGreatDoor
