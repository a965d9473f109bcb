/-
  A part of the proof: conditions: none beyond each theorem's own.
-/
import Derived.Test.YtmbknoaneglilaaGreatDoorWalkB
import Derived.Test.YtmbknoaneglilaaGreatDoorSpecA
import Derived.Test.YtmbknoaneglilaaGreatDoorLogicD
set_option linter.all false
set_option maxHeartbeats 8000000
namespace Go.Proofs.YtmbknoaneglilaaGreatDoor
open Go Go.Ab Ni Ol
theorem en107 : Ent Tryz.prog 107 := Ent.of Tryz.func107 (by kernel_rfl) rfl
theorem en149 : Ent Tryz.prog 149 := Ent.of Tryz.func149 (by kernel_rfl) rfl
theorem en150 : Ent Tryz.prog 150 := Ent.of Tryz.func150 (by kernel_rfl) rfl
theorem en151 : Ent Tryz.prog 151 := Ent.of Tryz.func151 (by kernel_rfl) rfl
theorem en152 : Ent Tryz.prog 152 := Ent.of Tryz.func152 (by kernel_rfl) rfl
theorem en177 : Ent Tryz.prog 177 := Ent.of Tryz.func177 (by kernel_rfl) rfl
theorem en178 : Ent Tryz.prog 178 := Ent.of Tryz.func178 (by kernel_rfl) rfl
theorem en179 : Ent Tryz.prog 179 := Ent.of Tryz.func179 (by kernel_rfl) rfl
theorem en180 : Ent Tryz.prog 180 := Ent.of Tryz.func180 (by kernel_rfl) rfl
theorem en191 : Ent Tryz.prog 191 := Ent.of Tryz.func191 (by kernel_rfl) rfl
theorem fo145_0 : fOff Tryz.prog 145 0 = some (0, 23) := by kernel_rfl
theorem fo145_1 : fOff Tryz.prog 145 1 = some (6, 45) := by kernel_rfl
theorem fo145_2 : fOff Tryz.prog 145 2 = some (7, 49) := by kernel_rfl
theorem fo47_0 : fOff Tryz.prog 47 0 = some (0, 3) := by kernel_rfl
theorem fo47_1 : fOff Tryz.prog 47 1 = some (1, 3) := by kernel_rfl
theorem fo49_0 : fOff Tryz.prog 49 0 = some (0, 47) := by kernel_rfl
theorem fo49_1 : fOff Tryz.prog 49 1 = some (2, 47) := by kernel_rfl
theorem fo49_2 : fOff Tryz.prog 49 2 = some (4, 3) := by kernel_rfl
theorem sl45 : slElem Tryz.prog 45 = some (26, 1) := by kernel_rfl
theorem ty45 : tySz Tryz.prog 45 = some (false, 1) := by kernel_rfl
theorem ty47 : tySz Tryz.prog 47 = some (true, 2) := by kernel_rfl
theorem ty49 : tySz Tryz.prog 49 = some (true, 5) := by kernel_rfl
theorem ty5 : tySz Tryz.prog 5 = some (false, 1) := by kernel_rfl
abbrev shp (l : List (List UInt8)) : Prop := l.length ≤ 1000 ∧ ∀ r ∈ l, r.length ≤ 1000
theorem decNn {c : UInt8} {n : Nat} {u : UInt8} (h : u.toNat = n) : decide (((c.toNat : Nat) : Int) ≠ (n : Int)) = !decide (c = u) := by
  rw [← decN h]; by_cases k : ((c.toNat : Nat) : Int) = n <;> simp [k]
theorem dec35n {c : UInt8} : decide (((c.toNat : Nat) : Int) ≠ 35) = !decide (c = 35) := decNn (n := 35) rfl
theorem dec43n {c : UInt8} : decide (((c.toNat : Nat) : Int) ≠ 43) = !decide (c = 43) := decNn (n := 43) rfl
theorem dec63n {c : UInt8} : decide (((c.toNat : Nat) : Int) ≠ 63) = !decide (c = 63) := decNn (n := 63) rfl
theorem sBad_eq (c : UInt8) : sBad c = (!decide (c = 35) && !decide (c = 43) && !decide (c = 46) && !decide (c = 63)) := by
  unfold sBad; rw [Bool.eq_iff_iff]; simp [and_assoc]
theorem figF_ix {f : FuncId} {cap : List AV} {q : Fg → Bool} (E : List (Fg)) (hE : E.length ≤ 1000000) (en : Ent Tryz.prog f) (hc : ∀ i, (hi : i < E.length) → APure Tryz.prog f (.agg [strs E[i]] :: cap) (B (q E[i]))) (hp : AV.pureL cap = true) : APure Tryz.prog 191 [.sl 1 (E.map fun x => [strs x]), .fn (.func f) [] cap] (I (ixQ q E)) := by
  refine apure_of (rs := [.tmp 4]) Tryz.func191 rfl rfl (Nat.le_of_ble_eq_true rfl) (by simp [AV.pureL, AV.pureB, AV.pureE, pureE_map, hp]) (by first | rfl | (simp [AV.pureL, AV.pureB, AV.pureE, pureE_map])) fun e0 he0 => ?_
  refine aw_seq (aw_region ?_)
  refine asr J rfl (sq_nil (aw_seq (aw_seq (aw_region (mvs rfl J (sq_ev rfl (ev_len_map sl45 J) ?_))))))
  refine mvr J rfl (sq_nil (aw_block ?_))
  refine aw_loopk (ι := { k : Nat // k ≤ E.length ∧ ∀ i, (hi : i < E.length) → i < k → q E[i] = false }) [0, 1, 7] (fun i => [(8, I i.1)]) (fun H i => H) (fun i => E.length - i.1) (⟨0, Nat.zero_le _, by omega⟩) ⟨J, J, J, J, trivial⟩ rfl ?_
  rintro ⟨k, hk, hok⟩
  dsimp only [keepS, St.put, sget, slotsOf, nn1, nn2, nn3, nn4, nn5, nn6, Nat.reduceBEq, Nat.reduceAdd, nn7, nn8]
  refine aw_seq (aw_region (sq_ev rfl (ev_lss J J) ?_))
  refine sq_nil (aw_seq ?_)
  refine aw_cond J (fun c_9 => ?_) (fun c_9 => ?_)
  · skip
    have c_9' := c_9
    try simp only [qq] at c_9'
    have hkL : k < E.length := by omega
    refine aw_skip (aw_seq (aw_block (aw_seq (aw_region (mvr J rfl (asr J rfl (sq_nil (aw_seq (aw_region (sq_ev rfl (ev_mv (v := .fn _ _ _) J) ?_))))))))))
    refine mvs rfl J (mvr J rfl (sq_ev rfl (ev_index_map sl45 J J rfl (by omega)) ?_))
    refine sq_ev rfl (ev_load_agg_i J ty26 (by exact Nat.le_of_ble_eq_true rfl)) ?_
    refine sq_ev rfl (ev_call en J (hc k hkL) ⟨J, LessL.rfl' _⟩) ?_
    refine sq_nil ?_
    refine aw_cond J (fun c_16 => ?_) (fun c_16 => ?_)
    · skip
      have c_16' := c_16
      try simp only [qq] at c_16'
      refine aw_seq (aw_region (mvr J rfl (asr J rfl (sq_nil (aw_ret ?_)))))
      exact retQ_pure (v := .raw _) rfl rfl (Less.eq (by rw [ixQ_at hkL (by simpa using c_16') hok]))
    · skip
      have c_16' := c_16
      try simp only [qq] at c_16'
      refine aw_skip (aw_region (sq_ev rfl (ev_add J J (wr (by omega) (by omega))) ?_))
      refine mvr J rfl (sq_nil ?_)
      exact ⟨⟨k + 1, by omega, fun i hi h => (by by_cases e : i = k; (subst e; simpa using c_16'); exact hok i hi (by omega))⟩, by simp only; omega, Sub.slots ⟨J, J, J, J, trivial⟩⟩
  · skip
    have c_9' := c_9
    try simp only [qq] at c_9'
    refine aw_exit (aw_seq (aw_region (asr J rfl (sq_nil (aw_ret ?_)))))
    exact retQ_pure (v := .raw _) rfl rfl (Less.eq (by rw [ixQ_no fun i hi => hok i hi (by omega)]))
theorem figF_any {f : FuncId} {cap : List AV} {q : Fg → Bool} (E : List (Fg)) (hE : E.length ≤ 1000000) (en : Ent Tryz.prog f) (hc : ∀ i, (hi : i < E.length) → APure Tryz.prog f (.agg [strs E[i]] :: cap) (B (q E[i]))) (hp : AV.pureL cap = true) : APure Tryz.prog 177 [.sl 1 (E.map fun x => [strs x]), .fn (.func f) [] cap] (B (E.any q)) := by
 refine apure_of (rs := [.tmp 4]) Tryz.func177 rfl rfl (Nat.le_of_ble_eq_true rfl) (by simp [AV.pureL, AV.pureB, AV.pureE, pureE_map, hp]) (by first | rfl | (simp [AV.pureL, AV.pureB, AV.pureE, pureE_map])) fun e0 he0 => ?_
 refine aw_seq (aw_region (asr J rfl (sq_nil (aw_seq (aw_region (mvs rfl J (sq_ev rfl (ev_mv (v := .fn _ _ _) J) ?_)))))))
 refine sq_ev rfl (ev_call en191 J (figF_ix E hE en hc hp) ⟨J, J, trivial⟩) ?_
 refine sq_ev rfl (ev_geq J J) ?_
 refine asr J rfl (sq_nil (aw_ret ?_))
 exact retQ_pure (v := .raw _) rfl rfl (Less.eq (by rw [← ixQ_any]))
theorem byteF_ix {f : FuncId} {cap : List AV} {q : UInt8 → Bool} (E : List (UInt8)) (hE : E.length ≤ 1000000) (en : Ent Tryz.prog f) (hc : ∀ i, (hi : i < E.length) → APure Tryz.prog f (C E[i] :: cap) (B (q E[i]))) (hp : AV.pureL cap = true) : APure Tryz.prog 180 [.sl 1 (E.map fun x => [C x]), .fn (.func f) [] cap] (I (ixQ q E)) := by
 refine apure_of (rs := [.tmp 4]) Tryz.func180 rfl rfl (Nat.le_of_ble_eq_true rfl) (by simp [AV.pureL, AV.pureB, AV.pureE, pureE_map, hp]) (by first | rfl | (simp [AV.pureL, AV.pureB, AV.pureE, pureE_map])) fun e0 he0 => ?_
 refine aw_seq (aw_region ?_)
 refine asr J rfl (sq_nil (aw_seq (aw_seq (aw_region (mvs rfl J (sq_ev rfl (ev_len_map sl92 J) ?_))))))
 refine mvr J rfl (sq_nil (aw_block ?_))
 refine aw_loopk (ι := { k : Nat // k ≤ E.length ∧ ∀ i, (hi : i < E.length) → i < k → q E[i] = false }) [0, 1, 7] (fun i => [(8, I i.1)]) (fun H i => H) (fun i => E.length - i.1) (⟨0, Nat.zero_le _, by omega⟩) ⟨J, J, J, J, trivial⟩ rfl ?_
 rintro ⟨k, hk, hok⟩
 dsimp only [keepS, St.put, sget, slotsOf, nn1, nn2, nn3, nn4, nn5, nn6, Nat.reduceBEq, Nat.reduceAdd, nn7, nn8]
 refine aw_seq (aw_region (sq_ev rfl (ev_lss J J) ?_))
 refine sq_nil (aw_seq ?_)
 refine aw_cond J (fun c_9 => ?_) (fun c_9 => ?_)
 ·
  have c_9' := c_9
  try simp only [qq] at c_9'
  have hkL : k < E.length := by omega
  refine aw_skip (aw_seq (aw_block (aw_seq (aw_region (mvr J rfl (asr J rfl (sq_nil (aw_seq (aw_region (sq_ev rfl (ev_mv (v := .fn _ _ _) J) ?_))))))))))
  refine mvs rfl J (mvr J rfl (sq_ev rfl (ev_index_map sl92 J J rfl (by omega)) ?_))
  refine sq_ev rfl (ev_load_i J ty5 rfl) ?_
  refine sq_ev rfl (ev_call en J (hc k hkL) ⟨J, LessL.rfl' _⟩) ?_
  refine sq_nil ?_
  refine aw_cond J (fun c_16 => ?_) (fun c_16 => ?_)
  ·
   have c_16' := c_16
   try simp only [qq] at c_16'
   refine aw_seq (aw_region (mvr J rfl (asr J rfl (sq_nil (aw_ret ?_)))))
   exact retQ_pure (v := .raw _) rfl rfl (Less.eq (by rw [ixQ_at hkL (by simpa using c_16') hok]))
  have c_16' := c_16
  try simp only [qq] at c_16'
  refine aw_skip (aw_region (sq_ev rfl (ev_add J J (wr (by omega) (by omega))) ?_))
  refine mvr J rfl (sq_nil ?_)
  exact ⟨⟨k + 1, by omega, fun i hi h => (by by_cases e : i = k; (subst e; simpa using c_16'); exact hok i hi (by omega))⟩, by simp only; omega, Sub.slots ⟨J, J, J, J, trivial⟩⟩
 have c_9' := c_9
 try simp only [qq] at c_9'
 refine aw_exit (aw_seq (aw_region (asr J rfl (sq_nil (aw_ret ?_)))))
 exact retQ_pure (v := .raw _) rfl rfl (Less.eq (by rw [ixQ_no fun i hi => hok i hi (by omega)]))
theorem byteF_any {f : FuncId} {cap : List AV} {q : UInt8 → Bool} (E : List (UInt8)) (hE : E.length ≤ 1000000) (en : Ent Tryz.prog f) (hc : ∀ i, (hi : i < E.length) → APure Tryz.prog f (C E[i] :: cap) (B (q E[i]))) (hp : AV.pureL cap = true) : APure Tryz.prog 151 [.sl 1 (E.map fun x => [C x]), .fn (.func f) [] cap] (B (E.any q)) := by
 refine apure_of (rs := [.tmp 4]) Tryz.func151 rfl rfl (Nat.le_of_ble_eq_true rfl) (by simp [AV.pureL, AV.pureB, AV.pureE, pureE_map, hp]) (by first | rfl | (simp [AV.pureL, AV.pureB, AV.pureE, pureE_map])) fun e0 he0 => ?_
 refine aw_seq (aw_region (asr J rfl (sq_nil (aw_seq (aw_region (mvs rfl J (sq_ev rfl (ev_mv (v := .fn _ _ _) J) ?_)))))))
 refine sq_ev rfl (ev_call en180 J (byteF_ix E hE en hc hp) ⟨J, J, trivial⟩) ?_
 refine sq_ev rfl (ev_geq J J) ?_
 refine asr J rfl (sq_nil (aw_ret ?_))
 exact retQ_pure (v := .raw _) rfl rfl (Less.eq (by rw [← ixQ_any]))
theorem notfig_pure (f : Fg) : APure Tryz.prog 178 [fgA f] (B (!fgOK f)) := by
 refine apure_of (rs := [.tmp 2]) Tryz.func178 rfl rfl (Nat.le_of_ble_eq_true rfl) (by simp [AV.pureL, AV.pureB, AV.pureE, pureE_map]) (by first | rfl | (simp [AV.pureL, AV.pureB, AV.pureE, pureE_map])) fun e0 he0 => ?_
 refine aw_seq (aw_region (sq_box rfl J rfl (asr J rfl (sq_nil (aw_seq (aw_region (sq_ev rfl (ev_load_agg J rfl ty26 rfl) ?_)))))))
 refine sq_ev rfl (ev_call en138 J (isfigure_pure f) ⟨J, trivial⟩) ?_
 refine sq_ev rfl (ev_not J) ?_
 refine asr J rfl (sq_nil (aw_ret ?_))
 exact retQ_pure (v := .raw _) rfl rfl J
theorem sbad_pure (c : UInt8) : APure Tryz.prog 152 [C c] (B (sBad c)) := by
 refine apure_of (rs := [.tmp 2]) Tryz.func152 rfl rfl (Nat.le_of_ble_eq_true rfl) (by simp [AV.pureL, AV.pureB, AV.pureE, pureE_map]) (by first | rfl | (simp [AV.pureL, AV.pureB, AV.pureE, pureE_map])) fun e0 he0 => ?_
 refine aw_seq (aw_region (asr J rfl (sq_nil (aw_seq (aw_region (mvr J rfl (sq_ev rfl (ev_neq J J) ?_)))))))
 refine mvr J rfl ?_
 refine sq_split 5 J (fun g1_2 => ?_) (fun g1_2 => ?_)
 ·
  have g1_2' := g1_2
  try simp only [qq] at g1_2'
  refine sq_yes rfl rfl (less_b g1_2) rfl (ev_mv (v := .raw _) J) ?_
  refine sq_yes rfl rfl (less_b g1_2) rfl (ev_neq J J) ?_
  refine sq_ev rfl (ev_pickT (v := .raw _) (less_b g1_2) J) ?_
  refine mvr J rfl ?_
  refine sq_split 9 J (fun g1_6 => ?_) (fun g1_6 => ?_)
  ·
   have g1_6' := g1_6
   try simp only [qq] at g1_6'
   refine sq_yes rfl rfl (less_b g1_6) rfl (ev_mv (v := .raw _) J) ?_
   refine sq_yes rfl rfl (less_b g1_6) rfl (ev_neq J J) ?_
   refine sq_ev rfl (ev_pickT (v := .raw _) (less_b g1_6) J) ?_
   refine mvr J rfl ?_
   refine sq_split 13 J (fun g1_10 => ?_) (fun g1_10 => ?_)
   ·
    have g1_10' := g1_10
    try simp only [qq] at g1_10'
    refine sq_yes rfl rfl (less_b g1_10) rfl (ev_mv (v := .raw _) J) ?_
    refine sq_yes rfl rfl (less_b g1_10) rfl (ev_neq J J) ?_
    refine sq_ev rfl (ev_pickT (v := .raw _) (less_b g1_10) J) ?_
    refine asr J rfl (sq_nil (aw_ret ?_))
    exact retQ_pure (v := .raw _) rfl rfl (Less.eq (by have e := sBad_eq c; simp only [dec35n, dec43n, dec46n, dec63n] at *; rw [e]; simp [*]))
   have g1_10' := g1_10
   try simp only [qq] at g1_10'
   refine sq_no rfl rfl (less_b g1_10) rfl rfl ?_
   refine sq_no rfl rfl (less_b g1_10) rfl rfl ?_
   refine sq_ev rfl (ev_pickF (v := .raw _) (less_b g1_10) J) ?_
   refine asr J rfl (sq_nil (aw_ret ?_))
   exact retQ_pure (v := .raw _) rfl rfl (Less.eq (by have e := sBad_eq c; simp only [dec35n, dec43n, dec46n, dec63n] at *; rw [e]; simp [*]))
  have g1_6' := g1_6
  try simp only [qq] at g1_6'
  refine sq_no rfl rfl (less_b g1_6) rfl rfl ?_
  refine sq_no rfl rfl (less_b g1_6) rfl rfl ?_
  refine sq_ev rfl (ev_pickF (v := .raw _) (less_b g1_6) J) ?_
  refine mvr J rfl (sq_no rfl rfl J rfl rfl (sq_no rfl rfl J rfl rfl (pf rfl J J (asr J rfl (sq_nil (aw_ret ?_))))))
  exact retQ_pure (v := .raw _) rfl rfl (Less.eq (by have e := sBad_eq c; simp only [dec35n, dec43n, dec46n, dec63n] at *; rw [e]; simp [*]))
 have g1_2' := g1_2
 try simp only [qq] at g1_2'
 refine sq_no rfl rfl (less_b g1_2) rfl rfl ?_
 refine sq_no rfl rfl (less_b g1_2) rfl rfl ?_
 refine sq_ev rfl (ev_pickF (v := .raw _) (less_b g1_2) J) ?_
 refine mvr J rfl (sq_no rfl rfl J rfl rfl (sq_no rfl rfl J rfl rfl (pf rfl J J ?_)))
 refine mvr J rfl (sq_no rfl rfl J rfl rfl (sq_no rfl rfl J rfl rfl (pf rfl J J (asr J rfl (sq_nil (aw_ret ?_))))))
 exact retQ_pure (v := .raw _) rfl rfl (Less.eq (by have e := sBad_eq c; simp only [dec35n, dec43n, dec46n, dec63n] at *; rw [e]; simp [*]))
theorem iscompany_pure (l : List Fg) (hl : l.length ≤ 1000000) : APure Tryz.prog 149 [figs l] (B (coOK l)) := by
 refine apure_of (rs := [.tmp 2]) Tryz.func149 rfl rfl (Nat.le_of_ble_eq_true rfl) (by simp [AV.pureL, AV.pureB, AV.pureE, pureE_map]) (by first | rfl | (simp [AV.pureL, AV.pureB, AV.pureE, pureE_map])) fun e0 he0 => ?_
 refine aw_seq (aw_region (asr J rfl (sq_nil (aw_seq (aw_region (mvs rfl J (sq_ev rfl (ev_len_map sl45 J) ?_)))))))
 refine sq_ev rfl (ev_call en117 J (in_pure _ _ _) ⟨J, J, J, trivial⟩) ?_
 refine mvr J rfl ?_
 refine sq_split 6 J (fun g1_3 => ?_) (fun g1_3 => ?_)
 ·
  have g1_3' := g1_3
  try simp only [qq] at g1_3'
  refine sq_yes rfl rfl (less_b g1_3) rfl (ev_mv (v := .sl _ _) J) ?_
  refine sq_yes rfl rfl (less_b g1_3) rfl (ev_call en177 J (figF_any (q := fun f => !fgOK f) l hl en178 (fun i hi => notfig_pure _) rfl) ⟨J, J, trivial⟩) ?_
  refine sq_yes rfl rfl (less_b g1_3) rfl (ev_not J) ?_
  refine sq_ev rfl (ev_pickT (v := .raw _) (less_b g1_3) J) ?_
  refine asr J rfl (sq_nil (aw_ret ?_))
  exact retQ_pure (v := .raw _) rfl rfl (Less.eq (by rw [coOK_eq]; simp [*]))
 have g1_3' := g1_3
 try simp only [qq] at g1_3'
 refine sq_no rfl rfl (less_b g1_3) rfl rfl ?_
 refine sq_no rfl rfl (less_b g1_3) rfl rfl ?_
 refine sq_no rfl rfl (less_b g1_3) rfl rfl ?_
 refine sq_ev rfl (ev_pickF (v := .raw _) (less_b g1_3) J) ?_
 refine asr J rfl (sq_nil (aw_ret ?_))
 exact retQ_pure (v := .raw _) rfl rfl (Less.eq (by rw [coOK_eq]; simp [*]))
theorem isspan_pure (lo hi : Int) (h1 : -1000 ≤ lo ∧ lo ≤ 1000) (h2 : -1000 ≤ hi ∧ hi ≤ 1000) : APure Tryz.prog 179 [.agg [I lo, I hi]] (B (spOK lo hi)) := by
 refine apure_of (rs := [.tmp 2]) Tryz.func179 rfl rfl (Nat.le_of_ble_eq_true rfl) (by simp [AV.pureL, AV.pureB, AV.pureE, pureE_map]) (by first | rfl | (simp [AV.pureL, AV.pureB, AV.pureE, pureE_map])) fun e0 he0 => ?_
 refine aw_seq (aw_region (sq_box rfl J rfl (asr J rfl (sq_nil (aw_seq (aw_region (sq_ev rfl (ev_fieldAddr fo47_1 J) ?_)))))))
 refine sq_ev rfl (ev_load J rfl ty3 rfl) ?_
 refine sq_ev rfl (ev_fieldAddr fo47_0 J) ?_
 refine sq_ev rfl (ev_load J rfl ty3 rfl) ?_
 refine sq_ev rfl (ev_sub J J (wr (by omega) (by omega))) ?_
 refine sq_ev rfl (ev_call en117 J (in_pure _ _ _) ⟨J, J, J, trivial⟩) ?_
 refine asr J rfl (sq_nil (aw_ret ?_))
 exact retQ_pure (v := .raw _) rfl rfl J
theorem isreach_pure (s : Sg) (r : Rc) (h : 2 ≤ s.far ∧ s.far ≤ 40) : APure Tryz.prog 150 [stA s, rcA r] (B (rcOK s r)) := by
 refine apure_of (rs := [.tmp 4]) Tryz.func150 rfl rfl (Nat.le_of_ble_eq_true rfl) (by simp [AV.pureL, AV.pureB, AV.pureE, pureE_map]) (by first | rfl | (simp [AV.pureL, AV.pureB, AV.pureE, pureE_map])) fun e0 he0 => ?_
 refine aw_seq (aw_region ?_)
 refine sq_box rfl J rfl (sq_box rfl J rfl (asr J rfl (sq_nil (aw_seq (aw_region (sq_ev rfl (ev_load_agg J rfl ty23 rfl) ?_))))))
 refine sq_ev rfl (ev_fieldAddr fo49_0 J) ?_
 refine sq_ev rfl (ev_fieldAddr fo47_0 J) ?_
 refine sq_ev rfl (ev_load J rfl ty3 rfl) ?_
 refine sq_ev rfl (ev_fieldAddr fo49_1 J) ?_
 refine sq_ev rfl (ev_fieldAddr fo47_0 J) ?_
 refine sq_ev rfl (ev_load J rfl ty3 rfl) ?_
 refine sq_ev rfl (ev_fieldAddr fo49_2 J) ?_
 refine sq_ev rfl (ev_load J rfl ty3 rfl) ?_
 refine sq_ev rfl (ev_build bi28 rfl) ?_
 refine sq_ev rfl (ev_call en146 J (isplace_pure s ⟨r.nl, r.xl, r.y⟩ h) ⟨J, J, trivial⟩) ?_
 refine mvr J rfl ?_
 refine sq_split 16 J (fun g1_11 => ?_) (fun g1_11 => ?_)
 ·
  have g1_11' := g1_11
  try simp only [qq] at g1_11'
  have k1 := pcOK_iff.1 g1_11
  simp only at k1
  refine sq_yes rfl rfl (less_b g1_11) rfl (ev_load_agg J rfl ty23 rfl) ?_
  refine sq_yes rfl rfl (less_b g1_11) rfl (ev_fieldAddr fo49_0 J) ?_
  refine sq_yes rfl rfl (less_b g1_11) rfl (ev_fieldAddr fo47_1 J) ?_
  refine sq_yes rfl rfl (less_b g1_11) rfl (ev_load J rfl ty3 rfl) ?_
  refine sq_yes rfl rfl (less_b g1_11) rfl (ev_fieldAddr fo49_1 J) ?_
  refine sq_yes rfl rfl (less_b g1_11) rfl (ev_fieldAddr fo47_1 J) ?_
  refine sq_yes rfl rfl (less_b g1_11) rfl (ev_load J rfl ty3 rfl) ?_
  refine sq_yes rfl rfl (less_b g1_11) rfl (ev_fieldAddr fo49_2 J) ?_
  refine sq_yes rfl rfl (less_b g1_11) rfl (ev_load J rfl ty3 rfl) ?_
  refine sq_yes rfl rfl (less_b g1_11) rfl (ev_build bi28 rfl) ?_
  refine sq_yes rfl rfl (less_b g1_11) rfl (ev_call en146 J (isplace_pure s ⟨r.nh, r.xh, r.y⟩ h) ⟨J, J, trivial⟩) ?_
  refine sq_ev rfl (ev_pickT (v := .raw _) (less_b g1_11) J) ?_
  refine mvr J rfl ?_
  refine sq_split 29 J (fun g1_24 => ?_) (fun g1_24 => ?_)
  ·
   have g1_24' := g1_24
   try simp only [qq] at g1_24'
   have k2 := pcOK_iff.1 g1_24
   simp only at k2
   refine sq_yes rfl rfl (less_b g1_24) rfl (ev_fieldAddr fo49_0 J) ?_
   refine sq_yes rfl rfl (less_b g1_24) rfl (ev_load_agg J rfl ty47 rfl) ?_
   refine sq_yes rfl rfl (less_b g1_24) rfl (ev_call en179 J (isspan_pure r.nl r.nh (by omega) (by omega)) ⟨J, trivial⟩) ?_
   refine sq_ev rfl (ev_pickT (v := .raw _) (less_b g1_24) J) ?_
   refine mvr J rfl ?_
   refine sq_split 34 J (fun g1_29 => ?_) (fun g1_29 => ?_)
   ·
    have g1_29' := g1_29
    try simp only [qq] at g1_29'
    refine sq_yes rfl rfl (less_b g1_29) rfl (ev_fieldAddr fo49_1 J) ?_
    refine sq_yes rfl rfl (less_b g1_29) rfl (ev_load_agg J rfl ty47 rfl) ?_
    refine sq_yes rfl rfl (less_b g1_29) rfl (ev_call en179 J (isspan_pure r.xl r.xh (by omega) (by omega)) ⟨J, trivial⟩) ?_
    refine sq_ev rfl (ev_pickT (v := .raw _) (less_b g1_29) J) ?_
    refine asr J rfl (sq_nil (aw_ret ?_))
    exact retQ_pure (v := .raw _) rfl rfl (Less.eq (by unfold rcOK; simp [*]))
   have g1_29' := g1_29
   try simp only [qq] at g1_29'
   refine sq_no rfl rfl (less_b g1_29) rfl rfl ?_
   refine sq_no rfl rfl (less_b g1_29) rfl rfl ?_
   refine sq_no rfl rfl (less_b g1_29) rfl rfl ?_
   refine sq_ev rfl (ev_pickF (v := .raw _) (less_b g1_29) J) ?_
   refine asr J rfl (sq_nil (aw_ret ?_))
   exact retQ_pure (v := .raw _) rfl rfl (Less.eq (by unfold rcOK; simp [*]))
  have g1_24' := g1_24
  try simp only [qq] at g1_24'
  refine sq_no rfl rfl (less_b g1_24) rfl rfl ?_
  refine sq_no rfl rfl (less_b g1_24) rfl rfl ?_
  refine sq_no rfl rfl (less_b g1_24) rfl rfl ?_
  refine sq_ev rfl (ev_pickF (v := .raw _) (less_b g1_24) J) ?_
  refine mvr J rfl ?_
  refine sq_no rfl rfl J rfl rfl (sq_no rfl rfl J rfl rfl (sq_no rfl rfl J rfl rfl (pf rfl J J (asr J rfl (sq_nil (aw_ret ?_))))))
  exact retQ_pure (v := .raw _) rfl rfl (Less.eq (by unfold rcOK; simp [*]))
 have g1_11' := g1_11
 try simp only [qq] at g1_11'
 refine sq_no rfl rfl (less_b g1_11) rfl rfl ?_
 refine sq_no rfl rfl (less_b g1_11) rfl rfl ?_
 refine sq_no rfl rfl (less_b g1_11) rfl rfl ?_
 refine sq_no rfl rfl (less_b g1_11) rfl rfl ?_
 refine sq_no rfl rfl (less_b g1_11) rfl rfl ?_
 refine sq_no rfl rfl (less_b g1_11) rfl rfl ?_
 refine sq_no rfl rfl (less_b g1_11) rfl rfl ?_
 refine sq_no rfl rfl (less_b g1_11) rfl rfl ?_
 refine sq_no rfl rfl (less_b g1_11) rfl rfl ?_
 refine sq_no rfl rfl (less_b g1_11) rfl rfl ?_
 refine sq_no rfl rfl (less_b g1_11) rfl rfl ?_
 refine sq_ev rfl (ev_pickF (v := .raw _) (less_b g1_11) J) ?_
 refine mvr J rfl (sq_no rfl rfl J rfl rfl (sq_no rfl rfl J rfl rfl (sq_no rfl rfl J rfl rfl (pf rfl J J (mvr J rfl ?_)))))
 refine sq_no rfl rfl J rfl rfl (sq_no rfl rfl J rfl rfl (sq_no rfl rfl J rfl rfl (pf rfl J J (asr J rfl (sq_nil (aw_ret ?_))))))
 exact retQ_pure (v := .raw _) rfl rfl (Less.eq (by unfold rcOK; simp [*]))
theorem isscene_pure (x : Sn) (hl : x.l.length ≤ 1000000) : APure Tryz.prog 101 [snA x] (B (snOK x)) := by
 refine apure_of (rs := [.tmp 2]) Tryz.func101 rfl rfl (Nat.le_of_ble_eq_true rfl) (by simp [AV.pureL, AV.pureB, AV.pureE, pureE_map]) (by first | rfl | (simp [AV.pureL, AV.pureB, AV.pureE, pureE_map])) fun e0 he0 => ?_
 refine aw_seq (aw_region (sq_box rfl J rfl (asr J rfl (sq_nil (aw_seq (aw_region (sq_ev rfl (ev_fieldAddr fo145_0 J) ?_)))))))
 refine sq_ev rfl (ev_load_agg J rfl ty23 rfl) ?_
 refine sq_ev rfl (ev_call en137 J (isstage_pure x.s) ⟨J, trivial⟩) ?_
 refine mvr J rfl ?_
 refine sq_split 6 J (fun g1_3 => ?_) (fun g1_3 => ?_)
 ·
  have g1_3' := g1_3
  try simp only [qq] at g1_3'
  refine sq_yes rfl rfl (less_b g1_3) rfl (ev_fieldAddr fo145_1 J) ?_
  refine sq_yes rfl rfl (less_b g1_3) rfl (ev_load J rfl ty45 rfl) ?_
  refine sq_yes rfl rfl (less_b g1_3) rfl (ev_call en149 J (iscompany_pure x.l hl) ⟨J, trivial⟩) ?_
  refine sq_ev rfl (ev_pickT (v := .raw _) (less_b g1_3) J) ?_
  refine mvr J rfl ?_
  refine sq_split 11 J (fun g1_8 => ?_) (fun g1_8 => ?_)
  ·
   have g1_8' := g1_8
   try simp only [qq] at g1_8'
   refine sq_yes rfl rfl (less_b g1_8) rfl (ev_fieldAddr fo145_0 J) ?_
   refine sq_yes rfl rfl (less_b g1_8) rfl (ev_load_agg J rfl ty23 rfl) ?_
   refine sq_yes rfl rfl (less_b g1_8) rfl (ev_fieldAddr fo145_2 J) ?_
   refine sq_yes rfl rfl (less_b g1_8) rfl (ev_load_agg J rfl ty49 rfl) ?_
   refine sq_yes rfl rfl (less_b g1_8) rfl (ev_call en150 J (isreach_pure x.s x.r (by have := stOK_iff.1 g1_3; omega)) ⟨J, J, trivial⟩) ?_
   refine sq_ev rfl (ev_pickT (v := .raw _) (less_b g1_8) J) ?_
   refine asr J rfl (sq_nil (aw_ret ?_))
   exact retQ_pure (v := .raw _) rfl rfl (Less.eq (by unfold snOK; simp [*]))
  have g1_8' := g1_8
  try simp only [qq] at g1_8'
  refine sq_no rfl rfl (less_b g1_8) rfl rfl ?_
  refine sq_no rfl rfl (less_b g1_8) rfl rfl ?_
  refine sq_no rfl rfl (less_b g1_8) rfl rfl ?_
  refine sq_no rfl rfl (less_b g1_8) rfl rfl ?_
  refine sq_no rfl rfl (less_b g1_8) rfl rfl ?_
  refine sq_ev rfl (ev_pickF (v := .raw _) (less_b g1_8) J) ?_
  refine asr J rfl (sq_nil (aw_ret ?_))
  exact retQ_pure (v := .raw _) rfl rfl (Less.eq (by unfold snOK; simp [*]))
 have g1_3' := g1_3
 try simp only [qq] at g1_3'
 refine sq_no rfl rfl (less_b g1_3) rfl rfl ?_
 refine sq_no rfl rfl (less_b g1_3) rfl rfl ?_
 refine sq_no rfl rfl (less_b g1_3) rfl rfl ?_
 refine sq_ev rfl (ev_pickF (v := .raw _) (less_b g1_3) J) ?_
 refine mvr J rfl (sq_no rfl rfl J rfl rfl (sq_no rfl rfl J rfl rfl ?_))
 refine sq_no rfl rfl J rfl rfl (sq_no rfl rfl J rfl rfl (sq_no rfl rfl J rfl rfl (pf rfl J J (asr J rfl (sq_nil (aw_ret ?_))))))
 exact retQ_pure (v := .raw _) rfl rfl (Less.eq (by unfold snOK; simp [*]))
theorem issight_pure (s : Sg) (l : List (List UInt8)) (hs : shp l) : APure Tryz.prog 102 [stA s, strs l] (B (siOK s l)) := by
 refine apure_of (rs := [.tmp 4]) Tryz.func102 rfl rfl (Nat.le_of_ble_eq_true rfl) (by simp [AV.pureL, AV.pureB, AV.pureE, pureE_map]) (by first | rfl | (simp [AV.pureL, AV.pureB, AV.pureE, pureE_map])) fun e0 he0 => ?_
 refine aw_seq (aw_region (sq_box rfl J rfl ?_))
 refine asr J rfl (sq_nil (aw_seq (aw_seq (aw_region (mvs rfl J (sq_ev rfl (ev_len_map sl24 J) ?_))))))
 refine sq_ev rfl (ev_fieldAddr fo23_1 J) ?_
 refine sq_ev rfl (ev_load J rfl ty3 rfl) ?_
 refine sq_ev rfl (ev_neq J J) ?_
 refine sq_nil ?_
 refine aw_cond J (fun c_11 => ?_) (fun c_11 => ?_)
 ·
  have c_11' := c_11
  try simp only [qq] at c_11'
  refine aw_seq (aw_region (asr J rfl (sq_nil (aw_ret ?_))))
  exact retQ_pure (v := .raw _) rfl rfl (Less.eq (by unfold siOK; rw [decide_eq_false c_11']; rfl))
 have c_11' := c_11
 try simp only [qq] at c_11'
 refine aw_skip (aw_seq (aw_seq (aw_region (mvs rfl J (sq_ev rfl (ev_len_map sl24 J) ?_)))))
 refine mvr J rfl (sq_nil (aw_block ?_))
 refine aw_loopk (ι := { k : Nat // k ≤ l.length ∧ ∀ i, (h : i < l.length) → i < k → siRow s.wide l[i] = true }) [2, 12, 13] (fun i => [(14, I i.1)]) (fun H i => H) (fun i => l.length - i.1) (⟨0, Nat.zero_le _, by omega⟩) ⟨J, J, J, J, trivial⟩ rfl ?_
 rintro ⟨k, hk, hok⟩
 dsimp only [keepS, St.put, sget, slotsOf, nn1, nn2, nn3, nn4, nn5, nn6, Nat.reduceBEq, Nat.reduceAdd, nn7, nn8]
 have hs1 := hs.1
 refine aw_seq (aw_region (sq_ev rfl (ev_lss J J) ?_))
 refine sq_nil (aw_seq ?_)
 refine aw_cond J (fun c_15 => ?_) (fun c_15 => ?_)
 ·
  have c_15' := c_15
  try simp only [qq] at c_15'
  have hkl : k < l.length := by omega
  have hrl := hs.2 _ (List.getElem_mem hkl)
  refine aw_skip (aw_seq (aw_block (aw_seq (aw_region (sq_ev rfl (ev_index_map sl24 J J rfl (by omega)) ?_)))))
  refine sq_ev rfl (ev_load_i J ty9 rfl) ?_
  refine asr J rfl (sq_nil (aw_seq (aw_region (mvr J rfl (sq_ev rfl (ev_lenS Tryz.underlying9 J) ?_)))))
  refine sq_ev rfl (ev_fieldAddr fo23_0 J) ?_
  refine sq_ev rfl (ev_load J rfl ty3 rfl) ?_
  refine sq_ev rfl (ev_neq J J) ?_
  refine mvr J rfl ?_
  refine sq_split 23 J (fun g6_5 => ?_) (fun g6_5 => ?_)
  ·
   have g6_5' := g6_5
   try simp only [qq] at g6_5'
   refine sq_no rfl rfl (less_b g6_5) rfl rfl ?_
   refine sq_no rfl rfl (less_b g6_5) rfl rfl ?_
   refine sq_no rfl rfl (less_b g6_5) rfl rfl ?_
   refine sq_ev rfl (ev_pickT (v := .raw _) (less_b g6_5) J) ?_
   refine sq_nil ?_
   refine aw_true J ?_
   refine aw_seq (aw_region (asr J rfl (sq_nil (aw_ret ?_))))
   exact retQ_pure (v := .raw _) rfl rfl (Less.eq (by rw [siOK_bad hkl (by rw [siRow_eq, decide_eq_false g6_5']; rfl)]))
  have g6_5' := g6_5
  try simp only [qq] at g6_5'
  refine sq_yes rfl rfl (less_b g6_5) rfl (ev_mv (v := .raw _) J) ?_
  refine sq_yes rfl rfl (less_b g6_5) rfl (ev_bytes_row Tryz.underlying9 Tryz.underlying92 Tryz.underlying5 J) ?_
  refine sq_yes rfl rfl (less_b g6_5) rfl (ev_call en151 J (byteF_any (q := sBad) l[k] (by omega) en152 (fun i hi => sbad_pure _) rfl) ⟨J, J, trivial⟩) ?_
  refine sq_ev rfl (ev_pickF (v := .raw _) (less_b g6_5) J) ?_
  refine sq_nil ?_
  refine aw_cond J (fun c_27 => ?_) (fun c_27 => ?_)
  ·
   have c_27' := c_27
   try simp only [qq] at c_27'
   refine aw_seq (aw_region (asr J rfl (sq_nil (aw_ret ?_))))
   exact retQ_pure (v := .raw _) rfl rfl (Less.eq (by rw [siOK_bad hkl (by rw [siRow_eq, c_27]; simp)]))
  have c_27' := c_27
  try simp only [qq] at c_27'
  refine aw_skip (aw_region (sq_ev rfl (ev_add J J (wr (by omega) (by omega))) ?_))
  refine mvr J rfl (sq_nil ?_)
  have hgood : siRow s.wide l[k] = true := by rw [siRow_eq, c_27]; simp [g6_5']
  exact ⟨⟨k + 1, by omega, fun i h hi => (by by_cases e : i = k; (subst e; exact hgood); exact hok i h (by omega))⟩, by simp only; omega, Sub.slots ⟨J, J, J, J, trivial⟩⟩
 have c_15' := c_15
 try simp only [qq] at c_15'
 refine aw_exit (aw_seq (aw_region (asr J rfl (sq_nil (aw_ret ?_)))))
 exact retQ_pure (v := .raw _) rfl rfl (Less.eq (by rw [siOK_end c_11' (fun i hi => hok i hi (by omega))]))
theorem differ_pure (a b : UInt8) : APure Tryz.prog 107 [C a, C b] (B (opp a b)) := by
 refine apure_of (rs := [.tmp 4]) Tryz.func107 rfl rfl (Nat.le_of_ble_eq_true rfl) (by simp [AV.pureL, AV.pureB, AV.pureE, pureE_map]) (by first | rfl | (simp [AV.pureL, AV.pureB, AV.pureE, pureE_map])) fun e0 he0 => ?_
 refine aw_seq (aw_region (asr J rfl (sq_nil (aw_seq (aw_region (mvr J rfl (sq_ev rfl (ev_eql J J) ?_)))))))
 refine mvr J rfl ?_
 refine sq_split 7 J (fun g1_2 => ?_) (fun g1_2 => ?_)
 ·
  have g1_2' := g1_2
  try simp only [qq] at g1_2'
  refine sq_yes rfl rfl (less_b g1_2) rfl (ev_mv (v := .raw _) J) ?_
  refine sq_yes rfl rfl (less_b g1_2) rfl (ev_eql J J) ?_
  refine sq_ev rfl (ev_pickT (v := .raw _) (less_b g1_2) J) ?_
  refine mvr J rfl ?_
  refine sq_split 11 J (fun g1_6 => ?_) (fun g1_6 => ?_)
  ·
   have g1_6' := g1_6
   try simp only [qq] at g1_6'
   refine sq_no rfl rfl (less_b g1_6) rfl rfl ?_
   refine sq_no rfl rfl (less_b g1_6) rfl rfl ?_
   refine sq_no rfl rfl (less_b g1_6) rfl rfl ?_
   refine sq_no rfl rfl J rfl rfl (sq_no rfl rfl J rfl rfl (sq_no rfl rfl (less_b g1_6) rfl rfl ?_))
   refine sq_ev rfl (ev_pickT (v := .raw _) (less_b g1_6) J) ?_
   refine asr J rfl (sq_nil (aw_ret ?_))
   exact retQ_pure (v := .raw _) rfl rfl (Less.eq (by unfold opp; simp only [dec35, dec46] at *; simp [*]))
  have g1_6' := g1_6
  try simp only [qq] at g1_6'
  refine sq_yes rfl rfl (less_b g1_6) rfl (ev_mv (v := .raw _) J) ?_
  refine sq_yes rfl rfl (less_b g1_6) rfl (ev_eql J J) ?_
  refine sq_yes rfl rfl (less_b g1_6) rfl (ev_mv (v := .raw _) J) ?_
  refine sq_split 14 J (fun g1_9 => ?_) (fun g1_9 => ?_)
  ·
   have g1_9' := g1_9
   try simp only [qq] at g1_9'
   refine sq_yes rfl rfl (less_b g1_9) rfl (ev_mv (v := .raw _) J) ?_
   refine sq_yes rfl rfl (less_b g1_9) rfl (ev_eql J J) ?_
   refine sq_yes rfl rfl (less_b g1_6) rfl (ev_pickT (v := .raw _) (less_b g1_9) J) ?_
   refine sq_ev rfl (ev_pickF (v := .raw _) (less_b g1_6) J) ?_
   refine asr J rfl (sq_nil (aw_ret ?_))
   exact retQ_pure (v := .raw _) rfl rfl (Less.eq (by unfold opp; simp only [dec35, dec46] at *; simp [*]))
  have g1_9' := g1_9
  try simp only [qq] at g1_9'
  refine sq_no rfl rfl (less_b g1_9) rfl rfl ?_
  refine sq_no rfl rfl (less_b g1_9) rfl rfl ?_
  refine sq_yes rfl rfl (less_b g1_6) rfl (ev_pickF (v := .raw _) (less_b g1_9) J) ?_
  refine sq_ev rfl (ev_pickF (v := .raw _) (less_b g1_6) J) ?_
  refine asr J rfl (sq_nil (aw_ret ?_))
  exact retQ_pure (v := .raw _) rfl rfl (Less.eq (by unfold opp; simp only [dec35, dec46] at *; simp [*]))
 have g1_2' := g1_2
 try simp only [qq] at g1_2'
 refine sq_no rfl rfl (less_b g1_2) rfl rfl ?_
 refine sq_no rfl rfl (less_b g1_2) rfl rfl ?_
 refine sq_ev rfl (ev_pickF (v := .raw _) (less_b g1_2) J) ?_
 refine mvr J rfl (ymr rfl rfl J rfl J (sq_yes rfl rfl J rfl (ev_eql J J) ?_))
 refine ymr rfl rfl J rfl J ?_
 refine sq_split 14 J (fun g1_9 => ?_) (fun g1_9 => ?_)
 ·
  have g1_9' := g1_9
  try simp only [qq] at g1_9'
  refine sq_yes rfl rfl (less_b g1_9) rfl (ev_mv (v := .raw _) J) ?_
  refine sq_yes rfl rfl (less_b g1_9) rfl (ev_eql J J) ?_
  refine sq_yes rfl rfl J rfl (ev_pickT (v := .raw _) (less_b g1_9) J) ?_
  refine pf rfl J J (asr J rfl (sq_nil (aw_ret ?_)))
  exact retQ_pure (v := .raw _) rfl rfl (Less.eq (by unfold opp; simp only [dec35, dec46] at *; simp [*]))
 have g1_9' := g1_9
 try simp only [qq] at g1_9'
 refine sq_no rfl rfl (less_b g1_9) rfl rfl ?_
 refine sq_no rfl rfl (less_b g1_9) rfl rfl ?_
 refine sq_yes rfl rfl J rfl (ev_pickF (v := .raw _) (less_b g1_9) J) ?_
 refine pf rfl J J (asr J rfl (sq_nil (aw_ret ?_)))
 exact retQ_pure (v := .raw _) rfl rfl (Less.eq (by unfold opp; simp only [dec35, dec46] at *; simp [*]))
theorem agree_pure {a b : List (List UInt8)} (hf : Fit a b) : APure Tryz.prog 141 [strs a, strs b] (B (agree a b)) := by
 refine apure_of (rs := [.tmp 4]) Tryz.func141 rfl rfl (Nat.le_of_ble_eq_true rfl) (by simp [AV.pureL, AV.pureB, AV.pureE, pureE_map]) (by first | rfl | (simp [AV.pureL, AV.pureB, AV.pureE, pureE_map])) fun e0 he0 => ?_
 refine aw_seq (aw_region ?_)
 refine asr J rfl (sq_nil (aw_seq (aw_seq (aw_region (mvs rfl J (sq_ev rfl (ev_len_map sl24 J) ?_))))))
 refine mvr J rfl (sq_nil (aw_block ?_))
 refine aw_loopk (ι := { m : Nat // m ≤ a.length ∧ ∀ i, i < m → agRow a b i }) [1, 8, 9] (fun i => [(10, I i.1)]) (fun H i => H) (fun i => a.length - i.1) (⟨0, Nat.zero_le _, by omega⟩) ⟨J, J, J, J, trivial⟩ rfl ?_
 rintro ⟨m, hm, hok⟩
 dsimp only [keepS, St.put, sget, slotsOf, nn1, nn2, nn3, nn4, nn5, nn6, Nat.reduceBEq, Nat.reduceAdd, nn7, nn8]
 have h1 := hf.len
 have h2 := hf.many
 refine aw_seq (aw_region (sq_ev rfl (ev_lss J J) ?_))
 refine sq_nil (aw_seq ?_)
 refine aw_cond J (fun c_11 => ?_) (fun c_11 => ?_)
 ·
  have c_11' := c_11
  try simp only [qq] at c_11'
  have hma : m < a.length := by omega
  have h3 := hf.row m hma (by omega)
  have h4 := hf.wide m (by omega)
  refine aw_skip (aw_seq (aw_block (aw_seq (aw_region (mvr J rfl (sq_ev rfl (ev_index_map sl24 J J rfl (by omega)) ?_))))))
  refine sq_ev rfl (ev_load_i J ty9 rfl) ?_
  refine asr J rfl (asr J rfl (sq_nil (aw_seq (aw_region (mvr J rfl (sq_ev rfl (ev_lenS Tryz.underlying9 J) ?_))))))
  refine mvr J rfl (sq_nil (aw_block ?_))
  refine aw_loopk (ι := { k : Nat // k ≤ a[m].length ∧ ∀ i, i < k → (p3 : i < a[m].length) → (p4 : i < b[m].length) → opp a[m][i] b[m][i] = false }) [1, 5, 6, 8, 9, 10, 16] (fun i => [(17, I i.1)]) (fun H i => H) (fun i => a[m].length - i.1) (⟨0, Nat.zero_le _, by omega⟩) ⟨J, J, J, J, J, J, J, J, trivial⟩ rfl ?_
  rintro ⟨k, hk, hin⟩
  dsimp only [keepS, St.put, sget, slotsOf, nn1, nn2, nn3, nn4, nn5, nn6, Nat.reduceBEq, Nat.reduceAdd, nn7, nn8]
  refine aw_seq (aw_region (sq_ev rfl (ev_lss J J) ?_))
  refine sq_nil (aw_seq ?_)
  refine aw_cond J (fun c_18 => ?_) (fun c_18 => ?_)
  ·
   have c_18' := c_18
   try simp only [qq] at c_18'
   refine aw_skip (aw_seq (aw_block (aw_seq (aw_region (mvr J rfl (asr J rfl (sq_nil (aw_seq ?_))))))))
   refine aw_draw 10 mo (by kernel_rfl) ?_
   refine dr_ev rfl (ev_mv (v := .raw _) J) ?_
   refine dr_ev rfl (ev_mv (v := .raw _) J) ?_
   refine dr_ev rfl (ev_idxS Tryz.underlying9 J J rfl (by omega)) ?_
   refine dr_ev rfl (ev_mv (v := .sl _ _) J) ?_
   refine dr_ev rfl (ev_mv (v := .raw _) J) ?_
   refine dr_ev rfl (ev_index_map sl24 J J rfl (by omega)) ?_
   refine dr_ev rfl (ev_load_i J ty9 rfl) ?_
   refine dr_ev rfl (ev_mv (v := .raw _) J) ?_
   refine dr_ev rfl (ev_idxS Tryz.underlying9 J J rfl (by omega)) ?_
   refine dr_ev rfl (ev_call en107 J (differ_pure _ _) ⟨J, J, trivial⟩) ?_
   refine dr_end (sq_nil ?_)
   refine aw_cond J (fun c_29 => ?_) (fun c_29 => ?_)
   ·
    have c_29' := c_29
    try simp only [qq] at c_29'
    refine aw_seq (aw_region (asr J rfl (sq_nil (aw_ret ?_))))
    exact retQ_pure (v := .raw _) rfl rfl (Less.eq (by rw [agree_no (m := m) (k := k) hma (by omega) (by omega) (by omega) (by simpa using c_29)]))
   have c_29' := c_29
   try simp only [qq] at c_29'
   refine aw_skip (aw_region (sq_ev rfl (ev_add J J (wr (by omega) (by omega))) ?_))
   refine mvr J rfl (sq_nil ?_)
   exact ⟨⟨k + 1, by omega, fun i hi p3 p4 => (by by_cases e : i = k; (subst e; simpa using c_29); exact hin i (by omega) p3 p4)⟩, by simp only; omega, Sub.slots ⟨J, J, J, J, J, J, J, J, trivial⟩⟩
  have c_18' := c_18
  try simp only [qq] at c_18'
  refine aw_exit (aw_region (sq_ev rfl (ev_add J J (wr (by omega) (by omega))) ?_))
  refine mvr J rfl (sq_nil ?_)
  have hrow : agRow a b m := fun i p1 p2 p3 p4 => hin i (by omega) p3 p4
  exact ⟨⟨m + 1, by omega, fun i hi => (by by_cases e : i = m; (subst e; exact hrow); exact hok i (by omega))⟩, by simp only; omega, Sub.slots ⟨J, J, J, J, trivial⟩⟩
 have c_11' := c_11
 try simp only [qq] at c_11'
 refine aw_exit (aw_seq (aw_region (asr J rfl (sq_nil (aw_ret ?_)))))
 exact retQ_pure (v := .raw _) rfl rfl (Less.eq (by rw [agree_yes fun i => (by by_cases e : i < a.length; exact hok i (by omega); exact fun k p1 => absurd p1 e)]))
end Go.Proofs.YtmbknoaneglilaaGreatDoor
namespace Go.Proofs.YtmbknoaneglilaaGreatDoor
open Go Go.Ab Ni Ol
theorem bi152 : bldInfo Tryz.prog 152 = some ([.raw (.int .i64 0), .raw (.int .i64 0), .raw (.int .i64 0), .raw (.int .i64 0), .raw (.slice none 0 0)], true, [(0, 4), (4, 1)], 0) := by kernel_rfl
theorem bi73 : bldInfo Tryz.prog 73 = some ([.raw (.int .i64 0), .raw (.int .i64 0), .raw (.int .i64 0), .raw (.int .i64 0)], true, [(0, 1), (1, 3)], 0) := by kernel_rfl
theorem en140 : Ent Tryz.prog 140 := Ent.of Tryz.func140 (by kernel_rfl) rfl
theorem en169 : Ent Tryz.prog 169 := Ent.of Tryz.func169 (by kernel_rfl) rfl
theorem z26 : zeroOf Tryz.prog 26 = some [.raw (.slice none 0 0)] := by kernel_rfl
theorem z28 : zeroOf Tryz.prog 28 = some [.raw (.int .i64 0), .raw (.int .i64 0), .raw (.int .i64 0)] := by kernel_rfl
abbrev thA (t : Th) : AV := .agg (thC t)
structure ItO (e : Env) (l m : Nat) (st : Bool) (T : Nat → List AObj) (xs : List AV) : Prop where
  hT : ∀ i, (T i).length = (T 0).length
  hm : m ≤ xs.length
  all : st = false → m = xs.length
  pos : st = true → 0 < m
  hy : ∀ i x, i < m → xs[i]? = some x → ∀ X, AYieldAt e Tryz.prog l x (T i ++ X) (goes m st i) (T (i + 1) ++ X)
theorem ItO.lt {e : Env} {l m : Nat} {st : Bool} {T : Nat → List AObj} {xs : List AV} (it : ItO e l m st T xs) {k : Nat} (h : st = true → k < m) (hk : k < xs.length) : k < m := by
  cases hst : st with
  | true => exact h hst
  | false => have := it.all hst; omega
theorem goes_no {m k : Nat} {st : Bool} (h : goes m st k = false) : st = true ∧ k + 1 = m := by
  unfold goes at h
  cases hst : st with
  | false => rw [hst] at h; cases h
  | true => rw [hst] at h; exact ⟨rfl, Nat.eq_of_beq_eq_true (by simpa using h)⟩
theorem goes_yes {m k : Nat} {st : Bool} (h : goes m st k = true) (hk : k < m) : st = true → k + 1 < m := by
  intro hst
  unfold goes at h
  rw [hst] at h
  have : k + 1 ≠ m := Nat.ne_of_beq_eq_false (by simpa using h)
  omega
theorem pos0 (x : Sn) : pos x 0 0 0 = 0 := by simp [pos]
theorem ca_of {x : Sn} (hx : snOK x = true) {i : Nat} (hi : i < x.l.length) {n k : Int} (hn : x.r.nl ≤ n ∧ n ≤ x.r.nh) (hk : x.r.xl ≤ k ∧ k ≤ x.r.xh) : CaB ⟨x.s, x.l[i], ⟨n, k, x.r.y⟩⟩ := by
  unfold snOK at hx
  simp only [Bool.and_eq_true] at hx
  obtain ⟨⟨h1, h2⟩, h3⟩ := hx
  have h4 := (coOK_facts h2).2 i hi
  have h5 := rcOK_facts h3
  refine caOK_B ?_
  unfold caOK
  simp only [Bool.and_eq_true]
  exact ⟨⟨h1, h4⟩, pcOK_iff.2 ⟨by simp only; omega, by simp only; omega, by simp only; omega⟩⟩
theorem sn_facts {x : Sn} (hx : snOK x = true) : (1 ≤ x.l.length ∧ x.l.length ≤ 6) ∧ stOK x.s = true ∧ rcOK x.s x.r = true ∧ ∀ i, (hi : i < x.l.length) → fgOK x.l[i] = true := by
  unfold snOK at hx
  simp only [Bool.and_eq_true] at hx
  exact ⟨(coOK_facts hx.1.2).1, hx.1.1, hx.2, (coOK_facts hx.1.2).2⟩
theorem readings_call {x : Sn} (hx : snOK x = true) {e : Env} {l m : Nat} {st : Bool} {T : Nat → List AObj} (it : ItO e l m st T ((rdgs x).map thA)) : ACallE e Tryz.prog 169 [.fn (.yield l) [] [], .iptr (snC x)] (T 0) (fun y H' => y = .ret (.tup []) ∧ ∃ X, H' = T m ++ X) := by
  refine acallE_of_marks (rs := []) Tryz.func169 rfl rfl (Nat.le_of_ble_eq_true rfl) fun e0 hle he0 => ?_
  rw [nil_pre (T 0)]
  obtain ⟨hlb, hs1, hr1, _⟩ := sn_facts hx
  have hs := stOK_iff.1 hs1
  have hr := rcOK_facts hr1
  refine aw_seq (aw_region (sq_ev rfl (ev_fieldAddr_i fo145_1 J) ?_))
  refine sq_ev rfl (ev_load_i J ty45 rfl) ?_
  refine sq_ev rfl (ev_len_map sl45 J) ?_
  refine mvr J rfl (sq_nil (aw_block ?_))
  refine aw_loopk (ι := { g : Nat × List AObj // g.1 ≤ x.l.length ∧ (st = true → pos x g.1 0 0 < m) }) [0, 1, 9, 10] (fun g => [(11, I g.1.1)]) (fun H g => T (pos x g.1.1 0 0) ++ g.1.2) (fun g => x.l.length - g.1.1) (⟨(0, []), Nat.zero_le _, fun h => by simpa [pos] using it.pos h⟩) ⟨J, J, J, J, J, trivial⟩ (by simp only [pos0]; rfl) ?_
  rintro ⟨⟨i, X⟩, hi, hkm⟩
  dsimp only [keepS, St.put, sget, slotsOf, nn1, nn2, nn3, nn4, nn5, nn6, Nat.reduceBEq, Nat.reduceAdd, nn7, nn8]
  dsimp only at hi hkm
  refine aw_seq (aw_region (sq_ev rfl (ev_lss J J) ?_))
  refine sq_nil (aw_seq ?_)
  refine aw_cond J (fun c_12 => ?_) (fun c_12 => ?_)
  · skip
    have c_12' := c_12
    try simp only [qq] at c_12'
    have hil : i < x.l.length := by omega
    have hgi : x.l.getD i [] = x.l[i] := getD_get hil
    refine aw_skip (aw_seq (aw_block (aw_seq (aw_region (mvr J rfl (sq_ev rfl (ev_index_map sl45 J J rfl (by omega)) ?_))))))
    refine sq_ev rfl (ev_load_agg_i J ty26 (by exact Nat.le_of_ble_eq_true rfl)) ?_
    refine sq_allocP (H0 := T (pos x i 0 0)) rfl z26 ?_
    refine asr J rfl ?_
    refine sq_storeE (A := T (pos x i 0 0)) (X := X) rfl rfl J J rfl ty26 rfl rfl ?_
    refine sq_frz (A := T (pos x i 0 0)) (X := X) [0, 1, 3, 9, 10, 11] 4 rfl ?_
    refine sq_nil (aw_seq (aw_region (sq_ev rfl (ev_fieldAddr_i fo145_2 J) ?_)))
    refine sq_ev rfl (ev_fieldAddr_i fo49_0 J) ?_
    refine sq_ev rfl (ev_fieldAddr_i fo47_0 J) ?_
    refine sq_ev rfl (ev_load_i J ty3 rfl) ?_
    refine asr J rfl (sq_nil (aw_block ?_))
    refine aw_loopk (ι := { g : Nat × List AObj // g.1 ≤ nN x ∧ (st = true → pos x i g.1 0 < m) }) [0, 1, 3, 4, 9, 10, 11] (fun g => [(5, I (x.r.nl + (g.1.1 : Nat)))]) (fun H g => T (pos x i g.1.1 0) ++ g.1.2) (fun g => nN x - g.1.1) (⟨(0, X ++ [.dead]), Nat.zero_le _, hkm⟩) ⟨(by exact less_int (by simp)), J, J, J, J, J, J, J, trivial⟩ rfl ?_
    rintro ⟨⟨d, Y⟩, hd, hkd⟩
    dsimp only [keepS, St.put, sget, slotsOf, nn1, nn2, nn3, nn4, nn5, nn6, Nat.reduceBEq, Nat.reduceAdd, nn7, nn8]
    dsimp only at hd hkd
    refine aw_seq (aw_seq (aw_region (mvr J rfl (sq_ev rfl (ev_fieldAddr_i fo145_2 J) ?_))))
    refine sq_ev rfl (ev_fieldAddr_i fo49_0 J) ?_
    refine sq_ev rfl (ev_fieldAddr_i fo47_1 J) ?_
    refine sq_ev rfl (ev_load_i J ty3 rfl) ?_
    refine sq_ev rfl (ev_leq J J) ?_
    refine sq_nil ?_
    refine aw_cond J (fun c_25 => ?_) (fun c_25 => ?_)
    · skip
      have c_25' := c_25
      try simp only [qq] at c_25'
      have hdl : d < nN x := by unfold nN; omega
      refine aw_skip (aw_seq (aw_block (aw_seq (aw_region (sq_ev rfl (ev_fieldAddr_i fo145_2 J) ?_)))))
      refine sq_ev rfl (ev_fieldAddr_i fo49_1 J) ?_
      refine sq_ev rfl (ev_fieldAddr_i fo47_0 J) ?_
      refine sq_ev rfl (ev_load_i J ty3 rfl) ?_
      refine asr J rfl (sq_nil (aw_block ?_))
      refine aw_loopk (ι := { g : Nat × List AObj // g.1 ≤ nX x ∧ (st = true → pos x i d g.1 < m) }) [0, 1, 3, 4, 5, 9, 10, 11] (fun g => [(6, I (x.r.xl + (g.1.1 : Nat)))]) (fun H g => T (pos x i d g.1.1) ++ g.1.2) (fun g => nX x - g.1.1) (⟨(0, Y), Nat.zero_le _, hkd⟩) ⟨(by exact less_int (by simp)), J, J, J, J, J, J, J, J, trivial⟩ rfl ?_
      rintro ⟨⟨k, Z⟩, hk, hkx⟩
      dsimp only [keepS, St.put, sget, slotsOf, nn1, nn2, nn3, nn4, nn5, nn6, Nat.reduceBEq, Nat.reduceAdd, nn7, nn8]
      dsimp only at hk hkx
      refine aw_seq (aw_seq (aw_region (mvr J rfl (sq_ev rfl (ev_fieldAddr_i fo145_2 J) ?_))))
      refine sq_ev rfl (ev_fieldAddr_i fo49_1 J) ?_
      refine sq_ev rfl (ev_fieldAddr_i fo47_1 J) ?_
      refine sq_ev rfl (ev_load_i J ty3 rfl) ?_
      refine sq_ev rfl (ev_leq J J) ?_
      refine sq_nil ?_
      refine aw_cond J (fun c_37 => ?_) (fun c_37 => ?_)
      · skip
        have c_37' := c_37
        try simp only [qq] at c_37'
        have hkl : k < nX x := by unfold nX; omega
        have hc := ca_of hx hil (n := x.r.nl + (d : Nat)) (k := x.r.xl + (k : Nat)) (by omega) (by omega)
        have hg := rdgs_get hil hdl hkl
        have hget : ((rdgs x).map thA)[pos x i d k]? = some (thA (thrown x i (x.r.nl + (d : Nat)) (x.r.xl + (k : Nat)))) := by rw [List.getElem?_map, hg]; rfl
        have hth : Less (.agg [I i, I (x.r.nl + (d : Nat)), I (x.r.xl + (k : Nat)), I x.r.y, strs (Ca.mk x.s x.l[i] ⟨x.r.nl + (d : Nat), x.r.xl + (k : Nat), x.r.y⟩).shadow]) (thA (thrown x i (x.r.nl + (d : Nat)) (x.r.xl + (k : Nat)))) := Less.eq (by unfold thrown; rw [hgi])
        have hkL := it.lt hkx (lt_of_get? hget)
        refine aw_skip (aw_seq (aw_block (aw_seq (aw_region (mvr J rfl (mvr J rfl (sq_ev rfl (ev_fieldAddr_i fo145_2 J) ?_)))))))
        refine sq_ev rfl (ev_fieldAddr_i fo49_2 J) ?_
        refine sq_ev rfl (ev_load_i J ty3 rfl) ?_
        refine sq_ev rfl (ev_build bi28 rfl) ?_
        refine sq_allocP (H0 := T (pos x i d k)) rfl z28 ?_
        refine sq_storeE (A := T (pos x i d k)) (X := Z) rfl rfl J J rfl ty28 rfl rfl ?_
        refine sq_frz (A := T (pos x i d k)) (X := Z) [0, 1, 3, 4, 5, 6, 9, 10, 11] 7 rfl ?_
        refine sq_nil (aw_seq ?_)
        refine aw_draw 11 mo (by kernel_rfl) ?_
        refine dr_ev rfl (ev_mv (v := .fn _ _ _) J) ?_
        refine dr_ev rfl (ev_mv (v := .raw _) J) ?_
        refine dr_ev rfl (ev_load_agg_i J ty28 (by exact Nat.le_of_ble_eq_true rfl)) ?_
        refine dr_ev rfl (ev_build bi73 rfl) ?_
        refine dr_ev rfl (ev_fieldAddr_i fo145_0 J) ?_
        refine dr_ev rfl (ev_load_agg_i J ty23 (by exact Nat.le_of_ble_eq_true rfl)) ?_
        refine dr_ev rfl (ev_load_agg_i J ty26 (by exact Nat.le_of_ble_eq_true rfl)) ?_
        refine dr_ev rfl (ev_load_agg_i J ty28 (by exact Nat.le_of_ble_eq_true rfl)) ?_
        refine dr_ev rfl (ev_build bi139 rfl) ?_
        refine dr_ev rfl (ev_call en98 J (shadow_pure hc) ⟨J, trivial⟩) ?_
        refine dr_ev rfl (ev_build bi152 rfl) ?_
        refine dr_end ?_
        refine sq_yield hle rfl J ?_ (it.hy _ _ hkL hget _) ?_
        · exact hth
        refine sq_ev rfl (ev_not J) ?_
        refine sq_nil ?_
        refine aw_cond J (fun c_58 => ?_) (fun c_58 => ?_)
        · skip
          have c_58' := c_58
          try simp only [qq] at c_58'
          have hg2 := goes_no (m := m) (st := st) (k := pos x i d k) (by simpa using c_58)
          refine aw_ret ?_
          exact ⟨_, .tup [], rfl, rfl, rfl, Z ++ [.dead], by rw [← hg2.2]; rfl⟩
        · skip
          have c_58' := c_58
          try simp only [qq] at c_58'
          have hg2 := goes_yes (m := m) (st := st) (k := pos x i d k) (by simpa using c_58) hkL
          rw [show pos x i d k + 1 = pos x i d (k + 1) from rfl]
          refine aw_skip (aw_region (mvr J rfl (sq_ev rfl (ev_add J J (wr (by omega) (by omega))) ?_)))
          refine asr J rfl (sq_nil ?_)
          refine ⟨⟨(k + 1, Z ++ [.dead]), by simp only; omega, hg2⟩, by simp only; omega, ?_⟩
          refine Sub.slots ?_
          exact ⟨(by exact less_int (by simp <;> omega)), J, J, J, J, J, J, J, J, trivial⟩
      · skip
        have c_37' := c_37
        try simp only [qq] at c_37'
        obtain rfl : k = nX x := by unfold nX at *; omega
        rw [pos_x]
        refine aw_exit (aw_region (mvr J rfl (sq_ev rfl (ev_add J J (wr (by omega) (by omega))) ?_)))
        refine asr J rfl (sq_nil ?_)
        have hke := hkx
        rw [pos_x] at hke
        exact ⟨⟨(d + 1, Z), by simp only; omega, hke⟩, by simp only; omega, Sub.slots ⟨(by exact less_int (by simp <;> omega)), J, J, J, J, J, J, J, trivial⟩⟩
    · skip
      have c_25' := c_25
      try simp only [qq] at c_25'
      obtain rfl : d = nN x := by unfold nN at *; omega
      rw [pos_n]
      refine aw_exit (aw_region (sq_ev rfl (ev_add J J (wr (by omega) (by omega))) ?_))
      refine mvr J rfl (sq_nil ?_)
      have hki := hkd
      rw [pos_n] at hki
      exact ⟨⟨(i + 1, Y), by simp only; omega, hki⟩, by simp only; omega, Sub.slots ⟨J, J, J, J, J, trivial⟩⟩
  · skip
    have c_12' := c_12
    try simp only [qq] at c_12'
    obtain rfl : i = x.l.length := by omega
    refine aw_exit ?_
    have hst : st = false := by
      cases h : st with
      | false => rfl
      | true => have h1 := hkm h; have h2 := it.hm; rw [List.length_map, rdgs_len] at h2; omega
    have hmm := it.all hst
    rw [List.length_map, rdgs_len] at hmm
    exact ⟨_, .tup [], rfl, rfl, rfl, X, by rw [hmm]; rfl⟩
/-- **All readings**, in order. -/
theorem readings_iter {x : Sn} (hx : snOK x = true) : AIter Tryz.prog 169 [] [.iptr (snC x)] ((rdgs x).map thA) := by
  intro m st hm h1 h2 l T e vs hT ok hH hs hy
  refine (readings_call hx ⟨hT, hm, h1, h2, fun i a hi ha X => hy i a hi ha X⟩ e vs (.refl e) ok hH hs).mono ?_
  rintro y w' ⟨ax, e', rfl, ok', fr, ⟨rfl, hX⟩, u, rfl, hu⟩
  exact ⟨u, e', rfl, rfl, ok', fr, hX⟩
theorem readings_pure (x : Sn) : APure Tryz.prog 140 [snA x] (.fn (.func 169) [] [.iptr (snC x)]) := by
  refine apure_of (rs := [.tmp 2]) Tryz.func140 rfl rfl (Nat.le_of_ble_eq_true rfl) (by simp [AV.pureL, AV.pureB, AV.pureE, pureE_map]) (by simp [AV.pureL, AV.pureB, AV.pureE, pureE_map]) fun e0 he0 => ?_
  refine aw_seq (aw_region (sq_box rfl J rfl (asr J rfl (sq_nil (aw_seq (aw_region (sq_ev rfl ev_makeFunc ?_)))))))
  refine sq_ev rfl (ev_as (v := .fn _ _ _) J) ?_
  refine sq_nil ?_
  refine aw_sub (sub_iptr (j := 0) (l := snC x) (sl' := [(2, .fn (.func 169) [] [.iptr (snC x)])]) (H' := [.dead]) rfl rfl ?_) ?_
  · intro q hq e e' _ key v hv
    obtain rfl := List.mem_singleton.1 hq
    have hv : Rep e (.fn (.func 169) [] [.ptr 0 0]) v := hv
    rw [Rep] at hv ⊢
    obtain ⟨x, y, h1, h2, h3⟩ := hv
    rw [RepL] at h3
    obtain ⟨u, rest, h4, h5, h6⟩ := h3
    rw [RepL] at h6
    refine ⟨x, y, h1, ?_, ?_⟩
    · rw [RepL] at h2 ⊢; exact h2
    · rw [h4, h6]; exact RepL.cons (key _ h5) RepL.nil
  refine aw_ret ?_
  exact retQ_pure (v := .fn _ _ _) rfl rfl J
end Go.Proofs.YtmbknoaneglilaaGreatDoor
namespace Go.Proofs.YtmbknoaneglilaaGreatDoor
open Go Go.Ab Ni Ol
theorem en141 : Ent Tryz.prog 141 := Ent.of Tryz.func141 (by kernel_rfl) rfl
theorem fo152_1 : fOff Tryz.prog 152 1 = some (4, 24) := by kernel_rfl
theorem sf146 : SlFact Tryz.prog 146 152 5 56 := SlFact.of (by kernel_rfl)
theorem sl146 : slElem Tryz.prog 146 = some (152, 5) := by kernel_rfl
theorem ty145 : tySz Tryz.prog 145 = some (true, 12) := by kernel_rfl
theorem ty146 : tySz Tryz.prog 146 = some (false, 1) := by kernel_rfl
theorem ty152 : tySz Tryz.prog 152 = some (true, 5) := by kernel_rfl
theorem z146 : zeroOf Tryz.prog 146 = some [.raw (.slice none 0 0)] := by kernel_rfl
theorem z152 : zeroOf Tryz.prog 152 = some [.raw (.int .i64 0), .raw (.int .i64 0), .raw (.int .i64 0), .raw (.int .i64 0), .raw (.slice none 0 0)] := by kernel_rfl
abbrev ths (l : List Th) : AV := .sl 5 (l.map thC)
def clOf : AV → List AV
  | .agg l => l
  | _ => []
theorem inE_ths (n : Nat) (l : List Th) : AV.inE n (l.map thC) = true := inE_map fun x _ => by simp [thC, AV.inL, AV.inB, inE_strs]
theorem pureE_ths (l : List Th) : AV.pureE (l.map thC) = true := pureE_map fun x _ => by simp [thC, AV.pureL, AV.pureB, AV.pureE, pureE_map]
theorem th_cl {x : Sn} {a : AV} (n : Nat) (h : a ∈ (rdgs x).map thA) : a.cells = some (clOf a) ∧ (clOf a).length = 5 ∧ AV.inL n (clOf a) = true := by
  obtain ⟨t, _, rfl⟩ := List.mem_map.1 h
  exact ⟨rfl, rfl, by simp [clOf, thC, AV.inL, AV.inB, inE_strs]⟩
theorem th_pure {x : Sn} {a : AV} (h : a ∈ (rdgs x).map thA) : a.pureB = true := by
  obtain ⟨t, _, rfl⟩ := List.mem_map.1 h
  simp [thC, AV.pureL, AV.pureB, AV.pureE, pureE_map]
theorem ths_get {L : List Th} {i : Nat} {a : AV} (h : (L.map thA)[i]? = some a) : ∃ hk : i < L.length, a = thA L[i] := by
  rw [List.getElem?_map] at h
  cases hy : L[i]? with
  | none => rw [hy] at h; cases h
  | some y =>
    rw [hy] at h
    have hk := lt_of_get? hy
    rw [List.getElem?_eq_getElem hk] at hy
    exact ⟨hk, by rw [Option.some.inj hy]; exact (Option.some.inj h).symm⟩
theorem fl_yes {q : Th → Bool} {L : List Th} {i : Nat} (hk : i < L.length) (h : q L[i] = true) : (L.take (i + 1)).filter q = (L.take i).filter q ++ [L[i]] := by
  rw [List.take_succ_eq_append_getElem hk, List.filter_append, List.filter_cons_of_pos h]; rfl
theorem fl_no {q : Th → Bool} {L : List Th} {i : Nat} (hk : i < L.length) (h : q L[i] = false) : (L.take (i + 1)).filter q = (L.take i).filter q := by
  rw [List.take_succ_eq_append_getElem hk, List.filter_append, List.filter_cons_of_neg (by simp [h])]; simp
theorem rdgs_mx {x : Sn} (hx : snOK x = true) : (rdgs x).length ≤ 1000 := by
  obtain ⟨h1, h2, h3, _⟩ := sn_facts hx
  have h4 := rcOK_facts h3
  rw [rdgs_len]
  have a1 : nN x ≤ 6 := by unfold nN; omega
  have a2 : nX x ≤ 6 := by unfold nX; omega
  unfold pos
  have : (x.l.length * nN x + 0) * nX x ≤ (6 * 6) * 6 := Nat.mul_le_mul (by have := Nat.mul_le_mul h1.2 a1; omega) a2
  omega
theorem rdgs_sh {x : Sn} (hx : snOK x = true) {t : Th} (ht : t ∈ rdgs x) : t.sh.length = x.s.high.toNat ∧ ∀ r ∈ t.sh, r.length = x.s.wide.toNat := by
  obtain ⟨i, n, k, hi, hn, hk, rfl⟩ := rdgs_mem ht
  unfold thrown Ca.shadow
  refine ⟨by simp, fun r hr => ?_⟩
  obtain ⟨m, _, rfl⟩ := List.mem_map.1 hr
  simp [Ca.srow]
structure Clo (s : Sg) (l : List (List UInt8)) : Prop where
  len : l.length = s.high.toNat
  row : ∀ r ∈ l, r.length = s.wide.toNat
theorem rdgs_clo {x : Sn} (hx : snOK x = true) {t : Th} (ht : t ∈ rdgs x) : Clo x.s t.sh := ⟨(rdgs_sh hx ht).1, (rdgs_sh hx ht).2⟩
theorem clo_fit {s : Sg} {a b : List (List UInt8)} (hs : stOK s = true) (ha : Clo s a) (hb : Clo s b) : Fit a b := by
  have h := stOK_iff.1 hs
  refine ⟨by rw [ha.len, hb.len]; exact Nat.le_refl _, fun m h1 h2 => by rw [ha.row _ (List.getElem_mem h1), hb.row _ (List.getElem_mem h2)]; exact Nat.le_refl _, by rw [hb.len]; omega, fun m h1 => by rw [hb.row _ (List.getElem_mem h1)]; omega⟩
theorem sight_clo {s : Sg} {l : List (List UInt8)} (hs : stOK s = true) (h : siOK s l = true) : Clo s l := by
  have h0 := stOK_iff.1 hs
  unfold siOK at h
  simp only [Bool.and_eq_true, decide_eq_true_eq, List.all_eq_true, siRow] at h
  exact ⟨by omega, fun r hr => by have := (h.2 r hr).1; omega⟩
theorem agreeing_pure {x : Sn} {sight : List (List UInt8)} (hxo : snOK x = true) (hsi : Clo x.s sight) : APure Tryz.prog 103 [snA x, strs sight] (.tup [ths (agrees x sight), B (decide (0 < (agrees x sight).length))]) := by
  refine apure_of_marks (rs := [.tmp 4, .tmp 5]) Tryz.func103 rfl rfl (Nat.le_of_ble_eq_true rfl) (by simp [AV.pureL, AV.pureB, AV.pureE, pureE_map]) (by first | rfl | (simp [AV.pureL, AV.pureB, AV.pureE, pureE_map])) fun e0 he0 => ?_
  have hst := (sn_facts hxo).2.1
  refine aw_seq (aw_region ?_)
  refine sq_box rfl J rfl (sq_box rfl J rfl (asr J rfl (asr J rfl (sq_nil (aw_seq (aw_region ?_))))))
  refine sq_alloc rfl z146 ?_
  refine sq_nil (aw_seq (aw_seq (aw_region (sq_ev rfl (ev_load_agg J rfl ty145 rfl) ?_))))
  refine sq_ev rfl (ev_call en140 J (readings_pure x) ⟨J, trivial⟩) ?_
  refine sq_nil (aw_block ?_)
  refine aw_sub (sub_token_box 2 5 rfl) ?_
  refine aw_rangeFuncB [3, 6] (xs := (rdgs x).map thA) (cl := clOf) (fun k => [.cells (snC x), .cells [strs sight], .cells [.own 3 5 ((((rdgs x).take k).filter fun t => agree t.sh sight).map thC)], .tok ((((rdgs x).take k).filter fun t => agree t.sh sight).map thC).length]) ((rdgs x).map thA).length none (Nat.le_refl _) (fun _ => rfl) (fun h => absurd rfl h) rfl rfl J en169 (readings_iter hxo) rfl (fun _ => rfl) (fun k hk => by show objsIn 4 _ = true; simp [objsIn, AObj.inB, AV.inB, AV.inL, inE_ths, inE_figs, inE_strs]) (fun x hx => th_pure hx) rfl rfl (by decide) rfl rfl z152 rfl ty152 (fun x hx => th_cl _ hx) (by decide) (by show slotsIn 4 [(3, AV.ptr 1 0), (6, AV.ptr 2 0)] = true; rfl) ?_ ?_
  · intro l i x e0 hi hx he0
    obtain ⟨hk, rfl⟩ := ths_get hx
    have hfit := clo_fit hst (rdgs_clo hxo (List.getElem_mem hk)) hsi
    have hal := rdgs_mx hxo
    have hfl : (((rdgs x).take i).filter fun t => agree t.sh sight).length ≤ i := Nat.le_trans (List.length_filter_le _ _) (by rw [List.length_take]; omega)
    dsimp only [keepS, St.put, sget, slotsOf, nn1, nn2, nn3, nn4, nn5, nn6, Nat.reduceBEq, Nat.reduceAdd, nn7, nn8]
    refine aw_block (aw_seq (aw_region (sq_ev rfl (ev_fieldAddr_i fo152_1 J) ?_)))
    refine sq_ev rfl (ev_load_i J ty24 rfl) ?_
    refine sq_ev rfl (ev_load J rfl ty24 rfl) ?_
    refine sq_ev rfl (ev_call en141 J (agree_pure hfit) ⟨J, J, trivial⟩) ?_
    refine sq_nil ?_
    refine aw_cond J (fun c_14 => ?_) (fun c_14 => ?_)
    · skip
      have c_14' := c_14
      try simp only [qq] at c_14'
      have eS : (((rdgs x).take (i + 1)).filter fun t => agree t.sh sight).map thC = (((rdgs x).take i).filter fun t => agree t.sh sight).map thC ++ [thC (rdgs x)[i]] := by rw [fl_yes hk (by exact c_14), List.map_append]; rfl
      refine aw_region (sq_ev rfl (ev_load J rfl ty146 rfl) ?_)
      refine sq_ev rfl (ev_load_agg_i J ty152 (by exact Nat.le_of_ble_eq_true rfl)) ?_
      refine sq_ev rfl (ev_buildSlice (es := [[_, _, _, _, _]]) sf146 rfl rfl rfl rfl) ?_
      refine sq_append rfl sf146 Tryz.underlying146 rfl rfl (less_slx _ _) (Nat.succ_pos _) (by simp; omega) (by simp; omega) ?_
      refine sq_store rfl J J rfl rfl ty146 rfl rfl ?_
      refine sq_nil ?_
      exact ⟨⟨[], congrArg (fun L => [AObj.cells (snC x), .cells [strs sight], .cells [.own 3 5 L], .tok L.length]) eS.symm⟩, rfl, by split <;> rfl⟩
    · skip
      have c_14' := c_14
      try simp only [qq] at c_14'
      have eS : (((rdgs x).take (i + 1)).filter fun t => agree t.sh sight).map thC = (((rdgs x).take i).filter fun t => agree t.sh sight).map thC := by rw [fl_no hk (by exact c_14)]
      refine aw_skip ?_
      exact ⟨⟨[], congrArg (fun L => [AObj.cells (snC x), .cells [strs sight], .cells [.own 3 5 L], .tok L.length]) eS.symm⟩, rfl, by split <;> rfl⟩
  · rintro _ rfl
    have hfull : ((rdgs x).map thA).length = (rdgs x).length := by simp
    rw [hfull, List.take_length]
    refine aw_seq ?_
    refine aw_draw 6 mo (by kernel_rfl) ?_
    refine dr_ev rfl (ev_load J rfl ty146 rfl) ?_
    refine dr_ev rfl (ev_load J rfl ty146 rfl) ?_
    refine dr_ev rfl (ev_len_map sl146 (less_own _ _ _)) ?_
    refine dr_ev rfl (ev_gtr J J) ?_
    refine dr_ev rfl (ev_as (v := .own _ _ _) J) ?_
    refine dr_ev rfl (ev_as (v := .raw _) J) ?_
    refine dr_end (sq_nil (aw_ret ?_))
    exact retQM_pure (v := .tup [.own _ _ _, .raw _]) rfl rfl (less_tup ⟨Less.trans (less_own _ _ _) (Less.eq rfl), Less.eq (by simp [agrees]), trivial⟩)
end Go.Proofs.YtmbknoaneglilaaGreatDoor
namespace Go.Proofs.YtmbknoaneglilaaGreatDoor
open Go Go.Ab Ni Ol
theorem bi145 : bldInfo Tryz.prog 145 = some ([.raw (.int .i64 0), .raw (.int .i64 0), .raw (.int .i64 0), .raw (.int .i64 0), .raw (.int .i64 0), .raw (.int .i64 0), .raw (.slice none 0 0), .raw (.int .i64 0), .raw (.int .i64 0), .raw (.int .i64 0), .raw (.int .i64 0), .raw (.int .i64 0)], true, [(0, 6), (6, 1), (7, 5)], 0) := by kernel_rfl
theorem en101 : Ent Tryz.prog 101 := Ent.of Tryz.func101 (by kernel_rfl) rfl
theorem en102 : Ent Tryz.prog 102 := Ent.of Tryz.func102 (by kernel_rfl) rfl
theorem fo152_0 : fOff Tryz.prog 152 0 = some (0, 73) := by kernel_rfl
theorem z145 : zeroOf Tryz.prog 145 = some [.raw (.int .i64 0), .raw (.int .i64 0), .raw (.int .i64 0), .raw (.int .i64 0), .raw (.int .i64 0), .raw (.int .i64 0), .raw (.slice none 0 0), .raw (.int .i64 0), .raw (.int .i64 0), .raw (.int .i64 0), .raw (.int .i64 0), .raw (.int .i64 0)] := by kernel_rfl
theorem z53 : zeroOf Tryz.prog 53 = some [.raw (.slice none 0 0)] := by kernel_rfl
def askOK (x : Sn) (sight : List (List UInt8)) : Bool := snOK x && siOK x.s sight
theorem ask_f1 {x : Sn} {sight : List (List UInt8)} (h : snOK x = false) : askOK x sight = false := by unfold askOK; rw [h]; rfl
theorem ask_f2 {x : Sn} {sight : List (List UInt8)} (h : siOK x.s sight = false) : askOK x sight = false := by unfold askOK; rw [h]; simp
theorem ask_t {x : Sn} {sight : List (List UInt8)} (h : snOK x = true) (h2 : siOK x.s sight = true) : askOK x sight = true := by unfold askOK; rw [h, h2]; rfl
end Go.Proofs.YtmbknoaneglilaaGreatDoor
namespace Go.Proofs.YtmbknoaneglilaaGreatDoor
open Go Go.Ab Ni Ol
theorem bi185 : bldInfo Tryz.prog 185 = some ([], true, [], 0) := by kernel_rfl
theorem en103 : Ent Tryz.prog 103 := Ent.of Tryz.func103 (by kernel_rfl) rfl
theorem en108 : Ent Tryz.prog 108 := Ent.of Tryz.func108 (by kernel_rfl) rfl
theorem fo73_0 : fOff Tryz.prog 73 0 = some (0, 3) := by kernel_rfl
theorem it3 : isIntT Tryz.prog 3 = true := by kernel_rfl
theorem mt155 : mapTy Tryz.prog 155 = some (3, 185) := by kernel_rfl
theorem sf117 : SlFact Tryz.prog 117 108 1 8 := SlFact.of (by kernel_rfl)
theorem ty185 : tySz Tryz.prog 185 = some (true, 0) := by kernel_rfl
theorem z185 : zeroOf Tryz.prog 185 = some [] := by kernel_rfl
def figK (l : List Th) : List Int := l.map fun t => (t.rd.fig : Int)
theorem figK_take {l : List Th} {k : Nat} (h : k < l.length) : figK (l.take k) ++ [(l[k].rd.fig : Int)] = figK (l.take (k + 1)) := by
  unfold figK; rw [List.take_succ_eq_append_getElem h, List.map_append]; rfl
theorem seenF_keys (l : List Th) : seenF l = keysIn (figK l) := by
  unfold seenF keysIn figK
  rw [List.foldl_map]; rfl
abbrev seenO (l : List Th) : AObj := .map (imap (setM (figK l)))
theorem seenO_len (l : List Th) : ((imap (setM (figK l))).length : Int) = lenS l := by
  unfold lenS; rw [seenF_keys]; simp [imap, setM]
theorem seenF_mem {l : List Th} {n : Int} : n ∈ seenF l ↔ n ∈ figK l := by rw [seenF_keys]; exact mem_keysIn
def whoK (S : List Int) (k : Nat) : List Int := (List.range k).map (wordOf S)
theorem whoK_succ (S : List Int) (k : Nat) : whoK S (k + 1) = whoK S k ++ [wordOf S k] := by unfold whoK; rw [List.range_succ, List.map_append]; rfl
theorem whoK_len (S : List Int) (k : Nat) : (whoK S k).length = k := by simp [whoK]
def anyOK (x : Sn) (sight : List (List UInt8)) : Bool := decide (0 < (agrees x sight).length)
def whoE (x : Sn) (sight : List (List UInt8)) : Int := if askOK x sight = true then (if anyOK x sight = true then 0 else 7) else 2
def whoL (x : Sn) (sight : List (List UInt8)) : List Int := if askOK x sight = true ∧ anyOK x sight = true then whoOf x sight else []
theorem whoE_0 {x : Sn} {sight : List (List UInt8)} (h : askOK x sight = false) : whoE x sight = 2 ∧ whoL x sight = [] := by unfold whoE whoL; rw [h]; simp
theorem whoE_1 {x : Sn} {sight : List (List UInt8)} (h : askOK x sight = true) (h2 : anyOK x sight = false) : whoE x sight = 7 ∧ whoL x sight = [] := by unfold whoE whoL; rw [h, h2]; simp
theorem whoE_2 {x : Sn} {sight : List (List UInt8)} (h : askOK x sight = true) (h2 : anyOK x sight = true) : whoE x sight = 0 ∧ whoL x sight = whoOf x sight := by unfold whoE whoL; rw [h, h2]; simp
theorem word_1 {l : List Th} {k : Nat} (h : decide ((k : Int) ∈ figK l) = false) : wordOf (seenF l) k = 1 := by
  unfold wordOf; rw [if_neg (by rw [seenF_mem]; simpa using h)]
theorem word_3 {l : List Th} {k : Nat} (h : decide ((k : Int) ∈ figK l) = true) (h2 : ((imap (setM (figK l))).length : Int) = 1) : wordOf (seenF l) k = 3 := by
  rw [seenO_len] at h2; unfold lenS at h2
  unfold wordOf; rw [if_pos (by rw [seenF_mem]; simpa using h), if_pos (by omega)]
theorem word_2 {l : List Th} {k : Nat} (h : decide ((k : Int) ∈ figK l) = true) (h2 : ¬ ((imap (setM (figK l))).length : Int) = 1) : wordOf (seenF l) k = 2 := by
  rw [seenO_len] at h2; unfold lenS at h2
  unfold wordOf; rw [if_pos (by rw [seenF_mem]; simpa using h), if_neg (by omega)]
theorem agrees_len {x : Sn} {sight : List (List UInt8)} (hx : snOK x = true) : (agrees x sight).length ≤ 1000 := Nat.le_trans (List.length_filter_le _ _) (rdgs_mx hx)
theorem seen_call (l : List Th) (hl : l.length ≤ 1000000) (H0 : List AObj) : ACall Tryz.prog 108 [ths l] H0 (fun y H' => y = .ret (.mp H0.length) ∧ ∃ X, H' = H0 ++ (seenO l :: X)) := by
  refine acall_of (rs := [.tmp 2]) Tryz.func108 rfl rfl (Nat.le_of_ble_eq_true rfl) fun e0 he0 => ?_
  refine aw_seq (aw_region (asr J rfl (sq_nil (aw_seq (aw_region ?_)))))
  refine sq_makeMap rfl ?_
  refine sq_ev rfl (ev_as (v := .mp _) J) ?_
  refine sq_nil (aw_seq (aw_seq (aw_region (mvs rfl J (sq_ev rfl (ev_len_map sl146 J) ?_)))))
  refine mvr J rfl (sq_nil (aw_block ?_))
  refine aw_loopk (ι := { g : Nat × List AObj // g.1 ≤ l.length }) [3, 7, 8] (fun g => [(9, I g.1.1)]) (fun H g => H0 ++ (seenO (l.take g.1.1) :: g.1.2)) (fun g => l.length - g.1.1) (⟨(0, []), Nat.zero_le _⟩) ⟨J, J, J, J, trivial⟩ rfl ?_
  rintro ⟨⟨k, X⟩, hk⟩
  dsimp only [keepS, St.put, sget, slotsOf, nn1, nn2, nn3, nn4, nn5, nn6, Nat.reduceBEq, Nat.reduceAdd, nn7, nn8]
  dsimp only at hk
  refine aw_seq (aw_region (sq_ev rfl (ev_lss J J) ?_))
  refine sq_nil (aw_seq ?_)
  refine aw_cond J (fun c_10 => ?_) (fun c_10 => ?_)
  · skip
    have c_10' := c_10
    try simp only [qq] at c_10'
    have hkl : k < l.length := by omega
    refine aw_skip (aw_seq (aw_block (aw_seq (aw_region (sq_ev rfl (ev_index_map sl146 J J rfl (by omega)) ?_)))))
    refine sq_ev rfl (ev_load_agg_i J ty152 (by exact Nat.le_of_ble_eq_true rfl)) ?_
    refine sq_allocP (H0 := H0) (X := seenO (l.take k) :: X) rfl z152 ?_
    refine sq_storeE (A := H0) (X := seenO (l.take k) :: X) rfl rfl J J rfl ty152 rfl rfl ?_
    refine sq_frz (A := H0) (X := seenO (l.take k) :: X) [3, 7, 8, 9] 5 rfl ?_
    refine sq_nil (aw_region (sq_ev rfl (ev_mv (v := .mp _) J) ?_))
    refine sq_ev rfl (ev_fieldAddr_i fo152_0 J) ?_
    refine sq_ev rfl (ev_fieldAddr_i fo73_0 J) ?_
    refine sq_ev rfl (ev_load_i J ty3 rfl) ?_
    refine sq_ev rfl (ev_build bi185 rfl) ?_
    refine sq_setAdd (A := H0) (l := figK (l.take k)) (l' := figK (l.take (k + 1))) rfl rfl mt155 it3 J rfl J less_unit (figK_take hkl) ?_
    refine sq_nil (aw_region (sq_ev rfl (ev_add J J (wr (by omega) (by omega))) ?_))
    refine mvr J rfl (sq_nil ?_)
    refine ⟨⟨(k + 1, X ++ [.dead]), by simp only; omega⟩, by simp only; omega, ?_⟩
    refine Sub.slots ?_
    exact ⟨J, J, J, J, trivial⟩
  · skip
    have c_10' := c_10
    try simp only [qq] at c_10'
    obtain rfl : k = l.length := by omega
    refine aw_exit (aw_seq (aw_region (sq_ev rfl (ev_mv (v := .mp _) J) ?_)))
    refine sq_ev rfl (ev_as (v := .mp _) J) ?_
    refine sq_nil (aw_ret ?_)
    exact ⟨rfl, .mp H0.length, rfl, rfl, X, by rw [List.take_length]; rfl⟩
theorem who_pure (x : Sn) (sight : List (List UInt8)) (hl : x.l.length ≤ 1000000) (hs : shp sight) : APure Tryz.prog 79 [stA x.s, figs x.l, rcA x.r, strs sight] (.tup [ints (whoL x sight), I (whoE x sight)]) := by
 refine apure_of (rs := [.tmp 8, .tmp 9]) Tryz.func79 rfl rfl (Nat.le_of_ble_eq_true rfl) (by simp [AV.pureL, AV.pureB, AV.pureE, pureE_map]) (by first | rfl | (simp [AV.pureL, AV.pureB, AV.pureE, pureE_map])) fun e0 he0 => ?_
 refine aw_seq (aw_region (sq_box rfl J rfl ?_))
 refine sq_box rfl J rfl (asr J rfl (asr J rfl (sq_nil (aw_seq (aw_region (sq_ev rfl (ev_load_agg J rfl ty23 rfl) ?_))))))
 refine mvs rfl J (sq_ev rfl (ev_load_agg J rfl ty49 rfl) ?_)
 refine sq_ev rfl (ev_build bi145 rfl) ?_
 refine sq_alloc rfl z145 ?_
 refine sq_store rfl J J rfl rfl ty145 rfl rfl ?_
 refine sq_nil (aw_seq (aw_seq (aw_region (sq_ev rfl (ev_load_agg J rfl ty145 rfl) ?_))))
 refine sq_ev rfl (ev_call en101 J (isscene_pure x hl) ⟨J, trivial⟩) ?_
 refine sq_ev rfl (ev_not J) ?_
 refine mvr J rfl ?_
 refine sq_split 26 J (fun g2_3 => ?_) (fun g2_3 => ?_)
 ·
  have g2_3' := g2_3
  try simp only [qq] at g2_3'
  refine sq_no rfl rfl (less_b g2_3) rfl rfl ?_
  refine sq_no rfl rfl (less_b g2_3) rfl rfl ?_
  refine sq_no rfl rfl (less_b g2_3) rfl rfl ?_
  refine sq_no rfl rfl (less_b g2_3) rfl rfl ?_
  refine sq_ev rfl (ev_pickT (v := .raw _) (less_b g2_3) J) ?_
  refine sq_nil ?_
  refine aw_true J ?_
  refine aw_seq (aw_region (asr J rfl (asr J rfl (sq_nil (aw_ret ?_)))))
  exact retQ_pure (v := .tup [.raw _, .raw _]) rfl rfl (less_tup ⟨Less.trans (less_nil 1) (Less.eq (by rw [(whoE_0 (ask_f1 g2_3')).2]; rfl)), Less.eq (by rw [(whoE_0 (ask_f1 g2_3')).1]), trivial⟩)
 have g2_3' := g2_3
 try simp only [qq] at g2_3'
 refine sq_yes rfl rfl (less_b g2_3) rfl (ev_load_agg J rfl ty23 rfl) ?_
 refine sq_yes rfl rfl (less_b g2_3) rfl (ev_mv (v := .sl _ _) J) ?_
 refine sq_yes rfl rfl (less_b g2_3) rfl (ev_call en102 J (issight_pure x.s sight hs) ⟨J, J, trivial⟩) ?_
 refine sq_yes rfl rfl (less_b g2_3) rfl (ev_not J) ?_
 refine sq_ev rfl (ev_pickF (v := .raw _) (less_b g2_3) J) ?_
 refine sq_nil ?_
 refine aw_cond J (fun c_31 => ?_) (fun c_31 => ?_)
 ·
  have c_31' := c_31
  try simp only [qq] at c_31'
  refine aw_seq (aw_region (asr J rfl (asr J rfl (sq_nil (aw_ret ?_)))))
  exact retQ_pure (v := .tup [.raw _, .raw _]) rfl rfl (less_tup ⟨Less.trans (less_nil 1) (Less.eq (by rw [(whoE_0 (ask_f2 (by simpa using c_31))).2]; rfl)), Less.eq (by rw [(whoE_0 (ask_f2 (by simpa using c_31))).1]), trivial⟩)
 have c_31' := c_31
 try simp only [qq] at c_31'
 have hxo : snOK x = true := by cases h : snOK x <;> simp_all
 have hso : siOK x.s sight = true := by cases h : siOK x.s sight <;> simp_all
 have hst := (sn_facts hxo).2.1
 have hsi := sight_clo hst hso
 have hak := ask_t hxo hso
 have hlb := (sn_facts hxo).1
 refine aw_skip (aw_seq (aw_region (sq_ev rfl (ev_load_agg J rfl ty145 rfl) ?_)))
 refine mvs rfl J (sq_ev rfl (ev_call en103 J (agreeing_pure hxo hsi) ⟨J, J, trivial⟩) ?_)
 refine sq_ev rfl (ev_mv (v := .tup _) J) ?_
 refine xtr rfl J rfl (xtr rfl J rfl (ass rfl J ?_))
 refine asr J rfl (sq_nil (aw_seq (aw_seq (aw_region (mvr J rfl (sq_ev rfl (ev_not J) ?_))))))
 refine sq_nil ?_
 refine aw_cond J (fun c_39 => ?_) (fun c_39 => ?_)
 ·
  have c_39' := c_39
  try simp only [qq] at c_39'
  have hno : anyOK x sight = false := by unfold anyOK; simpa using c_39
  refine aw_seq (aw_region (asr J rfl (asr J rfl (sq_nil (aw_ret ?_)))))
  exact retQ_pure (v := .tup [.raw _, .raw _]) rfl rfl (less_tup ⟨Less.trans (less_nil 1) (Less.eq (by rw [(whoE_1 hak hno).2]; rfl)), Less.eq (by rw [(whoE_1 hak hno).1]), trivial⟩)
 have c_39' := c_39
 try simp only [qq] at c_39'
 have hyes : anyOK x sight = true := by unfold anyOK; simpa using c_39
 refine aw_skip (aw_seq (aw_region (mvs rfl J ?_)))
 refine sq_call (first := []) (cap := []) (args := [ths (agrees x sight)]) rfl en108 J ⟨J, trivial⟩ (seen_call (agrees x sight) (by have := agrees_len (sight := sight) hxo; omega) _) ?_ (by rintro v H' ⟨h, _⟩; cases h)
 rintro _ _ ⟨h, X, rfl⟩; cases h
 refine sq_ev rfl (ev_as (v := .mp _) J) ?_
 refine sq_nil (aw_seq ?_)
 refine aw_sub (Sub.fin (sl' := [(1, figs x.l), (13, .mp 3)]) 4 (H' := [.cells (stC x.s), .cells (rcC x.r), .cells (snC x), seenO (agrees x sight)]) ⟨J, J, trivial⟩ rfl (by simp [slotsIn, objsIn, sget, keepS, AObj.inB, AV.inB, AV.inL, AV.inE, inE_map, inE_ints, inE_strs, inE_figs, inE_cloths, -List.map_append, -List.map_take, -List.map_map]) (by simp [slotsIn, objsIn, sget, keepS, AObj.inB, AV.inB, AV.inL, AV.inE, inE_map, inE_ints, inE_strs, inE_figs, inE_cloths, -List.map_append, -List.map_take, -List.map_map]) (by simp [he0])) ?_
 refine aw_region ?_
 refine asr J rfl (sq_nil (aw_seq (aw_seq (aw_region (mvs rfl J (sq_ev rfl (ev_len_map sl45 J) ?_))))))
 refine mvr J rfl (sq_nil (aw_block ?_))
 refine aw_sub (sub_token 14 1 J) ?_
 refine aw_loopk (ι := { k : Nat // k ≤ x.l.length }) [13, 43] (fun i => [(44, I i.1), (14, .own 4 1 ((whoK (seenF (agrees x sight)) i.1).map fun x => [I x]))]) (fun H i => H.set 4 (.tok ((whoK (seenF (agrees x sight)) i.1).map fun x => [I x]).length)) (fun i => x.l.length - i.1) (⟨0, Nat.zero_le _⟩) ⟨J, J, J, J, trivial⟩ rfl ?_
 rintro ⟨k, hk⟩
 dsimp only [keepS, St.put, sget, slotsOf, nn1, nn2, nn3, nn4, nn5, nn6, Nat.reduceBEq, Nat.reduceAdd, nn7, nn8]
 have hwl := whoK_len (seenF (agrees x sight)) k
 refine aw_seq (aw_region (sq_ev rfl (ev_lss J J) ?_))
 refine sq_nil (aw_seq ?_)
 refine aw_cond J (fun c_45 => ?_) (fun c_45 => ?_)
 ·
  have c_45' := c_45
  try simp only [qq] at c_45'
  refine aw_skip (aw_seq (aw_block (aw_seq (aw_region (mvr J rfl (asr J rfl ?_))))))
  refine sq_nil (aw_seq (aw_region (asr J rfl (sq_nil (aw_seq (aw_seq (aw_region (sq_ev rfl (ev_mv (v := .mp _) J) ?_))))))))
  refine mvr J rfl (sq_ev rfl (ev_lookup_set mt155 it3 z185 J J rfl) ?_)
  refine sq_ev rfl (ev_mv (v := .tup _) J) ?_
  refine xtr rfl J rfl (xtr rfl J rfl ?_)
  refine sq_alloc rfl z185 ?_
  refine sq_store rfl J J rfl rfl ty185 rfl rfl ?_
  refine asr J rfl (sq_nil (aw_seq (aw_region (mvr J rfl (sq_nil ?_)))))
  refine aw_cond J (fun c_53 => ?_) (fun c_53 => ?_)
  ·
   have c_53' := c_53
   try simp only [qq] at c_53'
   refine aw_seq (aw_region (asr J rfl (sq_nil (aw_seq (aw_region (sq_ev rfl (ev_mv (v := .mp _) J) ?_))))))
   refine sq_ev rfl (ev_len_mp mt155 J rfl) ?_
   refine sq_ev rfl (ev_eql J J) ?_
   refine sq_nil ?_
   refine aw_cond J (fun c_56 => ?_) (fun c_56 => ?_)
   ·
    have c_56' := c_56
    try simp only [qq] at c_56'
    have hw := word_3 c_53 c_56'
    have eS : ((whoK (seenF (agrees x sight)) (k + 1))).map (fun x => [I x]) = ((whoK (seenF (agrees x sight)) k)).map (fun x => [I x]) ++ [[I 3]] := by rw [whoK_succ, List.map_append]; simp only [List.map_cons, List.map_nil]; rw [hw]
    refine aw_region (asr J rfl (sq_nil (aw_region (sq_ev rfl (ev_mv (v := .own _ _ _) J) ?_))))
    refine mvr J rfl (sq_ev rfl (ev_buildSlice (es := [[_]]) sf117 rfl rfl rfl rfl) ?_)
    refine sq_append rfl sf117 Tryz.underlying117 rfl rfl (less_slx _ _) (Nat.succ_pos _) (by simp; omega) (by simp; omega) ?_
    refine sq_ev rfl (ev_as (v := .own _ _ _) J) ?_
    refine sq_nil (aw_region (sq_ev rfl (ev_add J J (wr (by omega) (by omega))) ?_))
    refine mvr J rfl (sq_nil ?_)
    exact ⟨⟨k + 1, by omega⟩, by simp only; omega, Sub.fin 5 ⟨J, Less.eq (b := .own 4 1 ((whoK (seenF (agrees x sight)) (k + 1)).map fun x => [I x])) (by rw [eS] <;> rfl), J, J, trivial⟩ (congrArg (fun n => [_, _, _, _, AObj.tok n]) (congrArg List.length eS.symm)) (by simp [slotsIn, objsIn, sget, keepS, AObj.inB, AV.inB, AV.inL, AV.inE, inE_map, inE_ints, inE_strs, inE_figs, inE_cloths, -List.map_append, -List.map_take, -List.map_map]) (by simp [slotsIn, objsIn, sget, keepS, AObj.inB, AV.inB, AV.inL, AV.inE, inE_map, inE_ints, inE_strs, inE_figs, inE_cloths, -List.map_append, -List.map_take, -List.map_map]) (by simp [he0])⟩
   have c_56' := c_56
   try simp only [qq] at c_56'
   have hw := word_2 c_53 c_56'
   have eS : ((whoK (seenF (agrees x sight)) (k + 1))).map (fun x => [I x]) = ((whoK (seenF (agrees x sight)) k)).map (fun x => [I x]) ++ [[I 2]] := by rw [whoK_succ, List.map_append]; simp only [List.map_cons, List.map_nil]; rw [hw]
   refine aw_skip (aw_region (sq_ev rfl (ev_mv (v := .own _ _ _) J) ?_))
   refine mvr J rfl (sq_ev rfl (ev_buildSlice (es := [[_]]) sf117 rfl rfl rfl rfl) ?_)
   refine sq_append rfl sf117 Tryz.underlying117 rfl rfl (less_slx _ _) (Nat.succ_pos _) (by simp; omega) (by simp; omega) ?_
   refine sq_ev rfl (ev_as (v := .own _ _ _) J) ?_
   refine sq_nil (aw_region (sq_ev rfl (ev_add J J (wr (by omega) (by omega))) ?_))
   refine mvr J rfl (sq_nil ?_)
   exact ⟨⟨k + 1, by omega⟩, by simp only; omega, Sub.fin 5 ⟨J, Less.eq (b := .own 4 1 ((whoK (seenF (agrees x sight)) (k + 1)).map fun x => [I x])) (by rw [eS] <;> rfl), J, J, trivial⟩ (congrArg (fun n => [_, _, _, _, AObj.tok n]) (congrArg List.length eS.symm)) (by simp [slotsIn, objsIn, sget, keepS, AObj.inB, AV.inB, AV.inL, AV.inE, inE_map, inE_ints, inE_strs, inE_figs, inE_cloths, -List.map_append, -List.map_take, -List.map_map]) (by simp [slotsIn, objsIn, sget, keepS, AObj.inB, AV.inB, AV.inL, AV.inE, inE_map, inE_ints, inE_strs, inE_figs, inE_cloths, -List.map_append, -List.map_take, -List.map_map]) (by simp [he0])⟩
  have c_53' := c_53
  try simp only [qq] at c_53'
  have hw := word_1 c_53
  have eS : ((whoK (seenF (agrees x sight)) (k + 1))).map (fun x => [I x]) = ((whoK (seenF (agrees x sight)) k)).map (fun x => [I x]) ++ [[I 1]] := by rw [whoK_succ, List.map_append]; simp only [List.map_cons, List.map_nil]; rw [hw]
  refine aw_skip (aw_region (sq_ev rfl (ev_mv (v := .own _ _ _) J) ?_))
  refine mvr J rfl (sq_ev rfl (ev_buildSlice (es := [[_]]) sf117 rfl rfl rfl rfl) ?_)
  refine sq_append rfl sf117 Tryz.underlying117 rfl rfl (less_slx _ _) (Nat.succ_pos _) (by simp; omega) (by simp; omega) ?_
  refine sq_ev rfl (ev_as (v := .own _ _ _) J) ?_
  refine sq_nil (aw_region (sq_ev rfl (ev_add J J (wr (by omega) (by omega))) ?_))
  refine mvr J rfl (sq_nil ?_)
  exact ⟨⟨k + 1, by omega⟩, by simp only; omega, Sub.fin 5 ⟨J, Less.eq (b := .own 4 1 ((whoK (seenF (agrees x sight)) (k + 1)).map fun x => [I x])) (by rw [eS] <;> rfl), J, J, trivial⟩ (congrArg (fun n => [_, _, _, _, AObj.tok n]) (congrArg List.length eS.symm)) (by simp [slotsIn, objsIn, sget, keepS, AObj.inB, AV.inB, AV.inL, AV.inE, inE_map, inE_ints, inE_strs, inE_figs, inE_cloths, -List.map_append, -List.map_take, -List.map_map]) (by simp [slotsIn, objsIn, sget, keepS, AObj.inB, AV.inB, AV.inL, AV.inE, inE_map, inE_ints, inE_strs, inE_figs, inE_cloths, -List.map_append, -List.map_take, -List.map_map]) (by simp [he0])⟩
 have c_45' := c_45
 try simp only [qq] at c_45'
 obtain rfl : k = x.l.length := by omega
 refine aw_exit (aw_seq (aw_region (sq_ev rfl (ev_mv (v := .own _ _ _) J) ?_)))
 refine sq_ev rfl (ev_as (v := .own _ _ _) J) ?_
 refine asr J rfl (sq_nil (aw_ret ?_))
 exact retQ_pure (v := .tup [.own _ _ _, .raw _]) rfl rfl (less_tup ⟨Less.trans (less_own _ _ _) (Less.eq (by rw [(whoE_2 hak hyes).2]; rfl)), Less.eq (by rw [(whoE_2 hak hyes).1]), trivial⟩)
end Go.Proofs.YtmbknoaneglilaaGreatDoor
