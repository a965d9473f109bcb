/-
  A part of the proof: conditions: none beyond each theorem's own.
-/
import Derived.Test.YtjghdbdiejaacaaGreatDoorWalkF
import Derived.Test.YtjghdbdiejaacaaGreatDoorLogicD
set_option linter.all false
namespace Go.Proofs.YtjghdbdiejaacaaGreatDoor
open Go Go.Ab Ni
theorem en40 : Ent Tryz.prog 40 := Ent.of Tryz.func40 (by kernel_rfl) rfl
theorem en41 : Ent Tryz.prog 41 := Ent.of Tryz.func41 (by kernel_rfl) rfl
theorem en83 : Ent Tryz.prog 83 := Ent.of Tryz.func83 (by kernel_rfl) rfl
theorem sl43 : slElem Tryz.prog 43 = some (23, 2) := by kernel_rfl
theorem sl57 : slElem Tryz.prog 57 = some (92, 1) := by kernel_rfl
theorem ty92 : tySz Tryz.prog 92 = some (false, 1) := by kernel_rfl

theorem fieldsOf_st {P : Program} {t : TypeId} {fs : Array Field} (h : P.underlying t = some (.struct fs)) : P.fieldsOf t = fs := by unfold Program.fieldsOf; rw [h]
theorem spanEq (a b c d : Int) (w : World) : (Op.equalIn 10000 23 (.agg #[.int .i64 a, .int .i64 b]) (.agg #[.int .i64 c, .int .i64 d])).run Tryz.prog w = .ok (decide (a = c) && decide (b = d)) w := by
  have h3 : Tryz.prog.underlying 3 = some (.int .i64) := Tryz.underlying3
  rw [run_equalIn_struct w 9999 23 _ _ (by rw [fieldsOf_st Tryz.underlying23]; exact Tryz.underlying23) (by kernel_rfl), fieldsOf_st Tryz.underlying23]
  have p0 : ∀ (x y : Int) (w : World), (part 3 #[.int .i64 x, .int .i64 y] 0).run Tryz.prog w = .ok (.int .i64 x) w := fun x y w => by
    simp [part, Tryz.isAgg3]
  have p1 : ∀ (x y : Int) (w : World), (part 3 #[.int .i64 x, .int .i64 y] 1).run Tryz.prog w = .ok (.int .i64 y) w := fun x y w => by
    simp [part, Tryz.isAgg3]
  simp [Op.eqFields, p0, p1, run_equalIn_int _ _ _ _ _ _ _ h3]
  by_cases h1 : a = c <;> by_cases h2 : b = d <;> simp [h1, h2]
section
variable {r : Option Nat} {H : List AObj} {ρ : Operand → AV} {d : Option Tmp} {t : TypeId} {p : String} {af : Array Edge} {g : Option (Nat × Bool)} {x y : Operand} {yt : TypeId} {a b c e : Int}
theorem ev_span_neq (hx : Less (ρ x) (.agg [I a, I b])) (hy : Less (ρ y) (.agg [I c, I e])) : Ev Tryz.prog r ⟨d, .binOp .neq 23 x y yt, t, p, af, g⟩ H ρ (B (!(decide (a = c) && decide (b = e)))) :=
  ev_neq_agg (by kernel_rfl) (spanEq a b c e) (Less.trans hx (less_agg_raw (vs := [.int .i64 a, .int .i64 b]) rfl)) (Less.trans hy (less_agg_raw (vs := [.int .i64 c, .int .i64 e]) rfl))
end
abbrev p0 : Pl := ⟨0, 60, 70, 120, 130, 180, 200, [⟨0, 40, 50, false, -1⟩, ⟨0, 20, 30, true, -1⟩, ⟨1, 50, 60, false, -1⟩, ⟨1, 30, 40, true, 1⟩, ⟨2, 55, 70, false, -1⟩]⟩
abbrev q0 : Pl := ⟨0, 60, 70, 120, 130, 210, 220, [⟨0, 40, 50, false, -1⟩, ⟨0, 20, 30, true, -1⟩, ⟨1, 50, 60, false, -1⟩, ⟨1, 30, 40, true, 1⟩, ⟨2, 55, 70, false, -1⟩]⟩
def narP (p : Pl) (k : Nat) (a b : Int) : Pl := if k = 0 then { p with s0l := a, s0h := b } else if k = 1 then { p with s1l := a, s1h := b } else { p with dl := a, dh := b }
def sspBad (a b : List (Int × Int)) (h : a.length = b.length) (i : Nat) (hi : i < a.length) : Bool := !decide (a[i] = b[i]'(by omega))
theorem ssp_okAll {a b : List (Int × Int)} (h : a.length = b.length) : okAll a.length (sspBad a b h) = decide (a = b) := by
  rw [Bool.eq_iff_iff, okAll_iff, decide_eq_true_eq]
  constructor
  · intro k
    exact List.ext_getElem h fun i h1 h2 => by have := k i h1; simpa [sspBad] using this
  · rintro rfl i hi; simp [sspBad]
set_option maxHeartbeats 400000 in
/-- kelir/kelirlaw03.span -/
theorem rspan_pure (a b : Int) : APure Tryz.prog 41 [I a, I b] (.agg [I a, I b]) := by
  refine apure_of (rs := [.cell 4 23]) Tryz.func41 rfl rfl (Nat.le_of_ble_eq_true rfl) (by simp [AV.pureL, AV.pureB, AV.pureE, pureE_map]) (rfl) fun e0 he0 => ?_
  refine aw_seq (aw_region ?_)
  refine sq_alloc rfl z23 ?_
  refine sq_nil (aw_seq (aw_region ?_))
  refine mvr (lr _) rfl ?_
  refine mvr (lr _) rfl ?_
  refine sq_ev rfl (ev_build bi23 rfl) ?_
  refine sq_store rfl (lr _) (lr _) rfl rfl ty23 rfl rfl ?_
  refine sq_nil (aw_ret ?_)
  exact retQ_res (vs := [.agg _]) rfl rfl ⟨resVar_cell rfl rfl ty23 rfl, trivial⟩ (lr _)

set_option maxHeartbeats 1000000 in
/-- kelir/kelirlaw03.P -/
theorem rP_pure  : APure Tryz.prog 83 [] (plan p0) := by
 refine apure_of (rs := [.cell 0 27]) Tryz.func83 rfl rfl (Nat.le_of_ble_eq_true rfl) (by simp [AV.pureL, AV.pureB, AV.pureE, pureE_map]) (by simp [AV.pureL, AV.pureB, AV.pureE, pureE_map]) fun e0 he0 => ?_
 refine aw_seq (aw_region ?_)
 refine sq_alloc rfl z27 ?_
 refine sq_nil (aw_seq (aw_region ?_))
 refine sq_ev rfl (ev_call en41 (lr _) (rspan_pure _ _) ⟨lr _, lr _, trivial⟩) ?_
 refine sq_ev rfl (ev_call en41 (lr _) (rspan_pure _ _) ⟨lr _, lr _, trivial⟩) ?_
 refine sq_ev rfl (ev_build bi24 rfl) ?_
 refine sq_ev rfl (ev_call en41 (lr _) (rspan_pure _ _) ⟨lr _, lr _, trivial⟩) ?_
 refine sq_ev rfl (ev_build bi84 rfl) ?_
 refine sq_ev rfl (ev_build bi84 rfl) ?_
 refine sq_ev rfl (ev_build bi84 rfl) ?_
 refine sq_ev rfl (ev_build bi84 rfl) ?_
 refine sq_ev rfl (ev_build bi84 rfl) ?_
 refine sq_ev rfl (ev_buildSlice (es := [[_, _, _, _, _], [_, _, _, _, _], [_, _, _, _, _], [_, _, _, _, _], [_, _, _, _, _]]) sf25 rfl rfl rfl rfl) ?_
 refine sq_ev rfl (ev_build bi27 rfl) ?_
 refine sq_store rfl (lr _) (lr _) rfl rfl ty27 rfl rfl ?_
 refine sq_nil (aw_ret ?_)
 exact retQ_res (vs := [.agg _]) rfl rfl ⟨resVar_cell rfl rfl ty27 rfl, trivial⟩ (less_agg ⟨lr _, lr _, lr _, lr _, lr _, lr _, lr _, less_slx _ _, trivial⟩)

set_option maxHeartbeats 400000 in
/-- kelir/kelirref03.Narrow -/
theorem rnarrow2_pure (p : Pl) (a b : Int) : APure Tryz.prog 40 [plan p, I 2, .agg [I a, I b]] (plan (narP p 2 a b)) := by
 refine apure_of (rs := [.cell 6 27]) Tryz.func40 rfl rfl (Nat.le_of_ble_eq_true rfl) (by simp [AV.pureL, AV.pureB, AV.pureE, pureE_map]) (by simp [AV.pureL, AV.pureB, AV.pureE, pureE_map]) fun e0 he0 => ?_
 refine aw_seq (aw_region ?_)
 refine sq_box rfl (lr _) rfl ?_
 refine sq_box rfl (lr _) rfl ?_
 refine sq_alloc rfl z27 ?_
 refine sq_nil (aw_seq (aw_seq (aw_region ?_)))
 refine mvr (lr _) rfl ?_
 refine sq_ev rfl (ev_eql (lr _) (lr _)) ?_
 refine sq_nil ?_
 refine aw_cond (lr _) (fun c1 => ?_) (fun c1 => ?_)
 ·
  have c1' := c1
  try simp only [qq] at c1'
  refine aw_region ?_
  refine sq_ev rfl (ev_load_agg (lr _) rfl ty23 rfl) ?_
  refine sq_ev rfl (ev_fieldAddr fo27_2 (lr _)) ?_
  refine sq_store rfl (lr _) (lr _) rfl rfl ty23 rfl rfl ?_
  refine sq_nil (aw_seq (aw_region ?_))
  refine sq_ev rfl (ev_load_agg (lr _) rfl ty27 rfl) ?_
  refine sq_store rfl (lr _) (lr _) rfl rfl ty27 rfl rfl ?_
  refine sq_nil (aw_ret ?_)
  exact retQ_res (vs := [.agg _]) rfl rfl ⟨resVar_cell rfl rfl ty27 rfl, trivial⟩ (lr _)
 ·
  have c1' := c1
  try simp only [qq] at c1'
  cases c1

set_option maxHeartbeats 1000000 in
/-- kelir/kelirlaw03.Q -/
theorem rQ_pure  : APure Tryz.prog 84 [] (plan q0) := by
 refine apure_of (rs := [.cell 0 27]) Tryz.func84 rfl rfl (Nat.le_of_ble_eq_true rfl) (by simp [AV.pureL, AV.pureB, AV.pureE, pureE_map]) (by simp [AV.pureL, AV.pureB, AV.pureE, pureE_map]) fun e0 he0 => ?_
 refine aw_seq (aw_region ?_)
 refine sq_alloc rfl z27 ?_
 refine sq_nil (aw_seq (aw_region ?_))
 refine sq_ev rfl (ev_call en83 (lr _) (rP_pure) trivial) ?_
 refine sq_ev rfl (ev_call en41 (lr _) (rspan_pure _ _) ⟨lr _, lr _, trivial⟩) ?_
 refine sq_ev rfl (ev_call en40 (lr _) (rnarrow2_pure p0 210 220) ⟨lr _, lr _, lr _, trivial⟩) ?_
 refine sq_store rfl (lr _) (lr _) rfl rfl ty27 rfl rfl ?_
 refine sq_nil (aw_ret ?_)
 exact retQ_res (vs := [.agg _]) rfl rfl ⟨resVar_cell rfl rfl ty27 rfl, trivial⟩ (lr _)

set_option maxHeartbeats 1000000 in
/-- kelir/kelirref03.SameSpans -/
theorem rspans_pure (a b : List (Int × Int)) (ha : a.length ≤ 100000000) (hb : b.length ≤ 100000000) : APure Tryz.prog 33 [spans a, spans b] (B (decide (a = b))) := by
 refine apure_of (rs := [.tmp 4]) Tryz.func33 rfl rfl (Nat.le_of_ble_eq_true rfl) (by simp [AV.pureL, AV.pureB, AV.pureE, pureE_map]) (rfl) fun e0 he0 => ?_
 refine aw_seq (aw_region ?_)
 refine asr (lr _) rfl ?_
 refine sq_nil (aw_seq (aw_seq (aw_region ?_)))
 refine sq_ev rfl (ev_mv (v := .sl _ _) (lr _)) ?_
 refine sq_ev rfl (ev_len_map sl43 (lr _)) ?_
 refine sq_ev rfl (ev_mv (v := .sl _ _) (lr _)) ?_
 refine sq_ev rfl (ev_len_map sl43 (lr _)) ?_
 refine sq_ev rfl (ev_neq (lr _) (lr _)) ?_
 refine sq_nil ?_
 refine aw_cond (lr _) (fun c1 => ?_) (fun c1 => ?_)
 ·
  have c1' := c1
  try simp only [qq] at c1'
  refine aw_seq (aw_region ?_)
  refine asr (lr _) rfl ?_
  refine sq_nil (aw_ret ?_)
  exact retQ_pure (v := .raw _) rfl rfl (Less.eq (by rw [show decide (a = b) = false from (by simp only [decide_eq_false_iff_not]; rintro rfl; exact c1' rfl)]))
 ·
  have c1' := c1
  try simp only [qq] at c1'
  have hlen : a.length = b.length := by omega
  refine aw_skip (aw_seq (aw_seq (aw_region ?_)))
  refine asr (lr _) rfl ?_
  refine sq_nil (aw_block ?_)
  refine aw_loopk (ι := { k : Nat // k ≤ a.length ∧ ∀ i, (h : i < a.length) → i < k → sspBad a b hlen i h = false }) [0, 1] (fun i => [(5, I i.1)]) (fun H i => H) (fun i => a.length - i.1) (⟨0, Nat.zero_le _, by omega⟩) ⟨lr _, lr _, lr _, trivial⟩ rfl ?_
  rintro ⟨k, hk, hok⟩
  dsimp only [keepS, St.put, sget, slotsOf, List.map_cons, List.map_nil, List.cons_append, List.nil_append, List.length_cons, List.length_nil, Nat.reduceBEq, Nat.reduceAdd, cond_true, cond_false]
  refine aw_seq (aw_seq (aw_region ?_))
  refine mvr (lr _) rfl ?_
  refine sq_ev rfl (ev_mv (v := .sl _ _) (lr _)) ?_
  refine sq_ev rfl (ev_len_map sl43 (lr _)) ?_
  refine sq_ev rfl (ev_lss (lr _) (lr _)) ?_
  refine sq_nil ?_
  refine aw_cond (lr _) (fun c2 => ?_) (fun c2 => ?_)
  ·
   have c2' := c2
   try simp only [qq] at c2'
   refine aw_skip (aw_seq (aw_block (aw_seq ?_)))
   refine aw_draw 9 mo (by kernel_rfl) ?_
   refine dr_ev rfl (ev_mv (v := .sl _ _) (lr _)) ?_
   refine dr_ev rfl (ev_mv (v := .raw _) (lr _)) ?_
   refine dr_ev rfl (ev_index_map sl43 (lr _) (lr _) rfl (by omega)) ?_
   refine dr_ev rfl (ev_load_agg_i (lr _) ty23 (Nat.le_of_ble_eq_true rfl)) ?_
   refine dr_ev rfl (ev_mv (v := .sl _ _) (lr _)) ?_
   refine dr_ev rfl (ev_mv (v := .raw _) (lr _)) ?_
   refine dr_ev rfl (ev_index_map sl43 (lr _) (lr _) rfl (by omega)) ?_
   refine dr_ev rfl (ev_load_agg_i (lr _) ty23 (Nat.le_of_ble_eq_true rfl)) ?_
   refine dr_ev rfl (ev_span_neq (lr _) (lr _)) ?_
   refine dr_end (sq_nil ?_)
   refine aw_cond (lr _) (fun c3 => ?_) (fun c3 => ?_)
   ·
    have c3' := c3
    try simp only [qq] at c3'
    have hne : a[k] ≠ b[k] := fun h => by rw [h] at c3; simp at c3
    refine aw_seq (aw_region ?_)
    refine asr (lr _) rfl ?_
    refine sq_nil (aw_ret ?_)
    exact retQ_pure (v := .raw _) rfl rfl (Less.eq (by rw [← ssp_okAll hlen, okAll_bad (i := k) (by omega) (by first | (simp [sspBad, *]; done) | (simp_all [sspBad]; done))]))
   ·
    have c3' := c3
    try simp only [qq] at c3'
    have hey : a[k] = b[k] := by simp at c3; exact Prod.ext c3.1 c3.2
    refine aw_skip (aw_region ?_)
    refine mvr (lr _) rfl ?_
    refine sq_ev rfl (ev_add (lr _) (lr _) (wr (by omega) (by omega))) ?_
    refine asr (lr _) rfl ?_
    refine sq_nil ?_
    have hgood : sspBad a b hlen k (by omega) = false := by first | (simp [sspBad, *]; done) | (simp_all [sspBad]; done)
    exact ⟨⟨k + 1, by omega, fun i h hi => (by by_cases e : i = k; (subst e; exact hgood); exact hok i h (by omega))⟩, by simp only; omega, Sub.slots ⟨lr _, lr _, lr _, trivial⟩⟩
  ·
   have c2' := c2
   try simp only [qq] at c2'
   refine aw_exit (aw_seq (aw_region ?_))
   refine asr (lr _) rfl ?_
   refine sq_nil (aw_ret ?_)
   exact retQ_pure (v := .raw _) rfl rfl (Less.eq (by rw [← ssp_okAll hlen, okAll_end hk c2' hok]))

set_option maxHeartbeats 1000000 in
/-- kelir/kelirref03.SameWords -/
theorem rwords_pure (a b : List Int) (ha : a.length ≤ 100000000) (hb : b.length ≤ 100000000) : APure Tryz.prog 43 [ints a, ints b] (B (decide (a = b))) := by
 refine apure_of (rs := [.tmp 4]) Tryz.func43 rfl rfl (Nat.le_of_ble_eq_true rfl) (by simp [AV.pureL, AV.pureB, AV.pureE, pureE_map]) (rfl) fun e0 he0 => ?_
 refine aw_seq (aw_region ?_)
 refine asr (lr _) rfl ?_
 refine sq_nil (aw_seq (aw_seq (aw_region ?_)))
 refine sq_ev rfl (ev_mv (v := .sl _ _) (lr _)) ?_
 refine sq_ev rfl (ev_len_map sl57 (lr _)) ?_
 refine sq_ev rfl (ev_mv (v := .sl _ _) (lr _)) ?_
 refine sq_ev rfl (ev_len_map sl57 (lr _)) ?_
 refine sq_ev rfl (ev_neq (lr _) (lr _)) ?_
 refine sq_nil ?_
 refine aw_cond (lr _) (fun c1 => ?_) (fun c1 => ?_)
 ·
  have c1' := c1
  try simp only [qq] at c1'
  refine aw_seq (aw_region ?_)
  refine asr (lr _) rfl ?_
  refine sq_nil (aw_ret ?_)
  exact retQ_pure (v := .raw _) rfl rfl (Less.eq (by rw [show decide (a = b) = false from (by simp only [decide_eq_false_iff_not]; rintro rfl; exact c1' rfl)]))
 ·
  have c1' := c1
  try simp only [qq] at c1'
  have hlen : a.length = b.length := by omega
  refine aw_skip (aw_seq (aw_seq (aw_region ?_)))
  refine asr (lr _) rfl ?_
  refine sq_nil (aw_block ?_)
  refine aw_loopk (ι := { k : Nat // k ≤ a.length ∧ ∀ i, (h : i < a.length) → i < k → sameBad a b hlen i h = false }) [0, 1] (fun i => [(5, I i.1)]) (fun H i => H) (fun i => a.length - i.1) (⟨0, Nat.zero_le _, by omega⟩) ⟨lr _, lr _, lr _, trivial⟩ rfl ?_
  rintro ⟨k, hk, hok⟩
  dsimp only [keepS, St.put, sget, slotsOf, List.map_cons, List.map_nil, List.cons_append, List.nil_append, List.length_cons, List.length_nil, Nat.reduceBEq, Nat.reduceAdd, cond_true, cond_false]
  refine aw_seq (aw_seq (aw_region ?_))
  refine mvr (lr _) rfl ?_
  refine sq_ev rfl (ev_mv (v := .sl _ _) (lr _)) ?_
  refine sq_ev rfl (ev_len_map sl57 (lr _)) ?_
  refine sq_ev rfl (ev_lss (lr _) (lr _)) ?_
  refine sq_nil ?_
  refine aw_cond (lr _) (fun c2 => ?_) (fun c2 => ?_)
  ·
   have c2' := c2
   try simp only [qq] at c2'
   refine aw_skip (aw_seq (aw_block (aw_seq ?_)))
   refine aw_draw 9 mo (by kernel_rfl) ?_
   refine dr_ev rfl (ev_mv (v := .sl _ _) (lr _)) ?_
   refine dr_ev rfl (ev_mv (v := .raw _) (lr _)) ?_
   refine dr_ev rfl (ev_index_map sl57 (lr _) (lr _) rfl (by omega)) ?_
   refine dr_ev rfl (ev_load_i (lr _) ty92 rfl) ?_
   refine dr_ev rfl (ev_mv (v := .sl _ _) (lr _)) ?_
   refine dr_ev rfl (ev_mv (v := .raw _) (lr _)) ?_
   refine dr_ev rfl (ev_index_map sl57 (lr _) (lr _) rfl (by omega)) ?_
   refine dr_ev rfl (ev_load_i (lr _) ty92 rfl) ?_
   refine dr_ev rfl (ev_neq (lr _) (lr _)) ?_
   refine dr_end (sq_nil ?_)
   refine aw_cond (lr _) (fun c3 => ?_) (fun c3 => ?_)
   ·
    have c3' := c3
    try simp only [qq] at c3'
    refine aw_seq (aw_region ?_)
    refine asr (lr _) rfl ?_
    refine sq_nil (aw_ret ?_)
    exact retQ_pure (v := .raw _) rfl rfl (Less.eq (by rw [← same_okAll hlen, okAll_bad (i := k) (by omega) (by first | (simp [sameBad, *]; done) | (simp_all [sameBad]; done))]))
   ·
    have c3' := c3
    try simp only [qq] at c3'
    refine aw_skip (aw_region ?_)
    refine mvr (lr _) rfl ?_
    refine sq_ev rfl (ev_add (lr _) (lr _) (wr (by omega) (by omega))) ?_
    refine asr (lr _) rfl ?_
    refine sq_nil ?_
    have hgood : sameBad a b hlen k (by omega) = false := by first | (simp [sameBad, *]; done) | (simp_all [sameBad]; done)
    exact ⟨⟨k + 1, by omega, fun i h hi => (by by_cases e : i = k; (subst e; exact hgood); exact hok i h (by omega))⟩, by simp only; omega, Sub.slots ⟨lr _, lr _, lr _, trivial⟩⟩
  ·
   have c2' := c2
   try simp only [qq] at c2'
   refine aw_exit (aw_seq (aw_region ?_))
   refine asr (lr _) rfl ?_
   refine sq_nil (aw_ret ?_)
   exact retQ_pure (v := .raw _) rfl rfl (Less.eq (by rw [← same_okAll hlen, okAll_end hk c2' hok]))

end Go.Proofs.YtjghdbdiejaacaaGreatDoor

namespace Go.Proofs.YtjghdbdiejaacaaGreatDoor
open Go Go.Ab Ni
theorem en22 : Ent Tryz.prog 22 := Ent.of Tryz.func22 (by kernel_rfl) rfl
theorem en23 : Ent Tryz.prog 23 := Ent.of Tryz.func23 (by kernel_rfl) rfl
theorem en26 : Ent Tryz.prog 26 := Ent.of Tryz.func26 (by kernel_rfl) rfl
theorem en29 : Ent Tryz.prog 29 := Ent.of Tryz.func29 (by kernel_rfl) rfl
theorem en30 : Ent Tryz.prog 30 := Ent.of Tryz.func30 (by kernel_rfl) rfl
theorem en31 : Ent Tryz.prog 31 := Ent.of Tryz.func31 (by kernel_rfl) rfl
theorem en33 : Ent Tryz.prog 33 := Ent.of Tryz.func33 (by kernel_rfl) rfl
theorem en42 : Ent Tryz.prog 42 := Ent.of Tryz.func42 (by kernel_rfl) rfl
theorem en43 : Ent Tryz.prog 43 := Ent.of Tryz.func43 (by kernel_rfl) rfl
theorem en46 : Ent Tryz.prog 46 := Ent.of Tryz.func46 (by kernel_rfl) rfl
theorem en51 : Ent Tryz.prog 51 := Ent.of Tryz.func51 (by kernel_rfl) rfl
theorem en52 : Ent Tryz.prog 52 := Ent.of Tryz.func52 (by kernel_rfl) rfl
theorem en64 : Ent Tryz.prog 64 := Ent.of Tryz.func64 (by kernel_rfl) rfl
theorem en66 : Ent Tryz.prog 66 := Ent.of Tryz.func66 (by kernel_rfl) rfl
theorem en70 : Ent Tryz.prog 70 := Ent.of Tryz.func70 (by kernel_rfl) rfl
theorem en84 : Ent Tryz.prog 84 := Ent.of Tryz.func84 (by kernel_rfl) rfl

theorem e_ok : PlOK p0 = true := by decide +kernel
theorem e_ch : choicesC p0 = [[0, 1, 2, 4]] := by decide +kernel
theorem e_first : firstL p0 [0, 1, 2, 4] = [40, 20, 60, 60] := by decide +kernel
theorem e_times : overR p0 1 (begC p0) = ((40, 50), 0) := by decide +kernel
theorem e_lens : overR p0 4 (longC p0) = ((55, 70), 0) := by decide +kernel
theorem e_ends : endsT p0 3 = [(60, 70), (120, 130), (180, 200)] := by decide +kernel
theorem e_words : wordsT p0 5 = [3, 3, 3, 1, 3] := by decide +kernel
theorem e_chosen : chosenB p0 [0, 1, 2, 4] = true := by decide +kernel
theorem e_sure : sureP p0 (dn [0, 1, 2, 4]) = false := by decide +kernel
theorem e_miss : missed p0 = some [60, 120, 191] := by decide +kernel
theorem e_chosen2 : chosenB p0 [0, 1, 2, 3, 4] = true := by decide +kernel
theorem e_can2 : canP p0 (dn [0, 1, 2, 3, 4]) = false := by decide +kernel
theorem e_fk : fk p0 (dn [0, 1, 2, 3, 4]) = 1 := by decide +kernel
theorem e_ff : ff p0 (dn [0, 1, 2, 3, 4]) = 2 := by decide +kernel
theorem e_lg : lgR q0 4 = (10, 0) := by decide +kernel
abbrev text0 : List UInt8 := [110, 105, 103, 104, 116, 32, 48, 32, 48, 32, 49, 32, 48, 32, 49, 32, 48, 32, 49, 10, 115, 99, 101, 110, 101, 32, 48, 32, 49, 32, 49, 32, 45, 10, 101, 110, 100, 32, 48, 51, 53, 10]
abbrev x0 : Pl := ⟨0, 0, 1, 0, 1, 0, 1, [⟨0, 1, 1, false, -1⟩]⟩
theorem e_parse0 : parse0 text0 = some x0 := by decide +kernel
theorem e_sheet : sheetL x0 = text0 := by decide +kernel
theorem e_parse : parseL text0 = some x0 := by unfold parseL; rw [e_parse0]; simp only; rw [if_pos e_sheet]
theorem e_okx : PlOK x0 = true := by decide +kernel
theorem e_len : ¬ 300 < text0.length := by decide
theorem k22 : APure Tryz.prog 22 [plan p0] (.tup [natss [[0, 1, 2, 4]], I 0]) := by
  have h := nChoices_pure p0 (by decide)
  rw [if_pos e_ok, e_ch] at h; exact h
theorem k23 : APure Tryz.prog 23 [plan p0] (.tup [nats [0, 1, 2, 4], ints [40, 20, 60, 60], I 0]) := by
  have h := nProgramme_pure p0 (by decide)
  unfold progAV at h
  rw [if_pos e_ok, e_ch] at h; simp only at h; rw [e_first] at h; exact h
theorem k29 : APure Tryz.prog 29 [plan p0, I 1] (.tup [.agg [I 40, I 50], I 0]) := by
  have h := nTimes_pure p0 1 (by decide)
  rw [overAV, e_times] at h; exact h
theorem k30 : APure Tryz.prog 30 [plan p0, I 4] (.tup [.agg [I 55, I 70], I 0]) := by
  have h := nLengths_pure p0 4 (by decide)
  rw [overAV, e_lens] at h; exact h
theorem k31 : APure Tryz.prog 31 [plan p0] (.tup [spans [(60, 70), (120, 130), (180, 200)], I 0]) := by
  have h := nEnds_pure p0 (by decide)
  unfold endsAV at h
  rw [if_pos e_ok, e_ch, if_neg (by decide), e_ends] at h; exact h
theorem k42 : APure Tryz.prog 42 [plan p0] (.tup [ints [3, 3, 3, 1, 3], I 0]) := by
  have h := nPlayed_pure p0 (by decide)
  unfold playedAV at h
  rw [if_pos e_ok, e_ch, if_neg (by decide), show p0.scenes.length = 5 from rfl, e_words] at h; exact h
theorem k64 : APure Tryz.prog 64 [plan p0, ints [0, 1, 2, 4]] (.tup [B false, I 0]) := by
  have h := nSure_pure p0 [0, 1, 2, 4] (by decide) (by decide)
  unfold sureAV at h
  rw [if_pos e_chosen, e_sure] at h; exact h
theorem k66 : APure Tryz.prog 66 [plan p0] (.tup [ints [60, 120, 191], I 0]) := by
  have h := nMisses_pure p0 (by decide)
  unfold missAV at h
  rw [if_pos e_ok, e_miss] at h; exact h
theorem k46 : APure Tryz.prog 46 [plan p0, ints [0, 1, 2, 3, 4]] (.tup [I 1, I 2, I 0]) := by
  have h := nFails_pure p0 [0, 1, 2, 3, 4] (by decide) (by decide)
  unfold failsAV at h
  rw [if_pos e_chosen2, e_can2, if_neg (by decide), e_fk, e_ff] at h; exact h
theorem k70 : APure Tryz.prog 70 [plan q0, I 4] (.tup [I 10, I 0]) := by
  have h := nLonger_pure q0 4 (by decide)
  rw [e_lg] at h; exact h
theorem k51 : APure Tryz.prog 51 [S text0] (.tup [plan x0, I 0]) := by
  have h := nRead_pure text0
  unfold readAV at h
  rw [if_neg e_len, e_parse] at h; simp only at h; rw [if_pos e_okx] at h; exact h
theorem k52 : APure Tryz.prog 52 [plan x0] (S text0) := by
  have h := rprint_pure x0 ⟨by decide, by decide, by decide⟩ ⟨by decide, by decide⟩
  rw [e_sheet] at h; exact h
set_option maxHeartbeats 4000000 in
/-- kelir/kelirlaw03.known -/
theorem known_pure  : APure Tryz.prog 21 [] (B true) := by
  refine apure_of (rs := [.tmp 0]) Tryz.func21 rfl rfl (Nat.le_of_ble_eq_true rfl) (by simp [AV.pureL, AV.pureB, AV.pureE, pureE_map]) (rfl) fun e0 he0 => ?_
  refine aw_seq (aw_region ?_)
  refine asr (lr _) rfl ?_
  refine sq_nil (aw_seq (aw_region ?_))
  refine sq_ev rfl (ev_call en83 (lr _) (rP_pure) trivial) ?_
  refine sq_ev rfl (ev_call en22 (lr _) (k22) ⟨lr _, trivial⟩) ?_
  refine sq_ev rfl (ev_mv (v := .tup _) (lr _)) ?_
  refine sq_ev rfl (ev_extract (lr _) rfl) ?_
  refine sq_ev rfl (ev_extract (lr _) rfl) ?_
  refine sq_ev rfl (ev_as (v := .sl _ _) (lr _)) ?_
  refine asr (lr _) rfl ?_
  refine sq_nil (aw_seq (aw_region ?_))
  refine sq_ev rfl (ev_call en83 (lr _) (rP_pure) trivial) ?_
  refine sq_ev rfl (ev_call en23 (lr _) (k23) ⟨lr _, trivial⟩) ?_
  refine sq_ev rfl (ev_mv (v := .tup _) (lr _)) ?_
  refine sq_ev rfl (ev_extract (lr _) rfl) ?_
  refine sq_ev rfl (ev_extract (lr _) rfl) ?_
  refine sq_ev rfl (ev_extract (lr _) rfl) ?_
  refine sq_ev rfl (ev_as (v := .sl _ _) (lr _)) ?_
  refine sq_ev rfl (ev_as (v := .sl _ _) (lr _)) ?_
  refine asr (lr _) rfl ?_
  refine sq_nil (aw_seq (aw_region ?_))
  refine sq_ev rfl (ev_call en83 (lr _) (rP_pure) trivial) ?_
  refine sq_ev rfl (ev_call en29 (lr _) (k29) ⟨lr _, lr _, trivial⟩) ?_
  refine sq_ev rfl (ev_mv (v := .tup _) (lr _)) ?_
  refine sq_ev rfl (ev_extract (lr _) rfl) ?_
  refine sq_ev rfl (ev_extract (lr _) rfl) ?_
  refine sq_alloc rfl z23 ?_
  refine sq_store rfl (lr _) (lr _) rfl rfl ty23 rfl rfl ?_
  refine asr (lr _) rfl ?_
  refine sq_nil (aw_seq (aw_region ?_))
  refine sq_ev rfl (ev_call en83 (lr _) (rP_pure) trivial) ?_
  refine sq_ev rfl (ev_call en30 (lr _) (k30) ⟨lr _, lr _, trivial⟩) ?_
  refine sq_ev rfl (ev_mv (v := .tup _) (lr _)) ?_
  refine sq_ev rfl (ev_extract (lr _) rfl) ?_
  refine sq_ev rfl (ev_extract (lr _) rfl) ?_
  refine sq_alloc rfl z23 ?_
  refine sq_store rfl (lr _) (lr _) rfl rfl ty23 rfl rfl ?_
  refine asr (lr _) rfl ?_
  refine sq_nil (aw_seq (aw_region ?_))
  refine sq_ev rfl (ev_call en83 (lr _) (rP_pure) trivial) ?_
  refine sq_ev rfl (ev_call en31 (lr _) (k31) ⟨lr _, trivial⟩) ?_
  refine sq_ev rfl (ev_mv (v := .tup _) (lr _)) ?_
  refine sq_ev rfl (ev_extract (lr _) rfl) ?_
  refine sq_ev rfl (ev_extract (lr _) rfl) ?_
  refine sq_ev rfl (ev_as (v := .sl _ _) (lr _)) ?_
  refine asr (lr _) rfl ?_
  refine sq_nil (aw_seq (aw_region ?_))
  refine sq_ev rfl (ev_call en83 (lr _) (rP_pure) trivial) ?_
  refine sq_ev rfl (ev_call en42 (lr _) (k42) ⟨lr _, trivial⟩) ?_
  refine sq_ev rfl (ev_mv (v := .tup _) (lr _)) ?_
  refine sq_ev rfl (ev_extract (lr _) rfl) ?_
  refine sq_ev rfl (ev_extract (lr _) rfl) ?_
  refine sq_ev rfl (ev_as (v := .sl _ _) (lr _)) ?_
  refine asr (lr _) rfl ?_
  refine sq_nil (aw_seq (aw_region ?_))
  refine sq_ev rfl (ev_call en83 (lr _) (rP_pure) trivial) ?_
  refine sq_ev rfl (ev_buildSlice (es := [[_], [_], [_], [_]]) sf34 rfl rfl rfl rfl) ?_
  refine sq_ev rfl (ev_call en64 (lr _) (k64) ⟨lr _, less_slx _ _, trivial⟩) ?_
  refine sq_ev rfl (ev_mv (v := .tup _) (lr _)) ?_
  refine sq_ev rfl (ev_extract (lr _) rfl) ?_
  refine sq_ev rfl (ev_extract (lr _) rfl) ?_
  refine asr (lr _) rfl ?_
  refine asr (lr _) rfl ?_
  refine sq_nil (aw_seq (aw_region ?_))
  refine sq_ev rfl (ev_call en83 (lr _) (rP_pure) trivial) ?_
  refine sq_ev rfl (ev_call en66 (lr _) (k66) ⟨lr _, trivial⟩) ?_
  refine sq_ev rfl (ev_mv (v := .tup _) (lr _)) ?_
  refine sq_ev rfl (ev_extract (lr _) rfl) ?_
  refine sq_ev rfl (ev_extract (lr _) rfl) ?_
  refine sq_ev rfl (ev_as (v := .sl _ _) (lr _)) ?_
  refine asr (lr _) rfl ?_
  refine sq_nil (aw_seq (aw_region ?_))
  refine sq_ev rfl (ev_call en83 (lr _) (rP_pure) trivial) ?_
  refine sq_ev rfl (ev_buildSlice (es := [[_], [_], [_], [_], [_]]) sf34 rfl rfl rfl rfl) ?_
  refine sq_ev rfl (ev_call en46 (lr _) (k46) ⟨lr _, less_slx _ _, trivial⟩) ?_
  refine sq_ev rfl (ev_mv (v := .tup _) (lr _)) ?_
  refine sq_ev rfl (ev_extract (lr _) rfl) ?_
  refine sq_ev rfl (ev_extract (lr _) rfl) ?_
  refine sq_ev rfl (ev_extract (lr _) rfl) ?_
  refine asr (lr _) rfl ?_
  refine asr (lr _) rfl ?_
  refine asr (lr _) rfl ?_
  refine sq_nil (aw_seq (aw_region ?_))
  refine sq_ev rfl (ev_call en84 (lr _) (rQ_pure) trivial) ?_
  refine sq_ev rfl (ev_call en70 (lr _) (k70) ⟨lr _, lr _, trivial⟩) ?_
  refine sq_ev rfl (ev_mv (v := .tup _) (lr _)) ?_
  refine sq_ev rfl (ev_extract (lr _) rfl) ?_
  refine sq_ev rfl (ev_extract (lr _) rfl) ?_
  refine asr (lr _) rfl ?_
  refine asr (lr _) rfl ?_
  refine sq_nil (aw_seq (aw_region ?_))
  refine sq_ev rfl (ev_call en51 (lr _) (k51) ⟨lr _, trivial⟩) ?_
  refine sq_ev rfl (ev_mv (v := .tup _) (lr _)) ?_
  refine sq_ev rfl (ev_extract (lr _) rfl) ?_
  refine sq_ev rfl (ev_extract (lr _) rfl) ?_
  refine sq_alloc rfl z27 ?_
  refine sq_store rfl (lr _) (lr _) rfl rfl ty27 rfl rfl ?_
  refine asr (lr _) rfl ?_
  refine sq_nil (aw_seq (aw_seq (aw_region ?_)))
  refine mvr (lr _) rfl ?_
  refine sq_ev rfl (ev_neq (lr _) (lr _)) ?_
  refine mvr (lr _) rfl ?_
  refine sq_split 86 (lr _) (fun g1 => ?_) (fun g1 => ?_)
  · skip
    have g1' := g1
    try simp only [qq] at g1'
    exact absurd g1 (by decide)
  · skip
    have g1' := g1
    try simp only [qq] at g1'
    refine sq_yes rfl rfl (less_b g1) rfl (ev_mv (v := .raw _) (lr _)) ?_
    refine sq_yes rfl rfl (less_b g1) rfl (ev_neq (lr _) (lr _)) ?_
    refine sq_ev rfl (ev_pickF (v := .raw _) (less_b g1) (lr _)) ?_
    refine mvr (lr _) rfl ?_
    refine sq_split 90 (lr _) (fun g2 => ?_) (fun g2 => ?_)
    · skip
      have g2' := g2
      try simp only [qq] at g2'
      exact absurd g2 (by decide)
    · skip
      have g2' := g2
      try simp only [qq] at g2'
      refine sq_yes rfl rfl (less_b g2) rfl (ev_mv (v := .raw _) (lr _)) ?_
      refine sq_yes rfl rfl (less_b g2) rfl (ev_neq (lr _) (lr _)) ?_
      refine sq_ev rfl (ev_pickF (v := .raw _) (less_b g2) (lr _)) ?_
      refine mvr (lr _) rfl ?_
      refine sq_split 94 (lr _) (fun g3 => ?_) (fun g3 => ?_)
      · skip
        have g3' := g3
        try simp only [qq] at g3'
        exact absurd g3 (by decide)
      · skip
        have g3' := g3
        try simp only [qq] at g3'
        refine sq_yes rfl rfl (less_b g3) rfl (ev_mv (v := .raw _) (lr _)) ?_
        refine sq_yes rfl rfl (less_b g3) rfl (ev_neq (lr _) (lr _)) ?_
        refine sq_ev rfl (ev_pickF (v := .raw _) (less_b g3) (lr _)) ?_
        refine mvr (lr _) rfl ?_
        refine sq_split 98 (lr _) (fun g4 => ?_) (fun g4 => ?_)
        · skip
          have g4' := g4
          try simp only [qq] at g4'
          exact absurd g4 (by decide)
        · skip
          have g4' := g4
          try simp only [qq] at g4'
          refine sq_yes rfl rfl (less_b g4) rfl (ev_mv (v := .raw _) (lr _)) ?_
          refine sq_yes rfl rfl (less_b g4) rfl (ev_neq (lr _) (lr _)) ?_
          refine sq_ev rfl (ev_pickF (v := .raw _) (less_b g4) (lr _)) ?_
          refine mvr (lr _) rfl ?_
          refine sq_split 102 (lr _) (fun g5 => ?_) (fun g5 => ?_)
          · skip
            have g5' := g5
            try simp only [qq] at g5'
            exact absurd g5 (by decide)
          · skip
            have g5' := g5
            try simp only [qq] at g5'
            refine sq_yes rfl rfl (less_b g5) rfl (ev_mv (v := .raw _) (lr _)) ?_
            refine sq_yes rfl rfl (less_b g5) rfl (ev_neq (lr _) (lr _)) ?_
            refine sq_ev rfl (ev_pickF (v := .raw _) (less_b g5) (lr _)) ?_
            refine mvr (lr _) rfl ?_
            refine sq_split 106 (lr _) (fun g6 => ?_) (fun g6 => ?_)
            · skip
              have g6' := g6
              try simp only [qq] at g6'
              exact absurd g6 (by decide)
            · skip
              have g6' := g6
              try simp only [qq] at g6'
              refine sq_yes rfl rfl (less_b g6) rfl (ev_mv (v := .raw _) (lr _)) ?_
              refine sq_yes rfl rfl (less_b g6) rfl (ev_neq (lr _) (lr _)) ?_
              refine sq_ev rfl (ev_pickF (v := .raw _) (less_b g6) (lr _)) ?_
              refine mvr (lr _) rfl ?_
              refine sq_split 110 (lr _) (fun g7 => ?_) (fun g7 => ?_)
              · skip
                have g7' := g7
                try simp only [qq] at g7'
                exact absurd g7 (by decide)
              · skip
                have g7' := g7
                try simp only [qq] at g7'
                refine sq_yes rfl rfl (less_b g7) rfl (ev_mv (v := .raw _) (lr _)) ?_
                refine sq_yes rfl rfl (less_b g7) rfl (ev_neq (lr _) (lr _)) ?_
                refine sq_ev rfl (ev_pickF (v := .raw _) (less_b g7) (lr _)) ?_
                refine mvr (lr _) rfl ?_
                refine sq_split 114 (lr _) (fun g8 => ?_) (fun g8 => ?_)
                · skip
                  have g8' := g8
                  try simp only [qq] at g8'
                  exact absurd g8 (by decide)
                · skip
                  have g8' := g8
                  try simp only [qq] at g8'
                  refine sq_yes rfl rfl (less_b g8) rfl (ev_mv (v := .raw _) (lr _)) ?_
                  refine sq_yes rfl rfl (less_b g8) rfl (ev_neq (lr _) (lr _)) ?_
                  refine sq_ev rfl (ev_pickF (v := .raw _) (less_b g8) (lr _)) ?_
                  refine mvr (lr _) rfl ?_
                  refine sq_split 118 (lr _) (fun g9 => ?_) (fun g9 => ?_)
                  · skip
                    have g9' := g9
                    try simp only [qq] at g9'
                    exact absurd g9 (by decide)
                  · skip
                    have g9' := g9
                    try simp only [qq] at g9'
                    refine sq_yes rfl rfl (less_b g9) rfl (ev_mv (v := .raw _) (lr _)) ?_
                    refine sq_yes rfl rfl (less_b g9) rfl (ev_neq (lr _) (lr _)) ?_
                    refine sq_ev rfl (ev_pickF (v := .raw _) (less_b g9) (lr _)) ?_
                    refine mvr (lr _) rfl ?_
                    refine sq_split 122 (lr _) (fun g10 => ?_) (fun g10 => ?_)
                    · skip
                      have g10' := g10
                      try simp only [qq] at g10'
                      exact absurd g10 (by decide)
                    · skip
                      have g10' := g10
                      try simp only [qq] at g10'
                      refine sq_yes rfl rfl (less_b g10) rfl (ev_mv (v := .raw _) (lr _)) ?_
                      refine sq_yes rfl rfl (less_b g10) rfl (ev_neq (lr _) (lr _)) ?_
                      refine sq_ev rfl (ev_pickF (v := .raw _) (less_b g10) (lr _)) ?_
                      refine sq_nil ?_
                      refine aw_cond (lr _) (fun c11 => ?_) (fun c11 => ?_)
                      · skip
                        have c11' := c11
                        try simp only [qq] at c11'
                        exact absurd c11 (by decide)
                      · skip
                        have c11' := c11
                        try simp only [qq] at c11'
                        refine aw_skip (aw_seq (aw_seq ?_))
                        refine aw_draw 36 mo (by kernel_rfl) ?_
                        refine dr_ev rfl (ev_mv (v := .sl _ _) (lr _)) ?_
                        refine dr_ev rfl (ev_less (ev_buildSlice (es := [[_], [_], [_], [_]]) sf34 rfl rfl rfl rfl) (less_slx _ _)) ?_
                        refine dr_ev rfl (ev_buildSlice (es := [[_]]) sf30 rfl rfl rfl rfl) ?_
                        refine dr_ev rfl (ev_call en26 (lr _) (sames_pure [[0, 1, 2, 4]] [[0, 1, 2, 4]] (by decide) (by decide) (by decide) (by decide)) ⟨lr _, less_slx _ _, trivial⟩) ?_
                        refine dr_ev rfl (ev_not (lr _)) ?_
                        refine dr_ev rfl (ev_mv (v := .raw _) (lr _)) ?_
                        refine dr_split 131 (lr _) (fun g12 => ?_) (fun g12 => ?_)
                        · skip
                          have g12' := g12
                          try simp only [qq] at g12'
                          exact absurd g12 (by decide)
                        · skip
                          have g12' := g12
                          try simp only [qq] at g12'
                          refine dr_yes rfl rfl (less_b g12) rfl (ev_mv (v := .sl _ _) (lr _)) ?_
                          refine dr_yes rfl rfl (less_b g12) rfl (ev_buildSlice (es := [[_], [_], [_], [_]]) sf34 rfl rfl rfl rfl) ?_
                          refine dr_yes rfl rfl (less_b g12) rfl (ev_call en27 (lr _) (same_pureN [0, 1, 2, 4] [0, 1, 2, 4] (by decide) (by decide)) ⟨lr _, less_slx _ _, trivial⟩) ?_
                          refine dr_yes rfl rfl (less_b g12) rfl (ev_not (lr _)) ?_
                          refine dr_ev rfl (ev_pickF (v := .raw _) (less_b g12) (lr _)) ?_
                          refine dr_ev rfl (ev_mv (v := .raw _) (lr _)) ?_
                          refine dr_split 137 (lr _) (fun g13 => ?_) (fun g13 => ?_)
                          · skip
                            have g13' := g13
                            try simp only [qq] at g13'
                            exact absurd g13 (by decide)
                          · skip
                            have g13' := g13
                            try simp only [qq] at g13'
                            refine dr_yes rfl rfl (less_b g13) rfl (ev_mv (v := .sl _ _) (lr _)) ?_
                            refine dr_yes rfl rfl (less_b g13) rfl (ev_buildSlice (es := [[_], [_], [_], [_]]) sf34 rfl rfl rfl rfl) ?_
                            refine dr_yes rfl rfl (less_b g13) rfl (ev_call en27 (lr _) (same_pure [40, 20, 60, 60] [40, 20, 60, 60] (by decide) (by decide)) ⟨lr _, less_slx _ _, trivial⟩) ?_
                            refine dr_yes rfl rfl (less_b g13) rfl (ev_not (lr _)) ?_
                            refine dr_ev rfl (ev_pickF (v := .raw _) (less_b g13) (lr _)) ?_
                            refine dr_ev rfl (ev_mv (v := .raw _) (lr _)) ?_
                            refine dr_split 143 (lr _) (fun g14 => ?_) (fun g14 => ?_)
                            · skip
                              have g14' := g14
                              try simp only [qq] at g14'
                              exact absurd g14 (by decide)
                            · skip
                              have g14' := g14
                              try simp only [qq] at g14'
                              refine dr_yes rfl rfl (less_b g14) rfl (ev_load_agg (lr _) rfl ty23 rfl) ?_
                              refine dr_yes rfl rfl (less_b g14) rfl (ev_call en41 (lr _) (rspan_pure _ _) ⟨lr _, lr _, trivial⟩) ?_
                              refine dr_yes rfl rfl (less_b g14) rfl (ev_span_neq (lr _) (lr _)) ?_
                              refine dr_ev rfl (ev_pickF (v := .raw _) (less_b g14) (lr _)) ?_
                              refine dr_ev rfl (ev_mv (v := .raw _) (lr _)) ?_
                              refine dr_split 148 (lr _) (fun g15 => ?_) (fun g15 => ?_)
                              · skip
                                have g15' := g15
                                try simp only [qq] at g15'
                                exact absurd g15 (by decide)
                              · skip
                                have g15' := g15
                                try simp only [qq] at g15'
                                refine dr_yes rfl rfl (less_b g15) rfl (ev_load_agg (lr _) rfl ty23 rfl) ?_
                                refine dr_yes rfl rfl (less_b g15) rfl (ev_call en41 (lr _) (rspan_pure _ _) ⟨lr _, lr _, trivial⟩) ?_
                                refine dr_yes rfl rfl (less_b g15) rfl (ev_span_neq (lr _) (lr _)) ?_
                                refine dr_ev rfl (ev_pickF (v := .raw _) (less_b g15) (lr _)) ?_
                                refine dr_ev rfl (ev_mv (v := .raw _) (lr _)) ?_
                                refine dr_split 153 (lr _) (fun g16 => ?_) (fun g16 => ?_)
                                · skip
                                  have g16' := g16
                                  try simp only [qq] at g16'
                                  exact absurd g16 (by decide)
                                · skip
                                  have g16' := g16
                                  try simp only [qq] at g16'
                                  refine dr_yes rfl rfl (less_b g16) rfl (ev_mv (v := .sl _ _) (lr _)) ?_
                                  refine dr_yes rfl rfl (less_b g16) rfl (ev_call en41 (lr _) (rspan_pure _ _) ⟨lr _, lr _, trivial⟩) ?_
                                  refine dr_yes rfl rfl (less_b g16) rfl (ev_call en41 (lr _) (rspan_pure _ _) ⟨lr _, lr _, trivial⟩) ?_
                                  refine dr_yes rfl rfl (less_b g16) rfl (ev_call en41 (lr _) (rspan_pure _ _) ⟨lr _, lr _, trivial⟩) ?_
                                  refine dr_yes rfl rfl (less_b g16) rfl (ev_buildSlice (es := [[_, _], [_, _], [_, _]]) sf43 rfl rfl rfl rfl) ?_
                                  refine dr_yes rfl rfl (less_b g16) rfl (ev_call en33 (lr _) (rspans_pure [(60, 70), (120, 130), (180, 200)] [(60, 70), (120, 130), (180, 200)] (by decide) (by decide)) ⟨lr _, less_slx _ _, trivial⟩) ?_
                                  refine dr_yes rfl rfl (less_b g16) rfl (ev_not (lr _)) ?_
                                  refine dr_ev rfl (ev_pickF (v := .raw _) (less_b g16) (lr _)) ?_
                                  refine dr_end (sq_nil ?_)
                                  refine aw_cond (lr _) (fun c17 => ?_) (fun c17 => ?_)
                                  · skip
                                    have c17' := c17
                                    try simp only [qq] at c17'
                                    exact absurd c17 (by decide)
                                  · skip
                                    have c17' := c17
                                    try simp only [qq] at c17'
                                    refine aw_skip (aw_seq (aw_region ?_))
                                    refine asr (lr _) rfl ?_
                                    refine sq_nil (aw_seq (aw_seq (aw_region ?_)))
                                    refine sq_ev rfl (ev_mv (v := .sl _ _) (lr _)) ?_
                                    refine mvr (lr _) rfl ?_
                                    refine mvr (lr _) rfl ?_
                                    refine mvr (lr _) rfl ?_
                                    refine mvr (lr _) rfl ?_
                                    refine sq_ev rfl (ev_buildSlice (es := [[_], [_], [_], [_], [_]]) sf57 rfl rfl rfl rfl) ?_
                                    refine sq_ev rfl (ev_call en43 (lr _) (rwords_pure [3, 3, 3, 1, 3] [3, 3, 3, 1, 3] (by decide) (by decide)) ⟨lr _, less_slx _ _, trivial⟩) ?_
                                    refine sq_ev rfl (ev_not (lr _)) ?_
                                    refine mvr (lr _) rfl ?_
                                    refine sq_split 170 (lr _) (fun g18 => ?_) (fun g18 => ?_)
                                    · skip
                                      have g18' := g18
                                      try simp only [qq] at g18'
                                      exact absurd g18 (by decide)
                                    · skip
                                      have g18' := g18
                                      try simp only [qq] at g18'
                                      refine sq_yes rfl rfl (less_b g18) rfl (ev_mv (v := .raw _) (lr _)) ?_
                                      refine sq_ev rfl (ev_pickF (v := .raw _) (less_b g18) (lr _)) ?_
                                      refine mvr (lr _) rfl ?_
                                      refine sq_split 173 (lr _) (fun g19 => ?_) (fun g19 => ?_)
                                      · skip
                                        have g19' := g19
                                        try simp only [qq] at g19'
                                        exact absurd g19 (by decide)
                                      · skip
                                        have g19' := g19
                                        try simp only [qq] at g19'
                                        refine sq_yes rfl rfl (less_b g19) rfl (ev_mv (v := .sl _ _) (lr _)) ?_
                                        refine sq_yes rfl rfl (less_b g19) rfl (ev_buildSlice (es := [[_], [_], [_]]) sf34 rfl rfl rfl rfl) ?_
                                        refine sq_yes rfl rfl (less_b g19) rfl (ev_call en27 (lr _) (same_pure [60, 120, 191] [60, 120, 191] (by decide) (by decide)) ⟨lr _, less_slx _ _, trivial⟩) ?_
                                        refine sq_yes rfl rfl (less_b g19) rfl (ev_not (lr _)) ?_
                                        refine sq_ev rfl (ev_pickF (v := .raw _) (less_b g19) (lr _)) ?_
                                        refine mvr (lr _) rfl ?_
                                        refine sq_split 179 (lr _) (fun g20 => ?_) (fun g20 => ?_)
                                        · skip
                                          have g20' := g20
                                          try simp only [qq] at g20'
                                          exact absurd g20 (by decide)
                                        · skip
                                          have g20' := g20
                                          try simp only [qq] at g20'
                                          refine sq_yes rfl rfl (less_b g20) rfl (ev_mv (v := .raw _) (lr _)) ?_
                                          refine sq_yes rfl rfl (less_b g20) rfl (ev_neq (lr _) (lr _)) ?_
                                          refine sq_ev rfl (ev_pickF (v := .raw _) (less_b g20) (lr _)) ?_
                                          refine mvr (lr _) rfl ?_
                                          refine sq_split 183 (lr _) (fun g21 => ?_) (fun g21 => ?_)
                                          · skip
                                            have g21' := g21
                                            try simp only [qq] at g21'
                                            exact absurd g21 (by decide)
                                          · skip
                                            have g21' := g21
                                            try simp only [qq] at g21'
                                            refine sq_yes rfl rfl (less_b g21) rfl (ev_mv (v := .raw _) (lr _)) ?_
                                            refine sq_yes rfl rfl (less_b g21) rfl (ev_neq (lr _) (lr _)) ?_
                                            refine sq_ev rfl (ev_pickF (v := .raw _) (less_b g21) (lr _)) ?_
                                            refine sq_nil ?_
                                            refine aw_cond (lr _) (fun c22 => ?_) (fun c22 => ?_)
                                            · skip
                                              have c22' := c22
                                              try simp only [qq] at c22'
                                              exact absurd c22 (by decide)
                                            · skip
                                              have c22' := c22
                                              try simp only [qq] at c22'
                                              refine aw_skip (aw_seq (aw_region ?_))
                                              refine mvr (lr _) rfl ?_
                                              refine sq_ev rfl (ev_eql (lr _) (lr _)) ?_
                                              refine mvr (lr _) rfl ?_
                                              refine sq_split 189 (lr _) (fun g23 => ?_) (fun g23 => ?_)
                                              · skip
                                                have g23' := g23
                                                try simp only [qq] at g23'
                                                refine sq_yes rfl rfl (less_b g23) rfl (ev_load_agg (lr _) rfl ty27 rfl) ?_
                                                refine sq_yes rfl rfl (less_b g23) rfl (ev_call en52 (lr _) (k52) ⟨lr _, trivial⟩) ?_
                                                refine sq_yes rfl rfl (less_b g23) rfl (ev_seqS (lr _) (lr _)) ?_
                                                refine sq_ev rfl (ev_pickT (v := .raw _) (less_b g23) (lr _)) ?_
                                                refine asr (lr _) rfl ?_
                                                refine sq_nil (aw_ret ?_)
                                                exact retQ_pure (v := .raw _) rfl rfl (Less.eq (by simp))
                                              · skip
                                                have g23' := g23
                                                try simp only [qq] at g23'
                                                exact absurd g23 (by decide)


end Go.Proofs.YtjghdbdiejaacaaGreatDoor

namespace Go.Proofs.YtjghdbdiejaacaaGreatDoor
open Go Go.Ab Ni
def eV (p : Pl) (k : Nat) (h : Hr) : Int × Int := ((prH p h k).2, (prH p h k).2)
def hL (p : Pl) (i : Nat) : List Hr := ((choicesC p).take i).flatMap (hrs p)
end Go.Proofs.YtjghdbdiejaacaaGreatDoor

namespace Go.Proofs.YtjghdbdiejaacaaGreatDoor
open Go Go.Ab Ni
theorem z4 : zeroOf Tryz.prog 4 = some [.raw (.bool false)] := by kernel_rfl

end Go.Proofs.YtjghdbdiejaacaaGreatDoor

namespace Go.Proofs.YtjghdbdiejaacaaGreatDoor
open Go Go.Ab Ni


theorem win_bd {p : Pl} (ok : PlOK p = true) {k : Nat} (hk : k < 3) : 0 ≤ wl p k ∧ wl p k ≤ 900 ∧ 0 ≤ wh p k ∧ wh p k ≤ 900 := by
  simp only [PlOK, wnd, inn, Bool.and_eq_true, decide_eq_true_eq] at ok
  rcases k with _ | _ | _ | k
  · simp only [wl, wh]; simp; omega
  · simp only [wl, wh]; simp; omega
  · simp only [wl, wh]; simp; omega
  · omega
end Go.Proofs.YtjghdbdiejaacaaGreatDoor
