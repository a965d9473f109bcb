/-
  A part of the proof: conditions: none beyond each theorem's own.
-/
import Derived.Test.YtmbknoaneglilaaGreatDoorWalkE
import Derived.Test.YtmbknoaneglilaaGreatDoorLogicD
import Derived.Test.YtmbknoaneglilaaGreatDoorShelf
import Derived.Test.YtmbknoaneglilaaGreatDoorSpecA
set_option linter.all false
set_option maxHeartbeats 8000000
namespace Go.Proofs.YtmbknoaneglilaaGreatDoor
open Go Go.Ab Ni Ol
theorem ar233 : arrElem Tryz.prog 233 = some (2, 9, 1) := by kernel_rfl
theorem bi233 : bldInfo Tryz.prog 233 = some ([.raw (.string ByteArray.empty), .raw (.string ByteArray.empty)], false, [], 1) := by kernel_rfl
theorem en158 : Ent Tryz.prog 158 := Ent.of Tryz.func158 (by kernel_rfl) rfl
theorem en159 : Ent Tryz.prog 159 := Ent.of Tryz.func159 (by kernel_rfl) rfl
theorem en181 : Ent Tryz.prog 181 := Ent.of Tryz.func181 (by kernel_rfl) rfl
theorem en182 : Ent Tryz.prog 182 := Ent.of Tryz.func182 (by kernel_rfl) rfl
theorem en236 : Ent Tryz.prog 236 := Ent.of Tryz.func236 (by kernel_rfl) rfl
theorem en237 : Ent Tryz.prog 237 := Ent.of Tryz.func237 (by kernel_rfl) rfl
theorem fo208_0 : fOff Tryz.prog 208 0 = some (0, 23) := by kernel_rfl
theorem fo211_0 : fOff Tryz.prog 211 0 = some (0, 26) := by kernel_rfl
theorem mt208 : methOf Tryz.prog 208 "kelir/outline.words" = some 236 := by kernel_rfl
theorem mt211 : methOf Tryz.prog 211 "kelir/outline.words" = some 237 := by kernel_rfl
theorem ni211 : notIface Tryz.prog 211 = true := by kernel_rfl
theorem ty233 : tySz Tryz.prog 233 = some (true, 2) := by kernel_rfl
theorem z211 : zeroOf Tryz.prog 211 = some [.raw (.slice none 0 0)] := by kernel_rfl
theorem z233 : zeroOf Tryz.prog 233 = some [.raw (.string ByteArray.empty), .raw (.string ByteArray.empty)] := by kernel_rfl
def wStage : List UInt8 := [115, 116, 97, 103, 101]
def wFigure : List UInt8 := [102, 105, 103, 117, 114, 101]
def stL (s : Sg) : List Int := [s.wide, s.high, s.far, s.flame, s.x, s.y]
def rowW (s : Sg) : Option Fg → List (List UInt8)
  | none => (stL s).map Lib.itoa
  | some f => f
def nameW : Option Fg → List UInt8
  | none => wStage
  | some _ => wFigure
def lineO (s : Sg) (r : Option Fg) : List UInt8 := Lib.join (nameW r :: rowW s r) [32]
abbrev rowV (s : Sg) : Option Fg → AV
  | none => .ifc 208 (.agg (stC s))
  | some f => .ifc 211 (.agg [strs f])
theorem itoa_pure (n : Int) (h0 : -9223372036854775808 ≤ n) (h1 : n ≤ 9223372036854775807) : APure Tryz.prog 159 [I n] (S (Lib.itoa n)) :=
  apure_of_calls (vs := [.int .i64 n]) fun w hw => (Tryz.strconv_Itoa n h0 h1 w hw.2).mono fun _ _ ⟨h1, k, os, h2⟩ => ⟨h1, by rw [h2]; exact ⟨rfl, rfl⟩, os, by rw [h2]; rfl⟩
theorem data_list (l : List (List UInt8)) : (l.map fun r => (⟨r.toArray⟩ : ByteArray)).map (fun b => b.data.toList) = l := by
  rw [List.map_map]
  conv => rhs; rw [← List.map_id l]
  exact List.map_congr_left fun r _ => rfl
theorem join_pure (l : List (List UInt8)) (sep : List UInt8) (h1 : l.length ≤ 1000000) (h2 : (Lib.join l sep).length ≤ 1000000) : APure Tryz.prog 181 [strs l, S sep] (S (Lib.join l sep)) := by
  refine apure_of_strs (more := [.string ⟨sep.toArray⟩]) (fun hl a c w _ => ?_) fun bk o c w _ hc hb hle => ?_
  · subst hl
    refine (Tryz.strings_Join_none a c ⟨sep.toArray⟩ w).mono ?_
    rintro x w' ⟨rfl, rfl⟩
    exact ⟨rfl, Still.refl _, Nat.le_refl _, fun _ _ => rfl⟩
  · have hj : Lib.join ((l.map fun r => (⟨r.toArray⟩ : ByteArray)).map (·.data.toList)) (⟨sep.toArray⟩ : ByteArray).data.toList = Lib.join l sep := by rw [data_list]
    have := Tryz.strings_Join bk o c (l.map fun r => (⟨r.toArray⟩ : ByteArray)) ⟨sep.toArray⟩ w hc hb (by simp; omega) (by simpa using hle) (by rw [hj]; omega)
    rw [hj, List.length_map] at this
    refine this.mono ?_
    rintro x w' ⟨rfl, hB⟩
    exact ⟨rfl, ⟨hB.os, hB.output⟩, hB.size, hB.block⟩
theorem stL_sl (s : Sg) : Less (.slx 1 [[I s.wide], [I s.high], [I s.far], [I s.flame], [I s.x], [I s.y]]) (ints (stL s)) := Less.trans (less_slx _ _) (Less.eq rfl)
theorem names_pure  : APure Tryz.prog 182 [] (.agg [S wStage, S wFigure]) := by
  refine apure_of (rs := [.cell 0 233]) Tryz.func182 rfl rfl (Nat.le_of_ble_eq_true rfl) (by simp [AV.pureL, AV.pureB, AV.pureE, pureE_map]) (by first | rfl | (simp [AV.pureL, AV.pureB, AV.pureE, pureE_map])) fun e0 he0 => ?_
  refine aw_seq (aw_region ?_)
  refine sq_alloc rfl z233 ?_
  refine sq_nil (aw_seq (aw_region (sq_ev rfl (ev_build bi233 rfl) ?_)))
  refine sq_store rfl J J rfl rfl ty233 rfl rfl ?_
  refine sq_nil (aw_ret ?_)
  exact retQ_res (vs := [.agg _]) rfl rfl ⟨resVar_cell rfl rfl ty233 rfl, trivial⟩ J
theorem headw_pure (s : Sg) (hb : ∀ n ∈ stL s, -1000000 ≤ n ∧ n ≤ 1000000) : APure Tryz.prog 236 [.agg (stC s)] (strs ((stL s).map Lib.itoa)) := by
 refine apure_of (rs := [.tmp 2]) Tryz.func236 rfl rfl (Nat.le_of_ble_eq_true rfl) (by simp [AV.pureL, AV.pureB, AV.pureE, pureE_map]) (by first | rfl | (simp [AV.pureL, AV.pureB, AV.pureE, pureE_map])) fun e0 he0 => ?_
 refine aw_seq (aw_region (sq_box rfl J rfl (asr J rfl ?_)))
 refine sq_nil (aw_seq (aw_region (asr J rfl (sq_nil (aw_seq (aw_seq (aw_region (sq_ev rfl (ev_fieldAddr fo208_0 J) ?_))))))))
 refine sq_ev rfl (ev_fieldAddr fo23_0 J) ?_
 refine sq_ev rfl (ev_load J rfl ty3 rfl) ?_
 refine sq_ev rfl (ev_fieldAddr fo208_0 J) ?_
 refine sq_ev rfl (ev_fieldAddr fo23_1 J) ?_
 refine sq_ev rfl (ev_load J rfl ty3 rfl) ?_
 refine sq_ev rfl (ev_fieldAddr fo208_0 J) ?_
 refine sq_ev rfl (ev_fieldAddr fo23_2 J) ?_
 refine sq_ev rfl (ev_load J rfl ty3 rfl) ?_
 refine sq_ev rfl (ev_fieldAddr fo208_0 J) ?_
 refine sq_ev rfl (ev_fieldAddr fo23_3 J) ?_
 refine sq_ev rfl (ev_load J rfl ty3 rfl) ?_
 refine sq_ev rfl (ev_fieldAddr fo208_0 J) ?_
 refine sq_ev rfl (ev_fieldAddr fo23_4 J) ?_
 refine sq_ev rfl (ev_load J rfl ty3 rfl) ?_
 refine sq_ev rfl (ev_fieldAddr fo208_0 J) ?_
 refine sq_ev rfl (ev_fieldAddr fo23_5 J) ?_
 refine sq_ev rfl (ev_load J rfl ty3 rfl) ?_
 refine sq_ev rfl (ev_buildSlice (es := [[_], [_], [_], [_], [_], [_]]) sf64 rfl rfl rfl rfl) ?_
 refine sq_ev rfl (ev_len sl64 (less_slx _ _) rfl) ?_
 refine mvr J rfl (sq_nil (aw_block ?_))
 refine aw_sub (sub_token 3 1 J) ?_
 refine aw_loopk (ι := { k : Nat // k ≤ 6 }) [24, 25] (fun i => [(26, I i.1), (3, .own 1 1 ((((stL s).take i.1).map Lib.itoa).map fun x => [S x]))]) (fun H i => H.set 1 (.tok ((((stL s).take i.1).map Lib.itoa).map fun x => [S x]).length)) (fun i => 6 - i.1) (⟨0, Nat.zero_le _⟩) ⟨J, J, J, J, trivial⟩ rfl ?_
 rintro ⟨k, hk⟩
 dsimp only [keepS, St.put, sget, slotsOf, nn1, nn2, nn3, nn4, nn5, nn6, Nat.reduceBEq, Nat.reduceAdd, nn7, nn8]
 refine aw_seq (aw_region (sq_ev rfl (ev_lss J J) ?_))
 refine sq_nil (aw_seq ?_)
 refine aw_cond J (fun c_27 => ?_) (fun c_27 => ?_)
 ·
  have c_27' := c_27
  try simp only [qq] at c_27'
  have hk6 : k < (stL s).length := by show k < 6; omega
  have hb2 := hb _ (List.getElem_mem hk6)
  have eS : (((stL s).take (k + 1)).map Lib.itoa).map (fun x => [S x]) = (((stL s).take k).map Lib.itoa).map (fun x => [S x]) ++ [[S (Lib.itoa (stL s)[k])]] := by rw [List.take_succ_eq_append_getElem hk6, List.map_append, List.map_append]; rfl
  refine aw_skip (aw_seq (aw_block (aw_seq (aw_region (sq_ev rfl (ev_index_map (k := k) (xs := stL s) sl64 (stL_sl s) J rfl hk6) ?_)))))
  refine sq_ev rfl (ev_load_i J ty3 rfl) ?_
  refine asr J rfl (sq_nil (aw_region (sq_ev rfl (ev_mv (v := .own _ _ _) J) ?_)))
  refine mvr J rfl (sq_ev rfl (ev_call en159 J (itoa_pure _ (by omega) (by omega)) ⟨J, trivial⟩) ?_)
  refine sq_ev rfl (ev_buildSlice (es := [[_]]) sf24 rfl rfl rfl rfl) ?_
  refine sq_append rfl sf24 Tryz.underlying24 rfl rfl (less_slx _ _) (Nat.succ_pos _) (by simp; omega) (by simp; omega) ?_
  refine sq_ev rfl (ev_as (v := .own _ _ _) J) ?_
  refine sq_nil (aw_region (sq_ev rfl (ev_add J J (wr (by omega) (by omega))) ?_))
  refine mvr J rfl (sq_nil ?_)
  exact ⟨⟨k + 1, by omega⟩, by simp only; omega, Sub.fin 2 ⟨J, Less.eq (b := .own 1 1 ((((stL s).take (k + 1)).map Lib.itoa).map fun x => [S x])) (by rw [eS] <;> rfl), J, J, trivial⟩ (congrArg (fun n => [_, AObj.tok n]) (congrArg List.length eS.symm)) (by simp [slotsIn, objsIn, sget, keepS, AObj.inB, AV.inB, AV.inL, AV.inE, inE_map, inE_ints, inE_strs, inE_figs, inE_cloths, -List.map_append, -List.map_take, -List.map_map]) (by simp [slotsIn, objsIn, sget, keepS, AObj.inB, AV.inB, AV.inL, AV.inE, inE_map, inE_ints, inE_strs, inE_figs, inE_cloths, -List.map_append, -List.map_take, -List.map_map]) (by simp [he0])⟩
 have c_27' := c_27
 try simp only [qq] at c_27'
 obtain rfl : k = 6 := by omega
 refine aw_exit (aw_seq (aw_region (sq_ev rfl (ev_mv (v := .own _ _ _) J) ?_)))
 refine sq_ev rfl (ev_as (v := .own _ _ _) J) ?_
 refine sq_nil (aw_ret ?_)
 exact retQ_pure (v := .own _ _ _) rfl rfl (Less.trans (less_own _ _ _) (Less.eq (by rfl)))
theorem partw_pure (f : Fg) : APure Tryz.prog 237 [.agg [strs f]] (strs f) := by
 refine apure_of (rs := [.tmp 2]) Tryz.func237 rfl rfl (Nat.le_of_ble_eq_true rfl) (by simp [AV.pureL, AV.pureB, AV.pureE, pureE_map]) (by first | rfl | (simp [AV.pureL, AV.pureB, AV.pureE, pureE_map])) fun e0 he0 => ?_
 refine aw_seq (aw_region (sq_box rfl J rfl (asr J rfl (sq_nil (aw_seq (aw_region (sq_ev rfl (ev_fieldAddr fo211_0 J) ?_)))))))
 refine sq_ev rfl (ev_fieldAddr fo26_0 J) ?_
 refine sq_ev rfl (ev_load J rfl ty24 rfl) ?_
 refine ass rfl J (sq_nil (aw_ret ?_))
 exact retQ_pure (v := .sl _ _) rfl rfl J
theorem lineH_pure (s : Sg) (hb : ∀ n ∈ stL s, -1000000 ≤ n ∧ n ≤ 1000000) (hj : (Lib.join (nameW none :: rowW s none) [32]).length ≤ 1000000) : APure Tryz.prog 158 [rowV s none] (S (lineO s none)) := by
 refine apure_of (rs := [.tmp 2]) Tryz.func158 rfl rfl (Nat.le_of_ble_eq_true rfl) (by simp [AV.pureL, AV.pureB, AV.pureE, pureE_map]) (by first | rfl | (simp [AV.pureL, AV.pureB, AV.pureE, pureE_map])) fun e0 he0 => ?_
 refine aw_seq (aw_region (asr J rfl ?_))
 refine sq_nil (aw_seq (aw_region (asr J rfl (sq_nil (aw_seq (aw_seq (aw_region (sq_ev rfl (ev_mv (v := .ifc _ _) J) ?_))))))))
 refine sq_nil (aw_block (aw_seq (aw_region (sq_ev rfl (ev_assert_no ni211 z211 rfl J) ?_))))
 refine xtr rfl J rfl (xtr rfl J rfl (sq_nil ?_))
 refine aw_false J ?_
 refine aw_skip (aw_seq ?_)
 refine aw_draw 9 mo (by kernel_rfl) ?_
 refine dr_ev rfl (ev_call en182 J (names_pure) trivial) ?_
 refine dr_ev rfl (ev_mv (v := .raw _) J) ?_
 refine dr_ev rfl (ev_indexv (k := 0) ar233 ty9 J J rfl (by decide) rfl) ?_
 refine dr_ev rfl (ev_buildSlice (es := [[_]]) sf24 rfl rfl rfl rfl) ?_
 refine dr_ev rfl (ev_mv (v := .ifc _ _) J) ?_
 refine dr_ev rfl (ev_invoke mt208 en236 J (headw_pure s hb)) ?_
 refine dr_ev rfl (ev_append sf24 Tryz.underlying24 J J (by simp [stL] <;> omega) (by simp [stL] <;> omega)) ?_
 refine dr_ev rfl (ev_call en181 J (join_pure (nameW none :: rowW s none) [32] (by simp [rowW, stL] <;> omega) hj) ⟨J, J, trivial⟩) ?_
 refine dr_ev rfl (ev_as (v := .raw _) J) ?_
 refine dr_end (sq_nil (aw_ret ?_))
 exact retQ_pure (v := .raw _) rfl rfl J
theorem lineP_pure (s : Sg) (f : Fg) (hf : f.length ≤ 100000) (hj : (Lib.join (nameW (some f) :: rowW s (some f)) [32]).length ≤ 1000000) : APure Tryz.prog 158 [rowV s (some f)] (S (lineO s (some f))) := by
 refine apure_of (rs := [.tmp 2]) Tryz.func158 rfl rfl (Nat.le_of_ble_eq_true rfl) (by simp [AV.pureL, AV.pureB, AV.pureE, pureE_map]) (by first | rfl | (simp [AV.pureL, AV.pureB, AV.pureE, pureE_map])) fun e0 he0 => ?_
 refine aw_seq (aw_region (asr J rfl ?_))
 refine sq_nil (aw_seq (aw_region (asr J rfl (sq_nil (aw_seq (aw_seq (aw_region (sq_ev rfl (ev_mv (v := .ifc _ _) J) ?_))))))))
 refine sq_nil (aw_block (aw_seq (aw_region (sq_ev rfl (ev_assert_yes ni211 J) ?_))))
 refine xtr rfl J rfl (xtr rfl J rfl (sq_nil ?_))
 refine aw_true J ?_
 refine aw_region (asr J rfl (sq_nil (aw_seq ?_)))
 refine aw_draw 9 mo (by kernel_rfl) ?_
 refine dr_ev rfl (ev_call en182 J (names_pure) trivial) ?_
 refine dr_ev rfl (ev_mv (v := .raw _) J) ?_
 refine dr_ev rfl (ev_indexv (k := 1) ar233 ty9 J J rfl (by decide) rfl) ?_
 refine dr_ev rfl (ev_buildSlice (es := [[_]]) sf24 rfl rfl rfl rfl) ?_
 refine dr_ev rfl (ev_mv (v := .ifc _ _) J) ?_
 refine dr_ev rfl (ev_invoke mt211 en237 J (partw_pure f)) ?_
 refine dr_ev rfl (ev_append sf24 Tryz.underlying24 J J (by simp [stL] <;> omega) (by simp [stL] <;> omega)) ?_
 refine dr_ev rfl (ev_call en181 J (join_pure (nameW (some f) :: rowW s (some f)) [32] (by simp [rowW, stL] <;> omega) hj) ⟨J, J, trivial⟩) ?_
 refine dr_ev rfl (ev_as (v := .raw _) J) ?_
 refine dr_end (sq_nil (aw_ret ?_))
 exact retQ_pure (v := .raw _) rfl rfl J
end Go.Proofs.YtmbknoaneglilaaGreatDoor
namespace Go.Proofs.YtmbknoaneglilaaGreatDoor
open Go Go.Ab Ni Ol
theorem bi208 : bldInfo Tryz.prog 208 = some ([.raw (.int .i64 0), .raw (.int .i64 0), .raw (.int .i64 0), .raw (.int .i64 0), .raw (.int .i64 0), .raw (.int .i64 0)], true, [(0, 6)], 0) := by kernel_rfl
theorem bi211 : bldInfo Tryz.prog 211 = some ([.raw (.slice none 0 0)], true, [(0, 1)], 0) := by kernel_rfl
theorem en121 : Ent Tryz.prog 121 := Ent.of Tryz.func121 (by kernel_rfl) rfl
theorem en122 : Ent Tryz.prog 122 := Ent.of Tryz.func122 (by kernel_rfl) rfl
theorem fo81_0 : fOff Tryz.prog 81 0 = some (0, 23) := by kernel_rfl
theorem fo81_1 : fOff Tryz.prog 81 1 = some (6, 45) := by kernel_rfl
theorem ni208 : notIface Tryz.prog 208 = true := by kernel_rfl
theorem sf209 : SlFact Tryz.prog 209 213 1 16 := SlFact.of (by kernel_rfl)
theorem sl209 : slElem Tryz.prog 209 = some (213, 1) := by kernel_rfl
theorem ty213 : tySz Tryz.prog 213 = some (false, 1) := by kernel_rfl
structure Bk where
  s : Sg
  l : List Fg
  deriving DecidableEq, Inhabited
abbrev bkC (b : Bk) : List AV := [I b.s.wide, I b.s.high, I b.s.far, I b.s.flame, I b.s.x, I b.s.y, figs b.l]
abbrev bkA (b : Bk) : AV := .agg (bkC b)
def rowsT (b : Bk) (k : Nat) : List (Option Fg) := none :: (b.l.take k).map some
def rowsB (b : Bk) : List (Option Fg) := rowsT b b.l.length
structure SmB (b : Bk) : Prop where
  head : ∀ n ∈ stL b.s, -1000000 ≤ n ∧ n ≤ 1000000
  row : ∀ f ∈ b.l, f.length ≤ 100000
  line : ∀ r ∈ rowsB b, (lineO b.s r).length ≤ 1000
  len : b.l.length ≤ 1000
theorem rowsT_succ {b : Bk} {k : Nat} (h : k < b.l.length) : rowsT b (k + 1) = rowsT b k ++ [some b.l[k]] := by
  unfold rowsT; rw [List.take_succ_eq_append_getElem h, List.map_append]; rfl
theorem rowsT_len {b : Bk} {k : Nat} (h : k ≤ b.l.length) : (rowsT b k).length = k + 1 := by simp [rowsT]; omega
theorem rowsB_mem {b : Bk} {r : Option Fg} (h : r ∈ rowsB b) : r = none ∨ ∃ f ∈ b.l, r = some f := by
  rcases List.mem_cons.1 h with h | h
  · exact .inl h
  · obtain ⟨x, hx, rfl⟩ := List.mem_map.1 h
    exact .inr ⟨x, List.mem_of_mem_take hx, rfl⟩
theorem line_pure {b : Bk} (sm : SmB b) {r : Option Fg} (h : r ∈ rowsB b) : APure Tryz.prog 158 [rowV b.s r] (S (lineO b.s r)) := by
  have hl := sm.line r h
  rcases rowsB_mem h with rfl | ⟨f, hf, rfl⟩
  · exact lineH_pure b.s sm.head (by have : (Lib.join (nameW none :: rowW b.s none) [32]).length ≤ 1000 := hl; omega)
  · exact lineP_pure b.s f (sm.row f hf) (by have : (Lib.join (nameW (some f) :: rowW b.s (some f)) [32]).length ≤ 1000 := hl; omega)
def linesB (b : Bk) : List (List UInt8) := (rowsB b).map (lineO b.s)
theorem linesB_len {b : Bk} (sm : SmB b) : ∀ l ∈ linesB b, l.length ≤ 1000 := fun l hl => by
  obtain ⟨r, hr, rfl⟩ := List.mem_map.1 hl
  exact sm.line r hr
def sealB (ls : List (List UInt8)) : List UInt8 := outT ls ls.length ++ [101, 110, 100, 32] ++ digs3 (ctT ls ls.length % 173) ++ [10]
def textB (b : Bk) : List UInt8 := sealB (linesB b)
theorem inE_rows (n : Nat) (s : Sg) (l : List (Option Fg)) : AV.inE n (l.map fun r => [rowV s r]) = true := inE_map fun x _ => by cases x <;> simp [rowV, AV.inL, AV.inB, inE_strs]
theorem decDigits_len : ∀ (m u : Nat), u < 10 ^ (m + 1) → (Lib.decDigits u).length ≤ m + 1
  | 0, u, h => by rw [Lib.decDigits, dif_pos (by simpa using h)]; simp
  | m + 1, u, h => by
    rw [Lib.decDigits]
    split
    · simp
    · rw [List.length_append]
      have : u / 10 < 10 ^ (m + 1) := by rw [Nat.pow_succ] at h; omega
      have := decDigits_len m (u / 10) this
      simp; omega
theorem itoa_len {n : Int} (h : -1000000 ≤ n ∧ n ≤ 1000000) : (Lib.itoa n).length ≤ 8 := by
  unfold Lib.itoa
  split
  · have := decDigits_len 6 n.natAbs (by omega)
    simp; omega
  · have := decDigits_len 6 n.toNat (by omega)
    omega
def bkOK (b : Bk) : Bool := stOK b.s && coOK b.l
theorem text_pure (b : Bk) (sm : SmB b) : APure Tryz.prog 122 [bkA b] (S (textB b)) := by
  refine apure_of (rs := [.tmp 2]) Tryz.func122 rfl rfl (Nat.le_of_ble_eq_true rfl) (by simp [AV.pureL, AV.pureB, AV.pureE, pureE_map]) (by first | rfl | (simp [AV.pureL, AV.pureB, AV.pureE, pureE_map])) fun e0 he0 => ?_
  refine aw_seq (aw_region (sq_box rfl J rfl (asr J rfl (sq_nil (aw_seq (aw_region (sq_ev rfl (ev_fieldAddr fo81_0 J) ?_)))))))
  refine sq_ev rfl (ev_load_agg J rfl ty23 rfl) ?_
  refine sq_ev rfl (ev_build bi208 rfl) ?_
  refine sq_ev rfl (ev_makeIface ni208 J) ?_
  refine sq_ev rfl (ev_buildSlice (es := [[_]]) sf209 rfl rfl rfl rfl) ?_
  refine sq_ev rfl (ev_as (v := .slx _ _) J) ?_
  refine sq_nil (aw_seq (aw_seq (aw_region (sq_ev rfl (ev_fieldAddr fo81_1 J) ?_))))
  refine sq_ev rfl (ev_load J rfl ty45 rfl) ?_
  refine sq_ev rfl (ev_len_map sl45 J) ?_
  refine mvr J rfl (sq_nil (aw_block ?_))
  refine aw_sub (sub_token_slx 3 1 J) ?_
  refine aw_loopk (ι := { k : Nat // k ≤ b.l.length }) [18, 19] (fun i => [(20, I i.1), (3, .own 1 1 ((rowsT b i.1).map fun r => [rowV b.s r]))]) (fun H i => H.set 1 (.tok ((rowsT b i.1).map fun r => [rowV b.s r]).length)) (fun i => b.l.length - i.1) (⟨0, Nat.zero_le _⟩) ⟨J, J, J, J, trivial⟩ rfl ?_
  rintro ⟨k, hk⟩
  dsimp only [keepS, St.put, sget, slotsOf, nn1, nn2, nn3, nn4, nn5, nn6, Nat.reduceBEq, Nat.reduceAdd, nn7, nn8]
  have hrl := rowsT_len hk
  have hsl := sm.len
  refine aw_seq (aw_region (sq_ev rfl (ev_lss J J) ?_))
  refine sq_nil (aw_seq ?_)
  refine aw_cond J (fun c_21 => ?_) (fun c_21 => ?_)
  · skip
    have c_21' := c_21
    try simp only [qq] at c_21'
    have hk' : k < b.l.length := by omega
    have eS : (rowsT b (k + 1)).map (fun r => [rowV b.s r]) = (rowsT b k).map (fun r => [rowV b.s r]) ++ [[.ifc 211 (.agg [strs b.l[k]])]] := by rw [rowsT_succ hk', List.map_append]; rfl
    refine aw_skip (aw_seq (aw_block (aw_seq (aw_region (sq_ev rfl (ev_index_map sl45 J J rfl (by omega)) ?_)))))
    refine sq_ev rfl (ev_load_agg_i J ty26 (by exact Nat.le_of_ble_eq_true rfl)) ?_
    refine sq_alloc rfl z26 ?_
    refine sq_store rfl J J rfl rfl ty26 rfl rfl ?_
    refine sq_nil (aw_region (sq_ev rfl (ev_mv (v := .own _ _ _) J) ?_))
    refine sq_ev rfl (ev_load_agg J rfl ty26 rfl) ?_
    refine sq_ev rfl (ev_build bi211 rfl) ?_
    refine sq_ev rfl (ev_makeIface ni211 J) ?_
    refine sq_ev rfl (ev_buildSlice (es := [[_]]) sf209 rfl rfl rfl rfl) ?_
    refine sq_append rfl sf209 Tryz.underlying209 rfl rfl (less_slx _ _) (Nat.succ_pos _) (by simp; omega) (by simp; omega) ?_
    refine sq_ev rfl (ev_as (v := .own _ _ _) J) ?_
    refine sq_nil (aw_region (sq_ev rfl (ev_add J J (wr (by omega) (by omega))) ?_))
    refine mvr J rfl (sq_nil ?_)
    exact ⟨⟨k + 1, by omega⟩, by simp only; omega, Sub.fin 2 ⟨J, Less.eq (b := .own 1 1 ((rowsT b (k + 1)).map fun r => [rowV b.s r])) (by rw [eS] <;> rfl), J, J, trivial⟩ (congrArg (fun n => [_, AObj.tok n]) (congrArg List.length eS.symm)) (by simp [slotsIn, objsIn, sget, keepS, AObj.inB, AV.inB, AV.inL, AV.inE, inE_map, inE_rows, inE_ints, inE_strs, inE_figs, inE_cloths, -List.map_append, -List.map_take, -List.map_map]) (by simp [slotsIn, objsIn, sget, keepS, AObj.inB, AV.inB, AV.inL, AV.inE, inE_map, inE_rows, inE_ints, inE_strs, inE_figs, inE_cloths, -List.map_append, -List.map_take, -List.map_map]) (by simp [he0])⟩
  · skip
    have c_21' := c_21
    try simp only [qq] at c_21'
    obtain rfl : k = b.l.length := by omega
    have hll0 : (linesB b).length = (rowsB b).length := by simp [linesB]
    have hrl2 : (rowsB b).length = b.l.length + 1 := rowsT_len (Nat.le_refl _)
    refine aw_exit (aw_seq (aw_region ?_))
    refine asr J rfl (asr J rfl (sq_nil (aw_seq (aw_seq (aw_region (sq_ev rfl (ev_mv (v := .own _ _ _) J) ?_))))))
    refine sq_ev rfl (ev_len_map sl209 (less_own _ _ _)) ?_
    refine mvr J rfl (sq_nil (aw_block ?_))
    have hfull : rowsT b b.l.length = rowsB b := rfl
    rw [hfull]
    refine aw_loopk (ι := { i : Nat // i ≤ (rowsB b).length }) [31, 32] (fun i => [(33, I i.1), (6, S (outT (linesB b) i.1)), (7, I (ctT (linesB b) i.1))]) (fun H i => H) (fun i => (rowsB b).length - i.1) (⟨0, Nat.zero_le _⟩) ⟨J, J, J, J, J, trivial⟩ rfl ?_
    rintro ⟨i, hi⟩
    dsimp only [keepS, St.put, sget, slotsOf, nn1, nn2, nn3, nn4, nn5, nn6, Nat.reduceBEq, Nat.reduceAdd, nn7, nn8]
    have hol := outT_len (linesB_len sm) i (by omega)
    have hct := ctT_bd (by omega) (linesB_len sm) i (by omega)
    refine aw_seq (aw_region (sq_ev rfl (ev_lss J J) ?_))
    refine sq_nil (aw_seq ?_)
    refine aw_cond J (fun c_34 => ?_) (fun c_34 => ?_)
    · skip
      have c_34' := c_34
      try simp only [qq] at c_34'
      have hi2 : i < (rowsB b).length := by omega
      have hi3 : i < (linesB b).length := by omega
      have hll := linesB_len sm _ (List.getElem_mem hi3)
      have hle : (linesB b)[i] = lineO b.s (rowsB b)[i] := by simp [linesB]
      refine aw_skip (aw_seq (aw_block (aw_seq (aw_region (mvr J rfl (sq_ev rfl (ev_index_map sl209 (less_own _ _ _) J rfl (by omega)) ?_))))))
      refine sq_ev rfl (ev_load_i J ty213 rfl) ?_
      refine asr J rfl (sq_ev rfl (ev_as (v := rowV b.s _) J) ?_)
      refine sq_nil (aw_seq (aw_region (sq_ev rfl (ev_mv (v := rowV b.s _) J) ?_)))
      refine sq_ev rfl (ev_less (ev_call en158 J (line_pure sm (List.getElem_mem hi2)) ⟨J, trivial⟩) (Less.eq (b := S (linesB b)[i]) (by rw [hle]))) ?_
      refine asr J rfl (sq_nil (aw_seq (aw_seq (aw_region (mvr J rfl (sq_ev rfl (ev_lenS Tryz.underlying9 J) ?_))))))
      refine mvr J rfl (sq_nil (aw_block ?_))
      refine aw_loopk (ι := { k : Nat // k ≤ (linesB b)[i].length }) [6, 8, 10, 31, 32, 33, 41] (fun k => [(42, I k.1), (7, I (ctT (linesB b) i + csT ((i : Int) + 1) (linesB b)[i] k.1))]) (fun H k => H) (fun k => (linesB b)[i].length - k.1) (⟨0, Nat.zero_le _⟩) ⟨J, (by exact less_int (by simp [csT])), J, J, J, J, J, J, J, trivial⟩ rfl ?_
      rintro ⟨k, hk⟩
      dsimp only [keepS, St.put, sget, slotsOf, nn1, nn2, nn3, nn4, nn5, nn6, Nat.reduceBEq, Nat.reduceAdd, nn7, nn8]
      have hcs := csT_bd (m := (i : Int) + 1) ⟨by omega, by omega⟩ (linesB b)[i] k hk hll
      refine aw_seq (aw_region (sq_ev rfl (ev_lss J J) ?_))
      refine sq_nil (aw_seq ?_)
      refine aw_cond J (fun c_43 => ?_) (fun c_43 => ?_)
      · skip
        have c_43' := c_43
        try simp only [qq] at c_43'
        have hk' : k < (linesB b)[i].length := by omega
        have htb := term_bd (b := (linesB b)[i][k]) (j := k) (m := (i : Int) + 1) (by omega) ⟨by omega, by omega⟩
        have hb8 : ((linesB b)[i][k]).toNat < 256 := UInt8.toNat_lt _
        have eK : ctT (linesB b) i + csT ((i : Int) + 1) (linesB b)[i] k + ((linesB b)[i][k].toNat : Int) * ((k : Int) + 1) * ((i : Int) + 1) = ctT (linesB b) i + csT ((i : Int) + 1) (linesB b)[i] (k + 1) := by rw [csT_succ _ hk']; omega
        refine aw_skip (aw_seq (aw_block (aw_seq (aw_region (mvr J rfl ?_)))))
        refine asr J rfl (sq_nil (aw_region (mvr J rfl (mvr J rfl (mvr J rfl (sq_ev rfl (ev_idxS Tryz.underlying9 J J rfl (by omega)) ?_))))))
        refine sq_ev rfl (ev_conv_int Tryz.underlying5 Tryz.underlying3 J (wr (by omega) (by omega))) ?_
        refine mvr J rfl (sq_ev rfl (ev_add J J (wr (by omega) (by omega))) ?_)
        refine sq_ev rfl (ev_mul J J (wr (by omega) (by omega))) ?_
        refine mvr J rfl (sq_ev rfl (ev_add J J (wr (by omega) (by omega))) ?_)
        refine sq_ev rfl (ev_mul J J (wr (by omega) (by omega))) ?_
        refine sq_ev rfl (ev_add J J (wr (by omega) (by omega))) ?_
        refine asr J rfl (sq_nil (aw_region (sq_ev rfl (ev_add J J (wr (by omega) (by omega))) ?_)))
        refine mvr J rfl (sq_nil ?_)
        exact ⟨⟨k + 1, by omega⟩, by simp only; omega, Sub.slots ⟨J, (by exact less_int eK), J, J, J, J, J, J, J, trivial⟩⟩
      · skip
        have c_43' := c_43
        try simp only [qq] at c_43'
        obtain rfl : k = (linesB b)[i].length := by omega
        have eO : S (outT (linesB b) i ++ ((linesB b)[i] ++ [10])) = S (outT (linesB b) (i + 1)) := by rw [outT_succ hi3]
        have eC : ctT (linesB b) i + csT ((i : Int) + 1) (linesB b)[i] (linesB b)[i].length = ctT (linesB b) (i + 1) := by rw [ctT_succ hi3]; rfl
        refine aw_exit (aw_region (mvr J rfl (mvr J rfl (sq_ev rfl (ev_catS J J (by simp; omega)) ?_))))
        refine sq_ev rfl (ev_catS J J (by simp; omega)) ?_
        refine asr J rfl (sq_nil (aw_region (sq_ev rfl (ev_add J J (wr (by omega) (by omega))) ?_)))
        refine mvr J rfl (sq_nil ?_)
        exact ⟨⟨i + 1, by omega⟩, by simp only; omega, Sub.slots ⟨J, Less.eq eO, (by exact less_int eC), J, J, trivial⟩⟩
    · skip
      have c_34' := c_34
      try simp only [qq] at c_34'
      obtain rfl : i = (rowsB b).length := by omega
      refine aw_exit (aw_seq (aw_region (mvr J rfl (sq_ev rfl (ev_less (ev_rem J J (by decide)) (less_int (Int.tmod_eq_emod_of_nonneg (by omega)))) ?_))))
      refine asr J rfl (sq_nil (aw_seq ?_))
      have i1 := itoa_len (n := ctT (linesB b) (rowsB b).length % 173 / 100) ⟨by omega, by omega⟩
      have i2 := itoa_len (n := ctT (linesB b) (rowsB b).length % 173 / 10 % 10) ⟨by omega, by omega⟩
      have i3 := itoa_len (n := ctT (linesB b) (rowsB b).length % 173 % 10) ⟨by omega, by omega⟩
      refine aw_region (mvr J rfl (sq_ev rfl (ev_catS J J (by simp; omega)) ?_))
      refine mvr J rfl (sq_ev rfl (ev_quo (q := ctT (linesB b) (rowsB b).length % 173 / 100) J J (by decide) (qd (by omega) (by omega) (by decide))) ?_)
      refine sq_ev rfl (ev_call en159 J (itoa_pure _ (by omega) (by omega)) ⟨J, trivial⟩) ?_
      refine sq_ev rfl (ev_catS J J (by simp; omega)) ?_
      refine mvr J rfl (sq_ev rfl (ev_quo (q := ctT (linesB b) (rowsB b).length % 173 / 10) J J (by decide) (qd (by omega) (by omega) (by decide))) ?_)
      refine sq_ev rfl (ev_less (ev_rem J J (by decide)) (less_int (Int.tmod_eq_emod_of_nonneg (by omega)))) ?_
      refine sq_ev rfl (ev_call en159 J (itoa_pure _ (by omega) (by omega)) ⟨J, trivial⟩) ?_
      refine sq_ev rfl (ev_catS J J (by simp; omega)) ?_
      refine mvr J rfl (sq_ev rfl (ev_less (ev_rem J J (by decide)) (less_int (Int.tmod_eq_emod_of_nonneg (by omega)))) ?_)
      refine sq_ev rfl (ev_call en159 J (itoa_pure _ (by omega) (by omega)) ⟨J, trivial⟩) ?_
      refine sq_ev rfl (ev_catS J J (by simp; omega)) ?_
      refine sq_ev rfl (ev_catS J J (by simp; omega)) ?_
      refine asr J rfl (sq_nil (aw_ret ?_))
      exact retQ_pure (v := .raw _) rfl rfl (Less.eq (by simp [textB, sealB, digs3, hll0]))
theorem isbook_pure (b : Bk) (hl : b.l.length ≤ 1000000) : APure Tryz.prog 121 [bkA b] (B (bkOK b)) := by
 refine apure_of (rs := [.tmp 2]) Tryz.func121 rfl rfl (Nat.le_of_ble_eq_true rfl) (by simp [AV.pureL, AV.pureB, AV.pureE, pureE_map]) (by first | rfl | (simp [AV.pureL, AV.pureB, AV.pureE, pureE_map])) fun e0 he0 => ?_
 refine aw_seq (aw_region (sq_box rfl J rfl (asr J rfl (sq_nil (aw_seq (aw_region (sq_ev rfl (ev_fieldAddr fo81_0 J) ?_)))))))
 refine sq_ev rfl (ev_load_agg J rfl ty23 rfl) ?_
 refine sq_ev rfl (ev_call en137 J (isstage_pure b.s) ⟨J, trivial⟩) ?_
 refine mvr J rfl ?_
 refine sq_split 6 J (fun g1_3 => ?_) (fun g1_3 => ?_)
 ·
  have g1_3' := g1_3
  try simp only [qq] at g1_3'
  refine sq_yes rfl rfl (less_b g1_3) rfl (ev_fieldAddr fo81_1 J) ?_
  refine sq_yes rfl rfl (less_b g1_3) rfl (ev_load J rfl ty45 rfl) ?_
  refine sq_yes rfl rfl (less_b g1_3) rfl (ev_call en149 J (iscompany_pure b.l hl) ⟨J, trivial⟩) ?_
  refine sq_ev rfl (ev_pickT (v := .raw _) (less_b g1_3) J) ?_
  refine asr J rfl (sq_nil (aw_ret ?_))
  exact retQ_pure (v := .raw _) rfl rfl (Less.eq (by unfold bkOK; simp [*]))
 have g1_3' := g1_3
 try simp only [qq] at g1_3'
 refine sq_no rfl rfl (less_b g1_3) rfl rfl ?_
 refine sq_no rfl rfl (less_b g1_3) rfl rfl ?_
 refine sq_no rfl rfl (less_b g1_3) rfl rfl ?_
 refine sq_ev rfl (ev_pickF (v := .raw _) (less_b g1_3) J) ?_
 refine asr J rfl (sq_nil (aw_ret ?_))
 exact retQ_pure (v := .raw _) rfl rfl (Less.eq (by unfold bkOK; simp [*]))
end Go.Proofs.YtmbknoaneglilaaGreatDoor
namespace Go.Proofs.YtmbknoaneglilaaGreatDoor
open Go Go.Ab Ni Ol
theorem bi205 : bldInfo Tryz.prog 205 = some ([.raw (.string ByteArray.empty)], true, [(0, 1)], 0) := by kernel_rfl
theorem en160 : Ent Tryz.prog 160 := Ent.of Tryz.func160 (by kernel_rfl) rfl
theorem en161 : Ent Tryz.prog 161 := Ent.of Tryz.func161 (by kernel_rfl) rfl
theorem en162 : Ent Tryz.prog 162 := Ent.of Tryz.func162 (by kernel_rfl) rfl
theorem en163 : Ent Tryz.prog 163 := Ent.of Tryz.func163 (by kernel_rfl) rfl
theorem en185 : Ent Tryz.prog 185 := Ent.of Tryz.func185 (by kernel_rfl) rfl
theorem split_pure (s : List UInt8) (c : UInt8) (hs : s.length ≤ 1000000) : APure Tryz.prog 160 [S s, S [c]] (strs (cut c s)) := by
  have hc := splitB_cut c s
  have hlen : (Lib.splitB ⟨#[c]⟩ 0 (Lib.countB ⟨s.toArray⟩ ⟨#[c]⟩) ⟨s.toArray⟩).length = Lib.countB ⟨s.toArray⟩ ⟨#[c]⟩ + 1 := Lib.splitB_all ⟨#[c]⟩ (Nat.le_refl 1) 0 _ _ rfl
  have h := apure_of_row (P := Tryz.prog) (f := 160) (vs := [.string ⟨s.toArray⟩, .string ⟨#[c]⟩]) (us := (Lib.splitB ⟨#[c]⟩ 0 (Lib.countB ⟨s.toArray⟩ ⟨#[c]⟩) ⟨s.toArray⟩).map Value.string) (et := 9)
    (fun u hu => by obtain ⟨x, _, rfl⟩ := List.mem_map.1 hu; rfl) (fun w hw => by
      obtain ⟨m0, m, hg, hm⟩ := hw.1
      have h0 : Tryz.prog.globalNamed "internal/bytealg.MaxLen" = some 0 := by kernel_rfl
      rw [h0] at hg; cases hg
      refine (Tryz.strings_Split ⟨s.toArray⟩ ⟨#[c]⟩ m w (by rw [bs_size]; omega) hm (Nat.le_refl 1)).mono ?_
      rintro x w' ⟨h1, h2⟩
      refine ⟨?_, by rw [h2]; exact ⟨rfl, rfl⟩, by rw [h2]; rfl⟩
      rw [h1, List.length_map, hlen])
  have e : ((Lib.splitB ⟨#[c]⟩ 0 (Lib.countB ⟨s.toArray⟩ ⟨#[c]⟩) ⟨s.toArray⟩).map Value.string).map (fun u => [AV.raw u]) = (cut c s).map fun p => [S p] := by
    rw [← hc, List.map_map, List.map_map]
    refine List.map_congr_left fun x _ => ?_
    simp [Function.comp]
  rw [e] at h; exact h
def SureR (b : Bool) (why : List UInt8) (x : ARes) : Prop := (b = true ∧ x = .ret (.tup [])) ∨ (b = false ∧ x = .pan (.ifc 205 (.agg [S why])))
def numR (w : List UInt8) (x : ARes) : Prop := match numO w with | some n => x = .ret (I n) | none => x = .pan (.ifc 205 (.agg [S w]))
theorem numR_none {w : List UInt8} (h : numO w = none) : numR w (.pan (.ifc 205 (.agg [S w]))) := by unfold numR; rw [h]
theorem numR_some {w : List UInt8} {n : Int} (h : numO w = some n) : numR w (.ret (I n)) := by unfold numR; rw [h]
theorem numR_ret {w : List UInt8} {v : AV} (h : numR w (.ret v)) : numO w = some (valN w) ∧ v = I (valN w) := by
  unfold numR at h
  cases hn : numO w with
  | none => rw [hn] at h; cases h
  | some n => rw [hn] at h; cases h; exact ⟨by rw [numO_val hn], by rw [numO_val hn]⟩
theorem numR_pan {w : List UInt8} {v : AV} (h : numR w (.pan v)) : numO w = none ∧ v = .ifc 205 (.agg [S w]) := by
  unfold numR at h
  cases hn : numO w with
  | none => rw [hn] at h; cases h; exact ⟨rfl, rfl⟩
  | some n => rw [hn] at h; cases h
theorem idx_mem (l : List (List UInt8)) (v : List UInt8) : (AV.raw (Value.bool (decide (ixQ (fun x => decide (v = x)) l ≥ 0)))) = B (decide (v ∈ l)) := by
  rw [ixQ_any]; congr 2
  rw [Bool.eq_iff_iff, List.any_eq_true, decide_eq_true_eq]
  constructor
  · rintro ⟨x, hx, h⟩; rw [decide_eq_true_eq] at h; exact h ▸ hx
  · exact fun h => ⟨v, h, by simp⟩
theorem sure_pan (b : Bool) (why : List UInt8) : APan Tryz.prog 161 [B b, S why] (SureR b why) := by
  refine APan.of_acall (by simp [AV.pureL, AV.pureB, AV.pureE, pureE_map]) (acall_of (rs := []) Tryz.func161 rfl rfl (Nat.le_of_ble_eq_true rfl) fun e0 he0 => ?_)
  refine aw_seq (aw_region (mvr J rfl (sq_ev rfl (ev_not J) ?_)))
  refine sq_nil ?_
  refine aw_cond J (fun c_5 => ?_) (fun c_5 => ?_)
  · skip
    have c_5' := c_5
    try simp only [qq] at c_5'
    refine aw_region (mvr J rfl (sq_ev rfl (ev_build bi205 rfl) ?_))
    refine sq_ev rfl (ev_makeIface ni205 J) ?_
    refine sq_panic J ?_
    exact ⟨rfl, .pan (.ifc 205 (.agg [S why])), .inr ⟨by simpa using c_5', rfl⟩, rfl, J⟩
  · skip
    have c_5' := c_5
    try simp only [qq] at c_5'
    refine aw_skip ?_
    exact ⟨rfl, .tup [], rfl, .ret (.tup []), .inl ⟨by simpa using c_5', rfl⟩, rfl, J⟩
theorem number_pan (w : List UInt8) (hw : w.length ≤ 1000000) : APan Tryz.prog 162 [S w] (numR w) := by
 refine APan.of_acall (by simp [AV.pureL, AV.pureB, AV.pureE, pureE_map]) (acall_of (rs := [.tmp 2]) Tryz.func162 rfl rfl (Nat.le_of_ble_eq_true rfl) fun e0 he0 => ?_)
 refine aw_seq (aw_region (asr J rfl ?_))
 refine sq_nil (aw_seq (aw_region (asr J rfl (sq_nil (aw_seq (aw_seq (aw_region (mvr J rfl ?_))))))))
 refine sq_rangeS rfl Tryz.underlying9 J ?_
 refine sq_nil (aw_block ?_)
 refine aw_loopk (ι := { k : Nat // k ≤ w.length ∧ (∀ i, (h : i < w.length) → i < k → isD w[i] = true) ∧ (0 < k → w.length ≤ 2) }) [0, 7] (fun i => [(3, I (valN (w.take i.1)))]) (fun H i => H.set 0 (.raw (.stringIter ⟨w.toArray⟩ i.1))) (fun i => w.length - i.1) (⟨0, Nat.zero_le _, by omega, by omega⟩) ⟨J, J, J, trivial⟩ rfl ?_
 rintro ⟨k, hk, hds, h3⟩
 dsimp only [keepS, St.put, sget, slotsOf, nn1, nn2, nn3, nn4, nn5, nn6, Nat.reduceBEq, Nat.reduceAdd, nn7, nn8]
 refine aw_seq (aw_region ?_)
 refine sq_nextS rfl J rfl (fun n1 => ?_) (fun n1 => ?_)
 ·
  have hk' : k < w.length := by rw [bs_size] at n1; exact n1
  have hdl := decode_le ⟨w.toArray⟩ k
  refine xtr rfl J rfl (sq_nil (aw_seq ?_))
  refine aw_true J ?_
  refine aw_skip (aw_block (aw_seq (aw_region ?_)))
  refine xtr rfl J rfl (asr J rfl (sq_nil (aw_seq (aw_region (mvr J rfl (sq_ev rfl (ev_geq J J) ?_))))))
  refine mvr J rfl ?_
  refine sq_split 13 J (fun g2 => ?_) (fun g2 => ?_)
  ·
   have g2' := g2
   try simp only [qq] at g2'
   refine sq_yes rfl rfl (less_b g2) rfl (ev_mv (v := .raw _) J) ?_
   refine sq_yes rfl rfl (less_b g2) rfl (ev_leq J J) ?_
   refine sq_ev rfl (ev_pickT (v := .raw _) (less_b g2) J) ?_
   refine mvr J rfl ?_
   refine sq_split 17 J (fun g3 => ?_) (fun g3 => ?_)
   ·
    have g3' := g3
    try simp only [qq] at g3'
    refine sq_yes rfl rfl (less_b g3) rfl (ev_mv (v := .raw _) J) ?_
    refine sq_yes rfl rfl (less_b g3) rfl (ev_lenS Tryz.underlying9 J) ?_
    refine sq_yes rfl rfl (less_b g3) rfl (ev_leq J J) ?_
    refine sq_ev rfl (ev_pickT (v := .raw _) (less_b g3) J) ?_
    refine mvr J rfl ?_
    refine sq_call (args := [B _, S w]) rfl en161 J ⟨J, J, trivial⟩ (sure_pan _ _ _) ?_ ?_
    rotate_left
    ·
     (rintro v _ ⟨rfl, (⟨_, h⟩ | ⟨hb, h⟩)⟩ <;> cases h; exact ⟨rfl, .pan (.ifc 205 (.agg [S w])), numR_none (numO_len (by simp at hb; omega)), rfl, J⟩)
    rintro v _ ⟨rfl, (⟨hb, h⟩ | ⟨_, h⟩)⟩ <;> cases h
    refine sq_nil ?_
    have hlen : w.length ≤ 2 := by simp at hb; omega
    have hdec := dec_yes hk' (by omega) (by omega)
    have hv := valN_999 hk (by omega) hds
    have hb8 : (w[k]).toNat ≤ 57 := ((isD_iff _).1 hdec.2).2
    have eV : 10 * valN (w.take k) + (((Utf8.decode ⟨w.toArray⟩ k).1 : Int) - 48) = valN (w.take (k + 1)) := by rw [valN_take hk', hdec.1]
    refine aw_region (mvr J rfl (sq_ev rfl (ev_mul J J (wr (by omega) (by omega))) ?_))
    refine mvr J rfl (sq_ev rfl (ev_sub J J (wr32 (by omega) (by omega))) ?_)
    refine sq_ev rfl (ev_conv_int Tryz.underlying21 Tryz.underlying3 J (wr (by omega) (by omega))) ?_
    refine sq_ev rfl (ev_add J J (wr (by omega) (by omega))) ?_
    refine asr J rfl (sq_nil ?_)
    exact ⟨⟨k + 1, by omega, fun i h hi => (by by_cases e : i = k; (subst e; exact hdec.2); exact hds i h (by omega)), fun _ => hlen⟩, by simp only; omega, Sub.fin 1 ⟨(by exact less_int eV), J, J, trivial⟩ (by rw [hdec.1] <;> rfl) (by simp [slotsIn, objsIn, sget, keepS, AObj.inB, AV.inB, AV.inL, AV.inE, inE_map]) (by simp [slotsIn, objsIn, sget, keepS, AObj.inB, AV.inB, AV.inL, AV.inE, inE_map]) (by simp [he0])⟩
   have g3' := g3
   try simp only [qq] at g3'
   have hnd : isD w[k] = false := dec_no hk' (by omega)
   refine sq_no rfl rfl (less_b g3) rfl rfl ?_
   refine sq_no rfl rfl (less_b g3) rfl rfl ?_
   refine sq_no rfl rfl (less_b g3) rfl rfl ?_
   refine sq_ev rfl (ev_pickF (v := .raw _) (less_b g3) J) ?_
   refine mvr J rfl ?_
   refine sq_call (args := [B false, S w]) rfl en161 J ⟨J, J, trivial⟩ (sure_pan _ _ _) ?_ ?_
   rotate_left
   ·
    (rintro v _ ⟨rfl, (⟨_, h⟩ | ⟨hb, h⟩)⟩ <;> cases h; exact ⟨rfl, .pan (.ifc 205 (.agg [S w])), numR_none (numO_dig hk' hnd), rfl, J⟩)
   rintro v _ ⟨rfl, (⟨hb, _⟩ | ⟨_, h⟩)⟩
   ·
    cases hb
   cases h
  have g2' := g2
  try simp only [qq] at g2'
  have hnd : isD w[k] = false := dec_no hk' (by omega)
  refine sq_no rfl rfl (less_b g2) rfl rfl ?_
  refine sq_no rfl rfl (less_b g2) rfl rfl ?_
  refine sq_ev rfl (ev_pickF (v := .raw _) (less_b g2) J) ?_
  refine mvr J rfl (sq_no rfl rfl J rfl rfl (sq_no rfl rfl J rfl rfl (sq_no rfl rfl J rfl rfl (pf rfl J J (mvr J rfl ?_)))))
  refine sq_call (args := [B false, S w]) rfl en161 J ⟨J, J, trivial⟩ (sure_pan _ _ _) ?_ ?_
  rotate_left
  ·
   (rintro v _ ⟨rfl, (⟨_, h⟩ | ⟨hb, h⟩)⟩ <;> cases h; exact ⟨rfl, .pan (.ifc 205 (.agg [S w])), numR_none (numO_dig hk' hnd), rfl, J⟩)
  rintro v _ ⟨rfl, (⟨hb, _⟩ | ⟨_, h⟩)⟩
  ·
   cases hb
  cases h
 obtain rfl : k = w.length := by rw [bs_size] at n1; omega
 have hv := valN_999 (Nat.le_refl w.length) (by rcases Nat.eq_zero_or_pos w.length with h | h; omega; have := h3 h; omega) hds
 have htk : w.take w.length = w := List.take_length
 have hv2 := hv
 rw [htk] at hv2
 refine xtr rfl J rfl (sq_nil (aw_seq ?_))
 refine aw_false J ?_
 refine aw_exit (aw_seq (aw_region (mvr J rfl (sq_ev rfl (ev_sneS J J) ?_))))
 refine mvr J rfl ?_
 refine sq_split 32 J (fun g4 => ?_) (fun g4 => ?_)
 ·
  have g4' := g4
  try simp only [qq] at g4'
  have hwe : w ≠ [] := by simpa using g4
  refine sq_yes rfl rfl (less_b g4) rfl (ev_mv (v := .raw _) J) ?_
  refine sq_yes rfl rfl (less_b g4) rfl (ev_call en159 J (itoa_pure _ (by omega) (by omega)) ⟨J, trivial⟩) ?_
  refine sq_yes rfl rfl (less_b g4) rfl (ev_mv (v := .raw _) J) ?_
  refine sq_yes rfl rfl (less_b g4) rfl (ev_seqS J J) ?_
  refine sq_ev rfl (ev_pickT (v := .raw _) (less_b g4) J) ?_
  refine mvr J rfl ?_
  refine sq_call (args := [B _, S w]) rfl en161 J ⟨J, J, trivial⟩ (sure_pan _ _ _) ?_ ?_
  rotate_left
  ·
   (rintro v _ ⟨rfl, (⟨_, h⟩ | ⟨hb, h⟩)⟩ <;> cases h; exact ⟨rfl, .pan (.ifc 205 (.agg [S w])), numR_none (numO_itoa (by simpa [htk] using hb)), rfl, J⟩)
  rintro v _ ⟨rfl, (⟨hb, h⟩ | ⟨_, h⟩)⟩ <;> cases h
  refine sq_nil (aw_seq (aw_region (mvr J rfl (asr J rfl (sq_nil (aw_ret ?_))))))
  exact retQ_any (vs := [.raw _]) rfl rfl ⟨resVar_tmp _ _ _, trivial⟩ (⟨.ret (I (valN w)), numR_some (numO_some (fun i h => hds i h h) (h3 (List.length_pos_iff.2 hwe)) hwe (by simpa [htk] using hb)), rfl, Less.eq (by simp)⟩)
 have g4' := g4
 try simp only [qq] at g4'
 have hwe : w = [] := by simpa using g4
 refine sq_no rfl rfl (less_b g4) rfl rfl ?_
 refine sq_no rfl rfl (less_b g4) rfl rfl ?_
 refine sq_no rfl rfl (less_b g4) rfl rfl ?_
 refine sq_no rfl rfl (less_b g4) rfl rfl ?_
 refine sq_ev rfl (ev_pickF (v := .raw _) (less_b g4) J) ?_
 refine mvr J rfl ?_
 refine sq_call (args := [B false, S w]) rfl en161 J ⟨J, J, trivial⟩ (sure_pan _ _ _) ?_ ?_
 rotate_left
 ·
  (rintro v _ ⟨rfl, (⟨_, h⟩ | ⟨hb, h⟩)⟩ <;> cases h; exact ⟨rfl, .pan (.ifc 205 (.agg [S w])), numR_none (by subst hwe; exact numO_nil), rfl, J⟩)
 rintro v _ ⟨rfl, (⟨hb, _⟩ | ⟨_, h⟩)⟩
 ·
  cases hb
 cases h
theorem indexS_pure (l : List (List UInt8)) (v : List UInt8) (hl : l.length ≤ 1000000) : APure Tryz.prog 185 [strs l, S v] (I (ixQ (fun x => decide (v = x)) l)) := by
 refine apure_of (rs := [.tmp 4]) Tryz.func185 rfl rfl (Nat.le_of_ble_eq_true rfl) (by simp [AV.pureL, AV.pureB, AV.pureE, pureE_map]) (by first | rfl | (simp [AV.pureL, AV.pureB, AV.pureE, pureE_map])) fun e0 he0 => ?_
 refine aw_seq (aw_region ?_)
 refine asr J rfl (sq_nil (aw_seq (aw_seq (aw_region (mvs rfl J (sq_ev rfl (ev_len_map sl24 J) ?_))))))
 refine mvr J rfl (sq_nil (aw_block ?_))
 refine aw_loopk (ι := { k : Nat // k ≤ l.length ∧ ∀ i, (hi : i < l.length) → i < k → decide (v = l[i]) = false }) [0, 1, 7] (fun i => [(8, I i.1)]) (fun H i => H) (fun i => l.length - i.1) (⟨0, Nat.zero_le _, by omega⟩) ⟨J, J, J, J, trivial⟩ rfl ?_
 rintro ⟨k, hk, hok⟩
 dsimp only [keepS, St.put, sget, slotsOf, nn1, nn2, nn3, nn4, nn5, nn6, Nat.reduceBEq, Nat.reduceAdd, nn7, nn8]
 refine aw_seq (aw_region (sq_ev rfl (ev_lss J J) ?_))
 refine sq_nil (aw_seq ?_)
 refine aw_cond J (fun c_9 => ?_) (fun c_9 => ?_)
 ·
  have c_9' := c_9
  try simp only [qq] at c_9'
  have hkL : k < l.length := by omega
  refine aw_skip (aw_seq (aw_block (aw_seq (aw_region (mvr J rfl (asr J rfl ?_))))))
  refine sq_nil (aw_seq (aw_region (mvr J rfl (mvs rfl J (mvr J rfl (sq_ev rfl (ev_index_map sl24 J J rfl (by omega)) ?_))))))
  refine sq_ev rfl (ev_load_i J ty9 rfl) ?_
  refine sq_ev rfl (ev_seqS J J) ?_
  refine sq_nil ?_
  refine aw_cond J (fun c_16 => ?_) (fun c_16 => ?_)
  ·
   have c_16' := c_16
   try simp only [qq] at c_16'
   refine aw_seq (aw_region (mvr J rfl (asr J rfl (sq_nil (aw_ret ?_)))))
   exact retQ_pure (v := .raw _) rfl rfl (Less.eq (by rw [ixQ_at hkL (by simpa using c_16') hok]))
  have c_16' := c_16
  try simp only [qq] at c_16'
  refine aw_skip (aw_region (sq_ev rfl (ev_add J J (wr (by omega) (by omega))) ?_))
  refine mvr J rfl (sq_nil ?_)
  exact ⟨⟨k + 1, by omega, fun i hi h => (by by_cases e : i = k; (subst e; simpa using c_16'); exact hok i hi (by omega))⟩, by simp only; omega, Sub.slots ⟨J, J, J, J, trivial⟩⟩
 have c_9' := c_9
 try simp only [qq] at c_9'
 refine aw_exit (aw_seq (aw_region (asr J rfl (sq_nil (aw_ret ?_)))))
 exact retQ_pure (v := .raw _) rfl rfl (Less.eq (by rw [ixQ_no fun i hi => hok i hi (by omega)]))
theorem containsS_pure (l : List (List UInt8)) (v : List UInt8) (hl : l.length ≤ 1000000) : APure Tryz.prog 163 [strs l, S v] (B (decide (v ∈ l))) := by
 refine apure_of (rs := [.tmp 4]) Tryz.func163 rfl rfl (Nat.le_of_ble_eq_true rfl) (by simp [AV.pureL, AV.pureB, AV.pureE, pureE_map]) (by first | rfl | (simp [AV.pureL, AV.pureB, AV.pureE, pureE_map])) fun e0 he0 => ?_
 refine aw_seq (aw_region ?_)
 refine asr J rfl (sq_nil (aw_seq (aw_region (mvs rfl J (mvr J rfl (sq_ev rfl (ev_call en185 J (indexS_pure l v hl) ⟨J, J, trivial⟩) ?_))))))
 refine sq_ev rfl (ev_geq J J) ?_
 refine asr J rfl (sq_nil (aw_ret ?_))
 exact retQ_pure (v := .raw _) rfl rfl (Less.eq (by rw [← idx_mem]))
end Go.Proofs.YtmbknoaneglilaaGreatDoor
namespace Go.Proofs.YtmbknoaneglilaaGreatDoor
open Go Go.Ab Ni Ol
theorem bi23 : bldInfo Tryz.prog 23 = some ([.raw (.int .i64 0), .raw (.int .i64 0), .raw (.int .i64 0), .raw (.int .i64 0), .raw (.int .i64 0), .raw (.int .i64 0)], true, [(0, 1), (1, 1), (2, 1), (3, 1), (4, 1), (5, 1)], 0) := by kernel_rfl
theorem bi26 : bldInfo Tryz.prog 26 = some ([.raw (.slice none 0 0)], true, [(0, 1)], 0) := by kernel_rfl
theorem bi81 : bldInfo Tryz.prog 81 = some ([.raw (.int .i64 0), .raw (.int .i64 0), .raw (.int .i64 0), .raw (.int .i64 0), .raw (.int .i64 0), .raw (.int .i64 0), .raw (.slice none 0 0)], true, [(0, 6), (6, 1)], 0) := by kernel_rfl
theorem en124 : Ent Tryz.prog 124 := Ent.of Tryz.func124 (by kernel_rfl) rfl
theorem sf45 : SlFact Tryz.prog 45 26 1 24 := SlFact.of (by kernel_rfl)
theorem ty81 : tySz Tryz.prog 81 = some (true, 7) := by kernel_rfl
theorem z81 : zeroOf Tryz.prog 81 = some [.raw (.int .i64 0), .raw (.int .i64 0), .raw (.int .i64 0), .raw (.int .i64 0), .raw (.int .i64 0), .raw (.int .i64 0), .raw (.slice none 0 0)] := by kernel_rfl
def sgOf : List Int → Sg
  | [a, b, c, d, e, f] => ⟨a, b, c, d, e, f⟩
  | _ => default
def parse0 (s : List UInt8) : Option Bk := match cut 10 s with
  | r0 :: rs => if rs.length < 2 then none else match cut 32 r0 with
    | _ :: ws => if ws.length = 6 then (match numsO ws, rowsO (rs.take (rs.length - 2)) with
      | some ns, some l => some ⟨sgOf ns, l⟩
      | _, _ => none) else none
    | [] => none
  | [] => none
def parseB (s : List UInt8) : Option Bk := match parse0 s with
  | some b => if textB b = s then some b else none
  | none => none
def parsR (s : List UInt8) (x : ARes) : Prop := match parseB s with
  | some b => x = .ret (bkA b)
  | none => ∃ w, x = .pan (.ifc 205 (.agg [S w]))
theorem parsR_none {s : List UInt8} (h : parseB s = none) (w : List UInt8) : parsR s (.pan (.ifc 205 (.agg [S w]))) := by unfold parsR; rw [h]; exact ⟨w, rfl⟩
theorem parsR_some {s : List UInt8} {b : Bk} (h : parseB s = some b) : parsR s (.ret (bkA b)) := by unfold parsR; rw [h]
theorem parse_none {s : List UInt8} (h : parse0 s = none) : parseB s = none := by unfold parseB; rw [h]
theorem parse_rows {s r0 : List UInt8} {rs : List (List UInt8)} (h : cut 10 s = r0 :: rs) (h2 : rs.length < 2) : parseB s = none := parse_none (by unfold parse0; rw [h]; simp only; rw [if_pos h2])
theorem parse_head {s r0 : List UInt8} {rs : List (List UInt8)} (h : cut 10 s = r0 :: rs) (h2 : (cut 32 r0).length ≠ 7) : parseB s = none := parse_none (by
  unfold parse0; rw [h]; simp only
  split
  · rfl
  · split
    · rename_i ws hw; rw [hw] at h2; rw [if_neg (by simp at h2; exact h2)]
    · rfl)
theorem parse_nums {s r0 w0 : List UInt8} {rs ws : List (List UInt8)} (h : cut 10 s = r0 :: rs) (hw : cut 32 r0 = w0 :: ws) (hn : numsO ws = none) : parseB s = none := parse_none (by
  unfold parse0; rw [h]; simp only
  split
  · rfl
  · rw [hw]; simp only
    split
    · rw [hn]
    · rfl)
theorem parse_figs {s r0 : List UInt8} {rs : List (List UInt8)} (h : cut 10 s = r0 :: rs) (hn : rowsO (rs.take (rs.length - 2)) = none) : parseB s = none := parse_none (by
  unfold parse0; rw [h]; simp only
  split
  · rfl
  · split
    · split
      · rw [hn]; cases numsO _ <;> rfl
      · rfl
    · rfl)
theorem parse_all {s r0 w0 : List UInt8} {rs ws : List (List UInt8)} {ns : List Int} {l : List Fg} (h : cut 10 s = r0 :: rs) (h2 : ¬ rs.length < 2) (hw : cut 32 r0 = w0 :: ws) (h7 : ws.length = 6) (hn : numsO ws = some ns) (hl : rowsO (rs.take (rs.length - 2)) = some l) : parse0 s = some ⟨sgOf ns, l⟩ := by
  unfold parse0; rw [h]; simp only
  rw [if_neg h2, hw]; simp only
  rw [if_pos h7, hn, hl]
theorem rowO_0 {r : List UInt8} (h : ¬ 0 < ((cut 32 r).drop 1).length) : rowO r = none := by unfold rowO; rw [if_neg fun h2 => h h2.1]
theorem rowO_1 {r : List UInt8} (h : [] ∈ (cut 32 r).drop 1) : rowO r = none := by unfold rowO; rw [if_neg fun h2 => h2.2 h]
theorem rowO_2 {r : List UInt8} (h : 0 < ((cut 32 r).drop 1).length) (h2 : ¬ [] ∈ (cut 32 r).drop 1) : rowO r = some ((cut 32 r).drop 1) := by unfold rowO; rw [if_pos ⟨h, h2⟩]
theorem rowO_len {r : List UInt8} {f : Fg} (h : rowO r = some f) : sumL f ≤ r.length ∧ f.length ≤ r.length + 1 := by
  unfold rowO at h
  split at h
  · simp only [Option.some.injEq] at h; subst h
    have h1 := cut_len 32 r
    cases hc : cut 32 r with
    | nil => rw [hc] at h1; simp at h1
    | cons w l =>
      have h2 := cut_sum 32 r w l hc
      rw [hc] at h1
      simp only [List.drop_succ_cons, List.drop_zero, List.length_cons] at h1 ⊢
      omega
  · cases h
theorem midE {r0 : List UInt8} {rs : List (List UInt8)} (f : List UInt8 → List AV) (h : 2 ≤ rs.length) : AV.sl 1 ((((r0 :: rs).map f).take ((r0 :: rs).length - 2)).drop 1) = .sl 1 ((rs.take (rs.length - 2)).map f) := by
  congr 1
  have e1 : (r0 :: rs).length - 2 = (rs.length - 2) + 1 := by simp; omega
  rw [e1]; simp [List.map_take]
theorem six {α : Type} {l : List α} (h : l.length = 6) : ∃ a1 a2 a3 a4 a5 a6, l = [a1, a2, a3, a4, a5, a6] := by
  rcases l with _ | ⟨a1, _ | ⟨a2, _ | ⟨a3, _ | ⟨a4, _ | ⟨a5, _ | ⟨a6, _ | ⟨a7, l⟩⟩⟩⟩⟩⟩⟩ <;> simp at h
  exact ⟨_, _, _, _, _, _, rfl⟩
theorem smb_of {a1 a2 a3 a4 a5 a6 : List UInt8} {q : List Fg} {n : Nat} (hn : ∀ i (h : i < [a1, a2, a3, a4, a5, a6].length), numO [a1, a2, a3, a4, a5, a6][i] = some (valN [a1, a2, a3, a4, a5, a6][i])) (hq : q.length ≤ 1000)
    (hs : ∀ f ∈ q, ∃ r, rowO r = some f ∧ r.length ≤ 400) : SmB ⟨sgOf [valN a1, valN a2, valN a3, valN a4, valN a5, valN a6], q⟩ := by
  have b1 := numO_bd (hn 0 (by simp)); have b2 := numO_bd (hn 1 (by simp)); have b3 := numO_bd (hn 2 (by simp)); have b4 := numO_bd (hn 3 (by simp))
  have b5 := numO_bd (hn 4 (by simp)); have b6 := numO_bd (hn 5 (by simp))
  simp only [List.getElem_cons_zero, List.getElem_cons_succ] at b1 b2 b3 b4 b5 b6
  have hb : ∀ n ∈ stL (sgOf [valN a1, valN a2, valN a3, valN a4, valN a5, valN a6]), -1000000 ≤ n ∧ n ≤ 1000000 := fun n h => by
    simp only [stL, sgOf, List.mem_cons, List.not_mem_nil, or_false] at h
    rcases h with rfl | rfl | rfl | rfl | rfl | rfl <;> omega
  have hf : ∀ f ∈ q, sumL f ≤ 400 ∧ f.length ≤ 401 := fun f hf => by
    obtain ⟨r, h1, h2⟩ := hs f hf
    have := rowO_len h1; omega
  refine ⟨hb, fun f hh => by have := hf f hh; omega, fun r hr => ?_, hq⟩
  rcases rowsB_mem hr with rfl | ⟨f, hh, rfl⟩
  · unfold lineO nameW rowW
    rw [join_len]
    have key : ∀ l : List Int, (∀ n ∈ l, -1000000 ≤ n ∧ n ≤ 1000000) → sumL (l.map Lib.itoa) ≤ 9 * l.length := fun l => by
      induction l with
      | nil => intro _; simp [sumL]
      | cons n l ih =>
        intro h
        have h1 := itoa_len (h n (by simp))
        have h2 := ih fun m hm => h m (by simp [hm])
        simp only [sumL, List.map_cons, List.sum_cons, List.length_cons] at h2 ⊢
        omega
    have := key _ hb
    have e : (stL (sgOf [valN a1, valN a2, valN a3, valN a4, valN a5, valN a6])).length = 6 := rfl
    rw [e] at this
    have e2 : wStage.length = 5 := rfl
    simp only; omega
  · unfold lineO nameW rowW
    rw [join_len]
    have := hf f hh
    have e2 : wFigure.length = 6 := rfl
    simp only; omega
theorem parsed_pan (s : List UInt8) (hs : s.length ≤ 400) : APan Tryz.prog 124 [S s] (parsR s) := by
  refine APan.of_acall (by simp [AV.pureL, AV.pureB, AV.pureE, pureE_map]) (acall_of (rs := [.cell 2 81]) Tryz.func124 rfl rfl (Nat.le_of_ble_eq_true rfl) fun e0 he0 => ?_)
  refine aw_seq (aw_region ?_)
  refine sq_alloc rfl z81 ?_
  refine sq_nil (aw_seq (aw_region (mvr J rfl (sq_ev rfl (ev_call en160 J (split_pure s 10 (by omega)) ⟨J, J, trivial⟩) ?_))))
  refine ass rfl J (sq_nil (aw_seq ?_))
  generalize hR : cut 10 s = R
  have hRl := cut_len 10 s
  have hRm := cut_mem 10 s
  rw [hR] at hRl hRm
  obtain ⟨r0, rs, rfl⟩ : ∃ r0 rs, R = r0 :: rs := by cases R with | nil => simp at hRl | cons a l => exact ⟨a, l, rfl⟩
  refine aw_region (mvs rfl J (sq_ev rfl (ev_len_map sl24 J) ?_))
  refine sq_ev rfl (ev_geq J J) ?_
  refine mvr J rfl ?_
  refine sq_call (args := [B _, S s]) rfl en161 J ⟨J, J, trivial⟩ (sure_pan _ _ _) ?_ ?_
  rotate_left
  · (rintro v _ ⟨rfl, (⟨_, h⟩ | ⟨hb, h⟩)⟩ <;> cases h; exact ⟨rfl, .pan (.ifc 205 (.agg [S _])), parsR_none (parse_rows hR (by simp at hb; omega)) _, rfl, J⟩)
  rintro v _ ⟨rfl, (⟨hb1, h⟩ | ⟨_, h⟩)⟩ <;> cases h
  refine sq_nil (aw_seq ?_)
  have hr0 := hRm r0 (by simp)
  have hrs2 : 2 ≤ rs.length := by simp at hb1; omega
  have hrsl : rs.length ≤ s.length := by have h := hRl.1; rw [List.length_cons] at h; omega
  have hMl : (rs.take (rs.length - 2)).length ≤ rs.length := by rw [List.length_take]; omega
  refine aw_region (mvs rfl J (sq_ev rfl (ev_index_map (k := 0) sl24 J J rfl (by simp)) ?_))
  refine sq_ev rfl (ev_load_i J ty9 rfl) ?_
  refine sq_ev rfl (ev_call en160 J (split_pure r0 32 (by omega)) ⟨J, J, trivial⟩) ?_
  refine ass rfl J (sq_nil (aw_seq ?_))
  generalize hW : cut 32 r0 = W
  have hwl := cut_mem 32 r0
  rw [hW] at hwl
  refine aw_region (mvs rfl J (sq_ev rfl (ev_len_map sl24 J) ?_))
  refine sq_ev rfl (ev_eql J J) ?_
  refine mvr J rfl ?_
  refine sq_call (args := [B _, S s]) rfl en161 J ⟨J, J, trivial⟩ (sure_pan _ _ _) ?_ ?_
  rotate_left
  · (rintro v _ ⟨rfl, (⟨_, h⟩ | ⟨hb, h⟩)⟩ <;> cases h; exact ⟨rfl, .pan (.ifc 205 (.agg [S _])), parsR_none (parse_head hR (by rw [hW]; simp at hb; omega)) _, rfl, J⟩)
  rintro v _ ⟨rfl, (⟨hb2, h⟩ | ⟨_, h⟩)⟩ <;> cases h
  refine sq_nil (aw_seq ?_)
  obtain ⟨w0, ws, rfl⟩ : ∃ w0 ws, W = w0 :: ws := by cases W with | nil => simp at hb2 | cons a l => exact ⟨a, l, rfl⟩
  have hws7 : ws.length = 6 := by simp at hb2; omega
  have hWh := hW
  refine aw_region ?_
  refine asr J rfl (sq_nil (aw_seq (aw_seq (aw_region (mvs rfl J (sq_ev rfl (ev_less (ev_slice sl24 J J rfl (by simp) (by simp)) (Less.eq (b := .sl 1 (ws.map fun p => [S p])) (by simp [List.take_of_length_le]))) ?_))))))
  refine sq_ev rfl (ev_len_map sl24 J) ?_
  refine mvr J rfl (sq_nil (aw_block ?_))
  refine aw_sub (sub_token 5 1 J) ?_
  refine aw_loopk (ι := { k : Nat // k ≤ ws.length ∧ ∀ i, (h : i < ws.length) → i < k → numO ws[i] = some (valN ws[i]) }) [0, 2, 3, 29, 30] (fun i => [(31, I i.1), (5, .own 1 1 (((ws.take i.1).map valN).map fun x => [I x]))]) (fun H i => H.set 1 (.tok (((ws.take i.1).map valN).map fun x => [I x]).length)) (fun i => ws.length - i.1) (⟨0, Nat.zero_le _, by omega⟩) ⟨J, J, J, J, J, J, J, trivial⟩ rfl ?_
  rintro ⟨k, hk, hok⟩
  dsimp only [keepS, St.put, sget, slotsOf, List.map_cons, List.map_nil, List.cons_append, List.nil_append, List.length_cons, List.length_nil, Nat.reduceBEq, Nat.reduceAdd, cond_true, cond_false]
  refine aw_seq (aw_region (sq_ev rfl (ev_lss J J) ?_))
  refine sq_nil (aw_seq ?_)
  refine aw_cond J (fun c_32 => ?_) (fun c_32 => ?_)
  · skip
    have c_32' := c_32
    try simp only [qq] at c_32'
    have hk' : k < ws.length := by omega
    have eS : ((ws.take (k + 1)).map valN).map (fun x => [I x]) = ((ws.take k).map valN).map (fun x => [I x]) ++ [[I (valN ws[k])]] := by rw [map_take_succ _ hk', List.map_append]; rfl
    refine aw_skip (aw_seq (aw_block (aw_seq (aw_region (sq_ev rfl (ev_index_map sl24 J J rfl (by omega)) ?_)))))
    refine sq_ev rfl (ev_load_i J ty9 rfl) ?_
    refine asr J rfl (sq_nil (aw_region (sq_ev rfl (ev_mv (v := .own _ _ _) J) ?_)))
    refine mvr J rfl ?_
    refine sq_call (args := [S ws[k]]) rfl en162 J ⟨J, trivial⟩ (number_pan _ (by have := hwl ws[k] (by simp [List.getElem_mem]); omega) _) ?_ ?_
    rotate_left
    · (rintro v _ ⟨rfl, h⟩; obtain ⟨hn, rfl⟩ := numR_pan h; exact ⟨rfl, .pan (.ifc 205 (.agg [S _])), parsR_none (parse_nums hR hW (numsO_bad hk' hn)) _, rfl, J⟩)
    rintro v _ ⟨rfl, h⟩; obtain ⟨hn, rfl⟩ := numR_ret h
    refine sq_ev rfl (ev_buildSlice (es := [[_]]) sf64 rfl rfl rfl rfl) ?_
    refine sq_append rfl sf64 Tryz.underlying64 rfl rfl (less_slx _ _) (Nat.succ_pos _) (by simp; omega) (by simp; omega) ?_
    refine sq_ev rfl (ev_as (v := .own _ _ _) J) ?_
    refine sq_nil (aw_region (sq_ev rfl (ev_add J J (wr (by omega) (by omega))) ?_))
    refine mvr J rfl (sq_nil ?_)
    exact ⟨⟨k + 1, by omega, fun i h hi => (by by_cases e : i = k; (subst e; exact hn); exact hok i h (by omega))⟩, by simp only; omega, Sub.fin 2 ⟨J, Less.eq (b := .own 1 1 (((ws.take (k + 1)).map valN).map fun x => [I x])) (by rw [eS] <;> rfl), J, J, J, J, J, trivial⟩ (congrArg (fun n => [_, AObj.tok n]) (congrArg List.length eS.symm)) (by simp [slotsIn, objsIn, sget, keepS, AObj.inB, AV.inB, AV.inL, AV.inE, inE_map, inE_ints, inE_strs, inE_figs, inE_cloths, -List.map_append, -List.map_take, -List.map_map]) (by simp [slotsIn, objsIn, sget, keepS, AObj.inB, AV.inB, AV.inL, AV.inE, inE_map, inE_ints, inE_strs, inE_figs, inE_cloths, -List.map_append, -List.map_take, -List.map_map]) (by simp [he0])⟩
  · skip
    have c_32' := c_32
    try simp only [qq] at c_32'
    obtain rfl : k = ws.length := by omega
    have hns : numsO ws = some (ws.map valN) := numsO_ok (fun i h => hok i h (by omega))
    obtain ⟨a1, a2, a3, a4, a5, a6, rfl⟩ : ∃ a1 a2 a3 a4 a5 a6, ws = [a1, a2, a3, a4, a5, a6] := six hws7
    refine aw_exit (aw_seq ?_)
    refine aw_draw 21 mo (by kernel_rfl) ?_
    refine dr_ev rfl (ev_mv (v := .own _ _ _) J) ?_
    refine dr_ev rfl (ev_index_map (k := 0) sl64 (less_own _ _ _) J rfl (by simp)) ?_
    refine dr_ev rfl (ev_load_i J ty3 rfl) ?_
    refine dr_ev rfl (ev_mv (v := .own _ _ _) J) ?_
    refine dr_ev rfl (ev_index_map (k := 1) sl64 (less_own _ _ _) J rfl (by simp)) ?_
    refine dr_ev rfl (ev_load_i J ty3 rfl) ?_
    refine dr_ev rfl (ev_mv (v := .own _ _ _) J) ?_
    refine dr_ev rfl (ev_index_map (k := 2) sl64 (less_own _ _ _) J rfl (by simp)) ?_
    refine dr_ev rfl (ev_load_i J ty3 rfl) ?_
    refine dr_ev rfl (ev_mv (v := .own _ _ _) J) ?_
    refine dr_ev rfl (ev_index_map (k := 3) sl64 (less_own _ _ _) J rfl (by simp)) ?_
    refine dr_ev rfl (ev_load_i J ty3 rfl) ?_
    refine dr_ev rfl (ev_mv (v := .own _ _ _) J) ?_
    refine dr_ev rfl (ev_index_map (k := 4) sl64 (less_own _ _ _) J rfl (by simp)) ?_
    refine dr_ev rfl (ev_load_i J ty3 rfl) ?_
    refine dr_ev rfl (ev_mv (v := .own _ _ _) J) ?_
    refine dr_ev rfl (ev_index_map (k := 5) sl64 (less_own _ _ _) J rfl (by simp)) ?_
    refine dr_ev rfl (ev_load_i J ty3 rfl) ?_
    refine dr_ev rfl (ev_build bi23 rfl) ?_
    refine dr_ev rfl (ev_build bi81 rfl) ?_
    refine dr_alloc rfl z81 ?_
    refine dr_end ?_
    refine sq_store rfl J J rfl rfl ty81 rfl rfl ?_
    refine sq_nil (aw_seq (aw_seq (aw_region (mvs rfl J (mvs rfl J (sq_ev rfl (ev_len_map sl24 J) ?_))))))
    refine sq_ev rfl (ev_sub J J (wr (by omega) (by omega))) ?_
    refine sq_ev rfl (ev_less (ev_slice (lo := 1) (hi := (r0 :: rs).length - 2) sl24 J J (less_int (by simp; omega)) (by simp; omega) (by simp; omega)) (Less.eq (b := .sl 1 ((rs.take (rs.length - 2)).map fun p => [S p])) (midE _ hrs2))) ?_
    refine sq_ev rfl (ev_len_map sl24 J) ?_
    refine mvr J rfl (sq_nil (aw_block ?_))
    refine aw_sub (sub_token_cell 2 1 [I (valN a1), I (valN a2), I (valN a3), I (valN a4), I (valN a5), I (valN a6)] [] rfl) ?_
    refine aw_loopk (ι := { q : List Fg // q.length ≤ (rs.take (rs.length - 2)).length ∧ ∀ i, (h : i < q.length) → (h2 : i < (rs.take (rs.length - 2)).length) → rowO (rs.take (rs.length - 2))[i] = some q[i] }) [0, 2, 8, 65, 66] (fun q => [(67, I q.1.length)]) (fun H q => (H.set 2 (.cells ([I (valN a1), I (valN a2), I (valN a3), I (valN a4), I (valN a5), I (valN a6)] ++ [.own 3 1 (q.1.map fun f => [strs f])]))).set 3 (.tok (q.1.map fun f => [strs f]).length)) (fun q => (rs.take (rs.length - 2)).length - q.1.length) (⟨[], by simp, by simp⟩) ⟨(by exact less_int (by simp)), J, J, J, J, J, trivial⟩ rfl ?_
    rintro ⟨q, hq, hok2⟩
    dsimp only [keepS, St.put, sget, slotsOf, List.map_cons, List.map_nil, List.cons_append, List.nil_append, List.length_cons, List.length_nil, Nat.reduceBEq, Nat.reduceAdd, cond_true, cond_false]
    refine aw_seq (aw_region (sq_ev rfl (ev_lss J J) ?_))
    refine sq_nil (aw_seq ?_)
    refine aw_cond J (fun c_68 => ?_) (fun c_68 => ?_)
    · skip
      have c_68' := c_68
      try simp only [qq] at c_68'
      have hk : q.length < (rs.take (rs.length - 2)).length := by omega
      refine aw_skip (aw_seq (aw_block (aw_seq (aw_region (sq_ev rfl (ev_index_map sl24 J J rfl (by omega)) ?_)))))
      refine sq_ev rfl (ev_load_i J ty9 rfl) ?_
      refine asr J rfl (sq_nil (aw_seq ?_))
      generalize hr : (rs.take (rs.length - 2))[q.length] = r
      have hrl : r.length ≤ s.length := hr ▸ hRm _ (List.mem_cons_of_mem _ (List.mem_of_mem_take (List.getElem_mem hk)))
      refine aw_region (mvr J rfl (sq_ev rfl (ev_call en160 J (split_pure r 32 (by omega)) ⟨J, J, trivial⟩) ?_))
      refine sq_ev rfl (ev_less (ev_slice (lo := 1) sl24 J J rfl (by simp; have := (cut_len 32 r).2; omega) (by simp)) (Less.eq (b := strs ((cut 32 r).drop 1)) (by rw [List.take_of_length_le (by simp)]; simp only [strs, List.map_drop]))) ?_
      refine ass rfl J (sq_nil (aw_seq (aw_region (mvs rfl J (sq_ev rfl (ev_len_map sl24 J) ?_)))))
      refine sq_ev rfl (ev_gtr J J) ?_
      refine mvr J rfl ?_
      refine sq_split 77 J (fun g16_3 => ?_) (fun g16_3 => ?_)
      · skip
        have g16_3' := g16_3
        try simp only [qq] at g16_3'
        refine sq_yes rfl rfl (less_b g16_3) rfl (ev_mv (v := .sl _ _) J) ?_
        refine sq_yes rfl rfl (less_b g16_3) rfl (ev_call en163 J (containsS_pure ((cut 32 r).drop 1) [] (by rw [List.length_drop]; have := (cut_len 32 r).1; omega)) ⟨J, J, trivial⟩) ?_
        refine sq_yes rfl rfl (less_b g16_3) rfl (ev_not J) ?_
        refine sq_ev rfl (ev_pickT (v := .raw _) (less_b g16_3) J) ?_
        refine mvr J rfl ?_
        refine sq_call (args := [B _, S r]) rfl en161 J ⟨J, J, trivial⟩ (sure_pan _ _ _) ?_ ?_
        rotate_left
        · (rintro v _ ⟨rfl, (⟨_, h⟩ | ⟨hb, h⟩)⟩ <;> cases h; exact ⟨rfl, .pan (.ifc 205 (.agg [S _])), parsR_none (parse_figs hR (rowsO_bad hk (hr ▸ rowO_1 (by simpa using hb)))) _, rfl, J⟩)
        rintro v _ ⟨rfl, (⟨hb3, h⟩ | ⟨_, h⟩)⟩ <;> cases h
        refine sq_nil ?_
        have hx : rowO r = some ((cut 32 r).drop 1) := rowO_2 (by simpa using g16_3') (by simpa using hb3)
        have eS : (q ++ [((cut 32 r).drop 1)]).map (fun f => [strs f]) = q.map (fun f => [strs f]) ++ [[strs ((cut 32 r).drop 1)]] := by rw [List.map_append]; rfl
        refine aw_region (sq_ev rfl (ev_fieldAddr fo81_1 J) ?_)
        refine sq_ev rfl (ev_load J rfl ty45 rfl) ?_
        refine mvs rfl J (sq_ev rfl (ev_build bi26 rfl) ?_)
        refine sq_ev rfl (ev_buildSlice (es := [[_]]) sf45 rfl rfl rfl rfl) ?_
        refine sq_append rfl sf45 Tryz.underlying45 rfl rfl (less_slx _ _) (Nat.succ_pos _) (by simp; omega) (by simp; omega) ?_
        refine sq_ev rfl (ev_fieldAddr fo81_1 J) ?_
        refine sq_store rfl J J rfl rfl ty45 rfl rfl ?_
        refine sq_nil (aw_region (sq_ev rfl (ev_add J J (wr (by omega) (by omega))) ?_))
        refine mvr J rfl (sq_nil ?_)
        exact ⟨⟨q ++ [((cut 32 r).drop 1)], by simp only [List.length_append, List.length_singleton]; omega, rowsO_q (hk := hk) hok2 hr hx⟩, by simp only [List.length_append, List.length_singleton]; omega, Sub.fin 4 ⟨(by exact less_int (by simp)), J, J, J, J, J, trivial⟩ (congrArg (fun L => [_, _, AObj.cells ([I (valN a1), I (valN a2), I (valN a3), I (valN a4), I (valN a5), I (valN a6)] ++ [AV.own 3 1 L]), AObj.tok L.length]) eS.symm) (by simp [slotsIn, objsIn, sget, keepS, AObj.inB, AV.inB, AV.inL, AV.inE, inE_map, inE_ints, inE_strs, inE_figs, inE_cloths, -List.map_append, -List.map_take, -List.map_map]) (by simp [slotsIn, objsIn, sget, keepS, AObj.inB, AV.inB, AV.inL, AV.inE, inE_map, inE_ints, inE_strs, inE_figs, inE_cloths, -List.map_append, -List.map_take, -List.map_map]) (by simp [he0])⟩
      · skip
        have g16_3' := g16_3
        try simp only [qq] at g16_3'
        refine sq_no rfl rfl (less_b g16_3) rfl rfl ?_
        refine sq_no rfl rfl (less_b g16_3) rfl rfl ?_
        refine sq_no rfl rfl (less_b g16_3) rfl rfl ?_
        refine sq_ev rfl (ev_pickF (v := .raw _) (less_b g16_3) J) ?_
        refine mvr J rfl ?_
        refine sq_call (args := [B false, S r]) rfl en161 J ⟨J, J, trivial⟩ (sure_pan _ _ _) ?_ ?_
        rotate_left
        · (rintro v _ ⟨rfl, (⟨_, h⟩ | ⟨hb, h⟩)⟩ <;> cases h; exact ⟨rfl, .pan (.ifc 205 (.agg [S _])), parsR_none (parse_figs hR (rowsO_bad hk (hr ▸ rowO_0 (by simpa using g16_3')))) _, rfl, J⟩)
        rintro v _ ⟨rfl, (⟨hb, _⟩ | ⟨_, h⟩)⟩
        · cases hb
        · cases h
    · skip
      have c_68' := c_68
      try simp only [qq] at c_68'
      have hqe : q.length = (rs.take (rs.length - 2)).length := by omega
      have hsc : rowsO (rs.take (rs.length - 2)) = some q := rowsO_ok hqe (fun i h h2 => hok2 i h h2)
      have hhn : ∀ i (h : i < [a1, a2, a3, a4, a5, a6].length), numO [a1, a2, a3, a4, a5, a6][i] = some (valN [a1, a2, a3, a4, a5, a6][i]) := fun i h => hok i h h
      have sm0 := smb_of (n := 0) hhn (q := q) (by rw [hqe, List.length_take]; simp only [List.length_cons] at hRl; omega) (fun x hx => by obtain ⟨i, hi, rfl⟩ := List.getElem_of_mem hx; exact ⟨_, hok2 i hi (by omega), Nat.le_trans (hRm _ (List.mem_cons_of_mem _ (List.mem_of_mem_take (List.getElem_mem (by omega))))) hs⟩)
      obtain ⟨b, hP⟩ : ∃ b : Bk, b = ⟨sgOf [valN a1, valN a2, valN a3, valN a4, valN a5, valN a6], q⟩ := ⟨_, rfl⟩
      have hp0 : parse0 s = some b := by rw [hP]; exact parse_all hR (by omega) hWh hws7 hns hsc
      have sm : SmB b := by rw [hP]; exact sm0
      have hL : Less (.agg ([I (valN a1), I (valN a2), I (valN a3), I (valN a4), I (valN a5), I (valN a6)] ++ [.own 3 1 (q.map fun f => [strs f])])) (bkA b) := by rw [hP]; exact less_agg ⟨J, J, J, J, J, J, less_own _ _ _, trivial⟩
      refine aw_exit (aw_seq (aw_region (sq_ev rfl (ev_load_agg J rfl ty81 rfl) ?_)))
      refine sq_ev rfl (ev_call en122 J (text_pure b sm) ⟨hL, trivial⟩) ?_
      refine mvr J rfl (sq_ev rfl (ev_seqS J J) ?_)
      refine mvr J rfl ?_
      refine sq_call (args := [B _, S s]) rfl en161 J ⟨J, J, trivial⟩ (sure_pan _ _ _) ?_ ?_
      rotate_left
      · (rintro v _ ⟨rfl, (⟨_, h⟩ | ⟨hb, h⟩)⟩ <;> cases h; exact ⟨rfl, .pan (.ifc 205 (.agg [S _])), parsR_none (by unfold parseB; rw [hp0]; simp only; rw [if_neg (by simpa using hb)]) _, rfl, J⟩)
      rintro v _ ⟨rfl, (⟨hb4, h⟩ | ⟨_, h⟩)⟩ <;> cases h
      refine sq_nil (aw_seq (aw_region (sq_ev rfl (ev_load_agg J rfl ty81 rfl) ?_)))
      refine sq_store rfl J J rfl rfl ty81 rfl rfl ?_
      refine sq_nil (aw_ret ?_)
      exact retQ_any (vs := [.agg _]) rfl rfl ⟨resVar_cell rfl rfl ty81 rfl, trivial⟩ (⟨.ret (bkA b), parsR_some (by unfold parseB; rw [hp0]; simp only; rw [if_pos (by simpa using hb4)]), by simp [ARes.pureB, AV.pureL, AV.pureB, AV.pureE, pureE_map], hL⟩)
end Go.Proofs.YtmbknoaneglilaaGreatDoor
namespace Go.Proofs.YtmbknoaneglilaaGreatDoor
open Go Go.Ab Ni Ol
theorem en123 : Ent Tryz.prog 123 := Ent.of Tryz.func123 (by kernel_rfl) rfl
abbrev bk0 : Bk := ⟨⟨0, 0, 0, 0, 0, 0⟩, []⟩
theorem less_bk0 : Less (.agg [I 0, I 0, I 0, I 0, I 0, I 0, .raw (.slice none 0 0)]) (bkA bk0) :=
  less_agg ⟨J, J, J, J, J, J, less_nil 1, trivial⟩
abbrev z0 : List AV := [I 0, I 0, I 0, I 0, I 0, I 0, .raw (.slice none 0 0)]
def readE (s : List UInt8) : Bk × Int := if 400 < s.length then (bk0, 3) else match parseB s with
  | some b => if bkOK b = true then (b, 0) else (bk0, 2)
  | none => (bk0, 4)
abbrev readAV (s : List UInt8) : AV := .tup [bkA (readE s).1, I (readE s).2]
theorem readAV_pure (s : List UInt8) : (readAV s).pureB = true := by simp [AV.pureL, AV.pureB, AV.pureE, pureE_map]
theorem readE_long {s : List UInt8} (h : 400 < s.length) : readE s = (bk0, 3) := by unfold readE; rw [if_pos h]
theorem readE_none {s : List UInt8} (h : ¬ 400 < s.length) (h2 : parseB s = none) : readE s = (bk0, 4) := by unfold readE; rw [if_neg h, h2]
theorem readE_bad {s : List UInt8} {b : Bk} (h : ¬ 400 < s.length) (h2 : parseB s = some b) (h3 : bkOK b = false) : readE s = (bk0, 2) := by unfold readE; rw [if_neg h, h2]; simp only; rw [if_neg (by rw [h3]; simp)]
theorem readE_ok {s : List UInt8} {b : Bk} (h : ¬ 400 < s.length) (h2 : parseB s = some b) (h3 : bkOK b = true) : readE s = (b, 0) := by unfold readE; rw [if_neg h, h2]; simp only; rw [if_pos h3]
theorem parsR_ret {s : List UInt8} {b : Bk} {v : AV} (hp : parseB s = some b) (h : parsR s (.ret v)) : v = bkA b := by unfold parsR at h; rw [hp] at h; cases h; rfl
theorem parsR_yes {s : List UInt8} {b : Bk} {v : AV} (hp : parseB s = some b) (h : parsR s (.pan v)) : False := by unfold parsR at h; rw [hp] at h; cases h
theorem parsR_no {s : List UInt8} {v : AV} (hp : parseB s = none) (h : parsR s (.ret v)) : False := by unfold parsR at h; rw [hp] at h; obtain ⟨w, h⟩ := h; cases h
theorem parsR_pan {s : List UInt8} {v : AV} (hp : parseB s = none) (h : parsR s (.pan v)) : ∃ w, v = .ifc 205 (.agg [S w]) := by unfold parsR at h; rw [hp] at h; obtain ⟨w, h⟩ := h; cases h; exact ⟨w, rfl⟩
theorem read1_yes {s : List UInt8} {b : Bk} {i j : Nat} {H : List AObj} (hs : s.length ≤ 400) (hp : parseB s = some b) (hi : H[i]? = some (.cells [S s])) (hj : H[j]? = some (.cells z0)) :
    ACall Tryz.prog 123 [.ptr i 0, .ptr j 0] H fun x H' => H' = H.set j (.cells (bkC b)) ∧ x = .ret (.tup []) := by
  refine acall_of (rs := []) Tryz.func123 rfl rfl (Nat.le_of_ble_eq_true rfl) fun e0 he0 => ?_
  refine aw_region (sq_ev rfl (ev_load J hi ty9 rfl) ?_)
  refine sq_call (first := []) (cap := []) (args := [S s]) rfl en124 J ⟨J, trivial⟩ (parsed_pan s hs H) ?_ ?_
  · rintro v _ ⟨rfl, hR⟩
    obtain rfl := parsR_ret hp hR
    refine sq_store (j := j) (off := 0) rfl J J rfl hj ty81 rfl rfl ?_
    refine sq_nil ?_
    exact ⟨rfl, .tup [], rfl, rfl, rfl⟩
  · rintro v _ ⟨rfl, hR⟩
    exact (parsR_yes hp hR).elim
theorem read1_no {s : List UInt8} {i j : Nat} {H : List AObj} (hs : s.length ≤ 400) (hp : parseB s = none) (hi : H[i]? = some (.cells [S s])) :
    ACall Tryz.prog 123 [.ptr i 0, .ptr j 0] H fun x H' => H' = H ∧ ∃ w, x = .pan (.ifc 205 (.agg [S w])) := by
  refine acall_of (rs := []) Tryz.func123 rfl rfl (Nat.le_of_ble_eq_true rfl) fun e0 he0 => ?_
  refine aw_region (sq_ev rfl (ev_load J hi ty9 rfl) ?_)
  refine sq_call (first := []) (cap := []) (args := [S s]) rfl en124 J ⟨J, trivial⟩ (parsed_pan s hs H) ?_ ?_
  · rintro v _ ⟨rfl, hR⟩
    exact (parsR_no hp hR).elim
  · rintro v _ ⟨rfl, hR⟩
    obtain ⟨w, rfl⟩ := parsR_pan hp hR
    exact ⟨rfl, rfl, w, rfl⟩
theorem attread_yes {s : List UInt8} {b : Bk} {i j : Nat} {H : List AObj} (hs : s.length ≤ 400) (hp : parseB s = some b) (hi : H[i]? = some (.cells [S s])) (hj : H[j]? = some (.cells z0)) (hin : objsIn H.length (H.set j (.cells (bkC b))) = true) :
    ACall Tryz.prog 115 [.fn (.func 123) [] [.ptr i 0, .ptr j 0]] H fun x H' => H' = H.set j (.cells (bkC b)) ∧ x = .ret (.tup [I 0, I 0, I 0]) := by
  refine ACall.drop (H1 := H.set j (.cells (bkC b))) (R := fun x => x = .ret (.tup [I 0, I 0, I 0])) ?_ (by simp) (by simpa using hin) (fun x hx => by subst hx; rfl)
  refine (attempt_call (first := []) (caps := [.ptr i 0, .ptr j 0]) (Rd := fun x H1 => H1 = H.set j (.cells (bkC b)) ∧ x = .ret (.tup [])) en123
    ((read1_yes hs hp (i := i) (j := j) (lookL hi) (lookL hj)).mono ?_)).mono ?_
  · rintro x _ ⟨rfl, rfl⟩
    exact ⟨H.set j (.cells (bkC b)), [], by rw [setL (lt_of_get? hj)]; simp, by simp, ⟨rfl, rfl⟩, _, Gave.ret _⟩
  · rintro x H' ⟨y, v, H1, X, rfl, hg, ⟨rfl, rfl⟩, rfl⟩
    refine ⟨⟨X, rfl⟩, ?_⟩
    cases hg; rfl
theorem attread_no {s : List UInt8} {i j : Nat} {H : List AObj} (hs : s.length ≤ 400) (hp : parseB s = none) (hi : H[i]? = some (.cells [S s])) (hin : objsIn H.length H = true) :
    ACall Tryz.prog 115 [.fn (.func 123) [] [.ptr i 0, .ptr j 0]] H fun x H' => H' = H ∧ x = .ret (.tup [I 0, I 0, I 4]) := by
  refine ACall.drop (R := fun x => x = .ret (.tup [I 0, I 0, I 4])) ?_ (Nat.le_refl _) hin (fun x hx => by subst hx; rfl)
  refine (attempt_call (first := []) (caps := [.ptr i 0, .ptr j 0]) (Rd := fun x H1 => H1 = H ∧ ∃ w, x = .pan (.ifc 205 (.agg [S w]))) en123
    ((read1_no hs hp (i := i) (j := j) (lookL hi)).mono ?_)).mono ?_
  · rintro x _ ⟨rfl, w, rfl⟩
    exact ⟨H, [], by simp, rfl, ⟨rfl, w, rfl⟩, _, Gave.book (S w) rfl⟩
  · rintro x H' ⟨y, v, H1, X, rfl, hg, ⟨rfl, w, rfl⟩, rfl⟩
    refine ⟨⟨X, rfl⟩, ?_⟩
    cases hg; rfl
theorem readL_pure (s : List UInt8) (hs : 400 < s.length) : APure Tryz.prog 56 [S s] (readAV s) := by
  refine apure_of (rs := [.cell 2 81, .tmp 3]) Tryz.func56 rfl rfl (Nat.le_of_ble_eq_true rfl) (by simp [AV.pureL, AV.pureB, AV.pureE, pureE_map]) (readAV_pure s) fun e0 he0 => ?_
  refine aw_seq (aw_region (sq_box rfl J rfl ?_))
  refine sq_alloc rfl z81 ?_
  refine asr J rfl (sq_nil (aw_seq (aw_seq (aw_region (sq_ev rfl (ev_load J rfl ty9 rfl) ?_)))))
  refine sq_ev rfl (ev_lenS Tryz.underlying9 J) ?_
  refine sq_ev rfl (ev_gtr J J) ?_
  refine sq_nil ?_
  refine aw_cond J (fun c_10 => ?_) (fun c_10 => ?_)
  · skip
    have c_10' := c_10
    try simp only [qq] at c_10'
    refine aw_seq (aw_region (sq_ev rfl (ev_build bi81 rfl) ?_))
    refine sq_store rfl J J rfl rfl ty81 rfl rfl ?_
    refine asr J rfl (sq_nil (aw_ret ?_))
    exact retQ_res (vs := [.agg _, .raw _]) rfl rfl ⟨resVar_cell rfl rfl ty81 rfl, resVar_tmp _ _ _, trivial⟩ (Less.trans (b := .tup [bkA bk0, I 3]) (less_tup ⟨less_bk0, J, trivial⟩) (Less.eq (by rw [readAV, readE_long hs])))
  · skip
    have c_10' := c_10
    try simp only [qq] at c_10'
    exfalso; omega
theorem readN_pure (s : List UInt8) (hs : ¬ 400 < s.length) (hp : parseB s = none) : APure Tryz.prog 56 [S s] (readAV s) := by
 refine apure_of (rs := [.cell 2 81, .tmp 3]) Tryz.func56 rfl rfl (Nat.le_of_ble_eq_true rfl) (by simp [AV.pureL, AV.pureB, AV.pureE, pureE_map]) (readAV_pure s) fun e0 he0 => ?_
 refine aw_seq (aw_region (sq_box rfl J rfl ?_))
 refine sq_alloc rfl z81 ?_
 refine asr J rfl (sq_nil (aw_seq (aw_seq (aw_region (sq_ev rfl (ev_load J rfl ty9 rfl) ?_)))))
 refine sq_ev rfl (ev_lenS Tryz.underlying9 J) ?_
 refine sq_ev rfl (ev_gtr J J) ?_
 refine sq_nil ?_
 refine aw_cond J (fun c_10 => ?_) (fun c_10 => ?_)
 ·
  have c_10' := c_10
  try simp only [qq] at c_10'
  exfalso; omega
 have c_10' := c_10
 try simp only [qq] at c_10'
 refine aw_skip (aw_seq (aw_region ?_))
 refine sq_alloc rfl z81 ?_
 refine sq_nil (aw_seq (aw_seq (aw_region (sq_ev rfl (ev_makeFunc) ?_))))
 refine sq_call (args := [.fn (.func 123) [] [.ptr 0 0, .ptr 2 0]]) rfl en115 J ⟨J, trivial⟩ (attread_no (H := [.cells [S s], .cells z0, .cells z0]) (i := 0) (j := 2) (by omega) hp rfl (by simp [objsIn, AObj.inB, AV.inB, AV.inL, AV.inE, inE_map, inE_ints, inE_figs, inE_strs])) ?_ (by rintro v H' ⟨_, h⟩; cases h)
 rintro _ _ ⟨rfl, h⟩; cases h
 refine sq_ev rfl (ev_mv (v := .tup _) J) ?_
 refine xtr rfl J rfl (xtr rfl J rfl (xtr rfl J rfl (asr J rfl ?_)))
 refine asr J rfl (asr J rfl (sq_nil (aw_seq (aw_region (mvr J rfl (sq_ev rfl (ev_neq J J) ?_))))))
 refine sq_nil ?_
 refine aw_cond J (fun c_19 => ?_) (fun c_19 => ?_)
 ·
  have c_19' := c_19
  try simp only [qq] at c_19'
  refine aw_seq (aw_region (sq_ev rfl (ev_build bi81 rfl) ?_))
  refine mvr J rfl ?_
  refine sq_store rfl J J rfl rfl ty81 rfl rfl ?_
  refine asr J rfl (sq_nil (aw_ret ?_))
  exact retQ_res (vs := [.agg _, .raw _]) rfl rfl ⟨resVar_cell rfl rfl ty81 rfl, resVar_tmp _ _ _, trivial⟩ (Less.trans (b := .tup [bkA bk0, I 4]) (less_tup ⟨less_bk0, J, trivial⟩) (Less.eq (by rw [readAV, readE_none hs hp])))
 have c_19' := c_19
 try simp only [qq] at c_19'
 exact absurd c_19' (by decide)
theorem readS_pure (s : List UInt8) (b : Bk) (hs : ¬ 400 < s.length) (hp : parseB s = some b) (hl : b.l.length ≤ 1000000) : APure Tryz.prog 56 [S s] (readAV s) := by
 refine apure_of (rs := [.cell 2 81, .tmp 3]) Tryz.func56 rfl rfl (Nat.le_of_ble_eq_true rfl) (by simp [AV.pureL, AV.pureB, AV.pureE, pureE_map]) (readAV_pure s) fun e0 he0 => ?_
 refine aw_seq (aw_region (sq_box rfl J rfl ?_))
 refine sq_alloc rfl z81 ?_
 refine asr J rfl (sq_nil (aw_seq (aw_seq (aw_region (sq_ev rfl (ev_load J rfl ty9 rfl) ?_)))))
 refine sq_ev rfl (ev_lenS Tryz.underlying9 J) ?_
 refine sq_ev rfl (ev_gtr J J) ?_
 refine sq_nil ?_
 refine aw_cond J (fun c_10 => ?_) (fun c_10 => ?_)
 ·
  have c_10' := c_10
  try simp only [qq] at c_10'
  exfalso; omega
 have c_10' := c_10
 try simp only [qq] at c_10'
 refine aw_skip (aw_seq (aw_region ?_))
 refine sq_alloc rfl z81 ?_
 refine sq_nil (aw_seq (aw_seq (aw_region (sq_ev rfl (ev_makeFunc) ?_))))
 refine sq_call (args := [.fn (.func 123) [] [.ptr 0 0, .ptr 2 0]]) rfl en115 J ⟨J, trivial⟩ (attread_yes (H := [.cells [S s], .cells z0, .cells z0]) (i := 0) (j := 2) (by omega) hp rfl rfl (by simp [objsIn, AObj.inB, AV.inB, AV.inL, AV.inE, inE_map, inE_ints, inE_figs, inE_strs])) ?_ (by rintro v H' ⟨_, h⟩; cases h)
 rintro _ _ ⟨rfl, h⟩; cases h
 refine sq_ev rfl (ev_mv (v := .tup _) J) ?_
 refine xtr rfl J rfl (xtr rfl J rfl (xtr rfl J rfl (asr J rfl ?_)))
 refine asr J rfl (asr J rfl (sq_nil (aw_seq (aw_region (mvr J rfl (sq_ev rfl (ev_neq J J) ?_))))))
 refine sq_nil ?_
 refine aw_cond J (fun c_19 => ?_) (fun c_19 => ?_)
 ·
  have c_19' := c_19
  try simp only [qq] at c_19'
  exact absurd trivial c_19'
 have c_19' := c_19
 try simp only [qq] at c_19'
 refine aw_skip (aw_seq (aw_seq (aw_region (sq_ev rfl (ev_load_agg J rfl ty81 rfl) ?_))))
 refine sq_ev rfl (ev_call en121 J (isbook_pure b hl) ⟨J, trivial⟩) ?_
 refine sq_ev rfl (ev_not J) ?_
 refine sq_nil ?_
 refine aw_cond J (fun c_24 => ?_) (fun c_24 => ?_)
 ·
  have c_24' := c_24
  try simp only [qq] at c_24'
  refine aw_seq (aw_region (sq_ev rfl (ev_build bi81 rfl) ?_))
  refine sq_store rfl J J rfl rfl ty81 rfl rfl ?_
  refine asr J rfl (sq_nil (aw_ret ?_))
  exact retQ_res (vs := [.agg _, .raw _]) rfl rfl ⟨resVar_cell rfl rfl ty81 rfl, resVar_tmp _ _ _, trivial⟩ (Less.trans (b := .tup [bkA bk0, I 2]) (less_tup ⟨less_bk0, J, trivial⟩) (Less.eq (by rw [readAV, readE_bad hs hp (by simpa using c_24)])))
 have c_24' := c_24
 try simp only [qq] at c_24'
 refine aw_skip (aw_seq (aw_region (sq_ev rfl (ev_load_agg J rfl ty81 rfl) ?_)))
 refine sq_store rfl J J rfl rfl ty81 rfl rfl ?_
 refine asr J rfl (sq_nil (aw_ret ?_))
 exact retQ_res (vs := [.agg _, .raw _]) rfl rfl ⟨resVar_cell rfl rfl ty81 rfl, resVar_tmp _ _ _, trivial⟩ (Less.trans (b := .tup [bkA b, I 0]) (less_tup ⟨J, J, trivial⟩) (Less.eq (by rw [readAV, readE_ok hs hp (by simpa using c_24)])))
theorem rowsO_len : ∀ {ws : List (List UInt8)} {l : List Fg}, rowsO ws = some l → l.length = ws.length
  | [], l, h => by simp [rowsO] at h; subst h; rfl
  | w :: ws, l, h => by
    unfold rowsO at h
    split at h
    · rename_i n l' h1 h2
      simp only [Option.some.injEq] at h; subst h
      simp [rowsO_len h2]
    · cases h
theorem parse0_len {s : List UInt8} {b : Bk} (h : parse0 s = some b) : b.l.length ≤ s.length := by
  unfold parse0 at h
  have hc := (cut_len 10 s).1
  split at h
  · rename_i r0 rs hr
    rw [hr] at hc; simp only [List.length_cons] at hc
    split at h
    · cases h
    · split at h
      · split at h
        · split at h
          · rename_i ns l hn hl
            simp only [Option.some.injEq] at h; subst h
            rw [rowsO_len hl, List.length_take]; omega
          · cases h
        · cases h
      · cases h
  · cases h
theorem parseB_len {s : List UInt8} {b : Bk} (h : parseB s = some b) : b.l.length ≤ s.length := by
  unfold parseB at h
  split at h
  · rename_i q hq
    split at h
    · simp only [Option.some.injEq] at h; subst h; exact parse0_len hq
    · cases h
  · cases h
/-- **Read.** -/
theorem read_pure (s : List UInt8) : APure Tryz.prog 56 [S s] (readAV s) := by
  by_cases hs : 400 < s.length
  · exact readL_pure s hs
  · cases hp : parseB s with
    | none => exact readN_pure s hs hp
    | some b => exact readS_pure s b hs hp (by have := parseB_len hp; omega)
end Go.Proofs.YtmbknoaneglilaaGreatDoor
