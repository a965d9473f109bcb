/-
  A part of the proof: conditions: none beyond each theorem's own.
-/
import Derived.Test.YtmbknoaneglilaaGreatDoorWalkA
import Derived.Test.YtmbknoaneglilaaGreatDoorShelf
import Derived.Test.YtmbknoaneglilaaGreatDoorSpecA
set_option linter.all false
set_option maxHeartbeats 8000000
namespace Go.Proofs.YtmbknoaneglilaaGreatDoor
open Go Go.Ab Ni Ol
theorem en147 : Ent Tryz.prog 147 := Ent.of Tryz.func147 (by kernel_rfl) rfl
theorem en148 : Ent Tryz.prog 148 := Ent.of Tryz.func148 (by kernel_rfl) rfl
theorem sf24 : SlFact Tryz.prog 24 9 1 16 := SlFact.of (by kernel_rfl)
theorem z191 : zeroOf Tryz.prog 191 = some [.raw (.pointer none), .raw (.slice none 0 0)] := by kernel_rfl
theorem inE_ints (n : Nat) (l : List Int) : AV.inE n (l.map fun x => [I x]) = true := inE_map fun x _ => by simp [AV.inL, AV.inB]
theorem inE_strs (n : Nat) (l : List (List UInt8)) : AV.inE n (l.map fun x => [S x]) = true := inE_map fun x _ => by simp [AV.inL, AV.inB]
theorem inE_figs (n : Nat) (l : List Fg) : AV.inE n (l.map fun f => [strs f]) = true := inE_map fun x _ => by simp [AV.inL, AV.inB, inE_strs]
theorem inE_cloths (n : Nat) (l : List (List (List UInt8))) : AV.inE n (l.map fun f => [strs f]) = true := inE_map fun x _ => by simp [AV.inL, AV.inB, inE_strs]
def bb (k : Nat) : Nat → AV | 0 => .raw (.pointer none) | _ + 1 => .ptr k 0
theorem bb_in (n : Nat) : AV.inB 4 (bb 2 n) = true := by cases n <;> rfl
theorem bb_or (k n : Nat) : bb k n = .raw (.pointer none) ∨ bb k n = .ptr k 0 := by cases n with | zero => exact .inl rfl | succ n => exact .inr rfl
def rowT (c : Ca) (m : Nat) (k : Nat) : List UInt8 := (List.range k).map fun (i : Nat) => c.cell (i : Int) (m : Int)
theorem rowT_len (c : Ca) (m k : Nat) : (rowT c m k).length = k := by simp [rowT]
theorem rowT_succ (c : Ca) (m k : Nat) : rowT c m (k + 1) = rowT c m k ++ [c.cell (k : Int) (m : Int)] := by unfold rowT; rw [List.range_succ]; simp
theorem shad_len (c : Ca) : c.shadow.length = c.s.high.toNat := by simp [Ca.shadow]
theorem shad_row {c : Ca} {m : Nat} (h : m < c.shadow.length) : c.shadow[m] = c.srow m := by simp [Ca.shadow]
theorem srow_len (c : Ca) (m : Nat) : (c.srow m).length = c.s.wide.toNat := by simp [Ca.srow]
theorem srow_cell {c : Ca} {m k : Nat} (h : k < (c.srow m).length) : (c.srow m)[k] = c.cell (k : Int) (m : Int) := by simp [Ca.srow]
theorem ncount1_pure (s : List UInt8) (ch : UInt8) : APure Tryz.prog 148 [S s, S [ch]] (I (s.count ch)) :=
  apure_of_calls (vs := [.string ⟨s.toArray⟩, .string ⟨#[ch]⟩]) fun w hw => (Tryz.strings_Count_one ⟨s.toArray⟩ ch w).mono fun _ _ ⟨h1, h2⟩ => ⟨by rw [h1]; rfl, by rw [h2]; exact ⟨rfl, rfl⟩, #[], by rw [h2]; simp⟩
theorem cnt_take {ch : UInt8} {l : List (List UInt8)} {k : Nat} (h : k < l.length) : cnt ch (l.take (k + 1)) = cnt ch (l.take k) + (l[k].count ch : Int) := by
  unfold cnt; rw [List.take_succ_eq_append_getElem h, List.map_append, List.sum_append]; simp
theorem cnt_bd (ch : UInt8) : ∀ (l : List (List UInt8)) (n : Nat), (∀ r ∈ l, r.length ≤ n) → 0 ≤ cnt ch l ∧ cnt ch l ≤ (l.length : Int) * n
  | [], n, _ => by simp [cnt]
  | r :: l, n, h => by
    have h1 := cnt_bd ch l n fun x hx => h x (List.mem_cons_of_mem _ hx)
    have h2 : r.count ch ≤ n := Nat.le_trans List.count_le_length (h r (List.mem_cons_self ..))
    have e : cnt ch (r :: l) = (r.count ch : Int) + cnt ch l := by unfold cnt; simp
    rw [e, List.length_cons, Int.natCast_add, Int.add_mul]
    omega
theorem shadow_pure {c : Ca} (hc : CaB c) : APure Tryz.prog 98 [caA c] (strs c.shadow) := by
  refine apure_of (rs := [.tmp 2]) Tryz.func98 rfl rfl (Nat.le_of_ble_eq_true rfl) (by simp [AV.pureL, AV.pureB, AV.pureE, pureE_map]) (by first | rfl | (simp [AV.pureL, AV.pureB, AV.pureE, pureE_map])) fun e0 he0 => ?_
  refine aw_seq (aw_region (sq_box rfl J rfl (asr J rfl (sq_nil (aw_seq ?_)))))
  obtain ⟨s1, s2, s3, s4, s5, s6⟩ := hc.st
  refine aw_region (asr J rfl (sq_nil (aw_seq (aw_seq (aw_region (sq_ev rfl (ev_fieldAddr fo139_0 J) ?_))))))
  refine sq_ev rfl (ev_fieldAddr fo23_1 J) ?_
  refine sq_ev rfl (ev_load J rfl ty3 rfl) ?_
  refine mvr J rfl (sq_nil (aw_block ?_))
  refine aw_sub (sub_token 3 1 J) ?_
  refine aw_loopk (ι := { k : Nat // k ≤ c.s.high.toNat }) [1, 9] (fun i => [(10, I i.1), (3, .own 1 1 (((List.range i.1).map c.srow).map fun x => [S x]))]) (fun H i => H.set 1 (.tok (((List.range i.1).map c.srow).map fun x => [S x]).length)) (fun i => c.s.high.toNat - i.1) (⟨0, Nat.zero_le _⟩) ⟨J, J, J, J, trivial⟩ rfl ?_
  rintro ⟨m, hm⟩
  dsimp only [keepS, St.put, sget, slotsOf, nn1, nn2, nn3, nn4, nn5, nn6, Nat.reduceBEq, Nat.reduceAdd, nn7, nn8]
  refine aw_seq (aw_region (sq_ev rfl (ev_lss J J) ?_))
  refine sq_nil (aw_seq ?_)
  refine aw_cond J (fun c_11 => ?_) (fun c_11 => ?_)
  · skip
    have c_11' := c_11
    try simp only [qq] at c_11'
    have hmh : m < c.s.high.toNat := by omega
    have hrl := rowT_len c m c.s.wide.toNat
    have eS : ((List.range (m + 1)).map c.srow).map (fun x => [S x]) = ((List.range m).map c.srow).map (fun x => [S x]) ++ [[S (c.srow m)]] := by rw [List.range_succ]; simp
    refine aw_skip (aw_seq (aw_block (aw_seq (aw_region (mvr J rfl (asr J rfl (sq_nil (aw_seq (aw_region ?_)))))))))
    refine sq_alloc_t rfl z191 ?_
    refine sq_nil (aw_seq (aw_seq (aw_region (sq_ev rfl (ev_fieldAddr fo139_0 J) ?_))))
    refine sq_ev rfl (ev_fieldAddr fo23_0 J) ?_
    refine sq_ev rfl (ev_load J rfl ty3 rfl) ?_
    refine mvr J rfl (sq_nil (aw_block ?_))
    refine aw_sub (sub_bld (k := 2) (bt := 191) (et := 5) (a := .raw (.pointer none)) rfl) ?_
    dsimp only [keepS, St.put, sget, slotsOf, nn1, nn2, nn3, nn4, nn5, nn6, Nat.reduceBEq, Nat.reduceAdd, nn7, nn8]
    refine aw_loopk (ι := { k : Nat // k ≤ c.s.wide.toNat }) [1, 3, 4, 5, 9, 10, 15] (fun i => [(16, I i.1)]) (fun H i => (H.set 2 (.tcells 191 [bb 2 i.1, .ownb 3 1 5 (bys (rowT c m i.1))])).set 3 (.tok (rowT c m i.1).length)) (fun i => c.s.wide.toNat - i.1) (⟨0, Nat.zero_le _⟩) ⟨J, J, J, J, J, J, J, J, trivial⟩ rfl ?_
    rintro ⟨k, hk2⟩
    dsimp only [keepS, St.put, sget, slotsOf, nn1, nn2, nn3, nn4, nn5, nn6, Nat.reduceBEq, Nat.reduceAdd, nn7, nn8]
    refine aw_seq (aw_region (sq_ev rfl (ev_lss J J) ?_))
    refine sq_nil (aw_seq ?_)
    refine aw_cond J (fun c_17 => ?_) (fun c_17 => ?_)
    · skip
      have c_17' := c_17
      try simp only [qq] at c_17'
      have hkw : k < c.s.wide.toNat := by omega
      refine aw_skip (aw_seq (aw_block (aw_seq (aw_region (mvr J rfl (asr J rfl (sq_nil (aw_region (sq_ev rfl (ev_load_agg J rfl ty139 rfl) ?_)))))))))
      refine mvr J rfl (mvr J rfl (sq_ev rfl (ev_call en147 J (cell_pure hc (by omega) (by omega)) ⟨J, J, J, trivial⟩) ?_))
      refine sq_call (args := [.ptr 2 0, C (c.cell k m)]) rfl en144 J ⟨J, J, trivial⟩ (writebyte_call (k := 2) (j := 3) (l := rowT c m k) (c := c.cell k m) (bb_or 2 k) rfl rfl (by rw [rowT_len]; omega)) ?_ (by rintro v H' ⟨h, _⟩; cases h)
      rintro _ _ ⟨h, rfl⟩
      cases h
      refine sq_nil (aw_region (sq_ev rfl (ev_add J J (wr (by omega) (by omega))) ?_))
      refine mvr J rfl (sq_nil ?_)
      exact ⟨⟨k + 1, by omega⟩, by simp only; omega, Sub.fin 4 ⟨J, J, J, J, J, J, J, J, trivial⟩ (congrArg (fun l => [_, _, AObj.tcells 191 [.ptr 2 0, .ownb 3 1 5 (bys l)], .tok l.length]) (rowT_succ c m k).symm) (by simp [slotsIn, objsIn, sget, keepS, AObj.inB, AV.inB, AV.inL, AV.inE, inE_map, bb_in, inE_ints, inE_strs, inE_figs, inE_cloths, -List.map_append, -List.map_take, -List.map_map]) (by simp [slotsIn, objsIn, sget, keepS, AObj.inB, AV.inB, AV.inL, AV.inE, inE_map, bb_in, inE_ints, inE_strs, inE_figs, inE_cloths, -List.map_append, -List.map_take, -List.map_map]) (by simp [he0])⟩
    · skip
      have c_17' := c_17
      try simp only [qq] at c_17'
      obtain rfl : k = c.s.wide.toNat := by omega
      refine aw_exit (aw_region (sq_ev rfl (ev_mv (v := .own _ _ _) J) ?_))
      refine sq_call (args := [.ptr 2 0]) rfl en145 J ⟨J, trivial⟩ (bstring_call (k := 2) (j := 3) (l := rowT c m c.s.wide.toNat) rfl rfl (by intro h; have := congrArg List.length h; rw [rowT_len] at this; simp at this; omega) (by rw [rowT_len]; omega)) ?_ (by rintro v H' ⟨h, _⟩; cases h)
      rintro _ _ ⟨h, rfl⟩
      cases h
      refine sq_ev rfl (ev_buildSlice (es := [[_]]) sf24 rfl rfl rfl rfl) ?_
      refine sq_append rfl sf24 Tryz.underlying24 rfl rfl (less_slx _ _) (Nat.succ_pos _) (by simp; omega) (by simp; omega) ?_
      refine sq_ev rfl (ev_as (v := .own _ _ _) J) ?_
      refine sq_nil (aw_region (sq_ev rfl (ev_add J J (wr (by omega) (by omega))) ?_))
      refine mvr J rfl (sq_nil ?_)
      exact ⟨⟨m + 1, by omega⟩, by simp only; omega, Sub.fin 2 ⟨J, Less.eq (b := .own 1 1 (((List.range (m + 1)).map c.srow).map fun x => [S x])) (by rw [eS] <;> rfl), J, J, trivial⟩ (congrArg (fun n => [_, AObj.tok n]) (congrArg List.length eS.symm)) (by simp [slotsIn, objsIn, sget, keepS, AObj.inB, AV.inB, AV.inL, AV.inE, inE_map, inE_ints, inE_strs, inE_figs, inE_cloths, -List.map_append, -List.map_take, -List.map_map]) (by simp [slotsIn, objsIn, sget, keepS, AObj.inB, AV.inB, AV.inL, AV.inE, inE_map, inE_ints, inE_strs, inE_figs, inE_cloths, -List.map_append, -List.map_take, -List.map_map]) (by simp [he0])⟩
  · skip
    have c_11' := c_11
    try simp only [qq] at c_11'
    obtain rfl : m = c.s.high.toNat := by omega
    refine aw_exit (aw_seq (aw_region (sq_ev rfl (ev_mv (v := .own _ _ _) J) ?_)))
    refine sq_ev rfl (ev_as (v := .own _ _ _) J) ?_
    refine sq_nil (aw_ret ?_)
    exact retQ_pure (v := .own _ _ _) rfl rfl (Less.trans (less_own _ _ _) (Less.eq (by simp [Ca.shadow])))
end Go.Proofs.YtmbknoaneglilaaGreatDoor
namespace Go.Proofs.YtmbknoaneglilaaGreatDoor
open Go Go.Ab Ni Ol
theorem ar222 : arrElem Tryz.prog 222 = some (4, 3, 1) := by kernel_rfl
theorem bi222 : bldInfo Tryz.prog 222 = some ([.raw (.int .i64 0), .raw (.int .i64 0), .raw (.int .i64 0), .raw (.int .i64 0)], false, [], 1) := by kernel_rfl
theorem bi28 : bldInfo Tryz.prog 28 = some ([.raw (.int .i64 0), .raw (.int .i64 0), .raw (.int .i64 0)], true, [(0, 1), (1, 1), (2, 1)], 0) := by kernel_rfl
theorem en100 : Ent Tryz.prog 100 := Ent.of Tryz.func100 (by kernel_rfl) rfl
theorem en129 : Ent Tryz.prog 129 := Ent.of Tryz.func129 (by kernel_rfl) rfl
theorem en97 : Ent Tryz.prog 97 := Ent.of Tryz.func97 (by kernel_rfl) rfl
theorem en98 : Ent Tryz.prog 98 := Ent.of Tryz.func98 (by kernel_rfl) rfl
theorem sf223 : SlFact Tryz.prog 223 222 4 32 := SlFact.of (by kernel_rfl)
theorem sl223 : slElem Tryz.prog 223 = some (222, 4) := by kernel_rfl
theorem ty222 : tySz Tryz.prog 222 = some (true, 4) := by kernel_rfl
theorem z222 : zeroOf Tryz.prog 222 = some [.raw (.int .i64 0), .raw (.int .i64 0), .raw (.int .i64 0), .raw (.int .i64 0)] := by kernel_rfl
theorem count_pure (ch : UInt8) (l : List (List UInt8)) (hl : l.length ≤ 1000) (hr : ∀ r ∈ l, r.length ≤ 1000) : APure Tryz.prog 100 [C ch, strs l] (I (cnt ch l)) := by
  refine apure_of (rs := [.tmp 4]) Tryz.func100 rfl rfl (Nat.le_of_ble_eq_true rfl) (by simp [AV.pureL, AV.pureB, AV.pureE, pureE_map]) (by first | rfl | (simp [AV.pureL, AV.pureB, AV.pureE, pureE_map])) fun e0 he0 => ?_
  refine aw_seq (aw_region (asr J rfl (sq_nil (aw_seq (aw_region ?_)))))
  refine asr J rfl (sq_nil (aw_seq (aw_seq (aw_region (mvs rfl J (sq_ev rfl (ev_len_map sl24 J) ?_))))))
  refine mvr J rfl (sq_nil (aw_block ?_))
  refine aw_loopk (ι := { k : Nat // k ≤ l.length }) [0, 8, 9] (fun i => [(5, I (cnt ch (l.take i.1))), (10, I i.1)]) (fun H i => H) (fun i => l.length - i.1) (⟨0, Nat.zero_le _⟩) ⟨J, J, J, J, J, trivial⟩ rfl ?_
  rintro ⟨k, hk⟩
  dsimp only [keepS, St.put, sget, slotsOf, nn1, nn2, nn3, nn4, nn5, nn6, Nat.reduceBEq, Nat.reduceAdd, nn7, nn8]
  have hb := cnt_bd ch (l.take k) 1000 (fun r h => hr r (List.mem_of_mem_take h))
  have hb2 : ((l.take k).length : Int) * (1000 : Nat) ≤ 1000000 := by rw [List.length_take]; omega
  refine aw_seq (aw_region (sq_ev rfl (ev_lss J J) ?_))
  refine sq_nil (aw_seq ?_)
  refine aw_cond J (fun c_11 => ?_) (fun c_11 => ?_)
  · skip
    have c_11' := c_11
    try simp only [qq] at c_11'
    have hkl : k < l.length := by omega
    have hc : l[k].count ch ≤ 1000 := Nat.le_trans List.count_le_length (hr _ (List.getElem_mem hkl))
    refine aw_skip (aw_seq (aw_block (aw_seq (aw_region (sq_ev rfl (ev_index_map sl24 J J rfl (by omega)) ?_)))))
    refine sq_ev rfl (ev_load_i J ty9 rfl) ?_
    refine asr J rfl (sq_nil (aw_region (mvr J rfl (mvr J rfl (mvr J rfl (sq_ev rfl (ev_buildSlice (es := [[_]]) sf92 rfl rfl rfl rfl) ?_))))))
    refine sq_ev rfl (ev_bytesS (ns := [_]) Tryz.underlying92 Tryz.underlying5 Tryz.underlying9 (less_slx _ _)) ?_
    refine sq_ev rfl (ev_call en148 J (ncount1_pure _ ch) ⟨J, (Less.eq (show S ([((ch.toNat : Nat) : Int)].map fun n => UInt8.ofNat n.toNat) = S [ch] by simp)), trivial⟩) ?_
    refine sq_ev rfl (ev_add J J (wr (by omega) (by omega))) ?_
    refine asr J rfl (sq_nil (aw_region (sq_ev rfl (ev_add J J (wr (by omega) (by omega))) ?_)))
    refine mvr J rfl (sq_nil ?_)
    exact ⟨⟨k + 1, by omega⟩, by simp only; omega, Sub.slots ⟨(Less.eq (show I (cnt ch (l.take k) + (l[k].count ch : Int)) = _ by rw [cnt_take hkl])), J, J, J, J, trivial⟩⟩
  · skip
    have c_11' := c_11
    try simp only [qq] at c_11'
    obtain rfl : k = l.length := by omega
    refine aw_exit (aw_seq (aw_region (mvr J rfl (asr J rfl (sq_nil (aw_ret ?_))))))
    exact retQ_pure (v := .raw _) rfl rfl (Less.eq (by rw [List.take_length]))
theorem shadowE_pure (c : Ca) : APure Tryz.prog 28 [stA c.s, fgA c.f, pcA c.p] (.tup [strs (if caOK c = true then c.shadow else []), I (er (caOK c))]) := by
 refine apure_of (rs := [.tmp 6, .tmp 7]) Tryz.func28 rfl rfl (Nat.le_of_ble_eq_true rfl) (by simp [AV.pureL, AV.pureB, AV.pureE, pureE_map]) (by first | rfl | (simp [AV.pureL, AV.pureB, AV.pureE, pureE_map])) fun e0 he0 => ?_
 refine aw_seq (aw_region (sq_box rfl J rfl (sq_box rfl J rfl ?_)))
 refine sq_box rfl J rfl (asr J rfl (asr J rfl (sq_nil (aw_seq (aw_region (sq_ev rfl (ev_load_agg J rfl ty23 rfl) ?_))))))
 refine sq_ev rfl (ev_load_agg J rfl ty26 rfl) ?_
 refine sq_ev rfl (ev_load_agg J rfl ty28 rfl) ?_
 refine sq_ev rfl (ev_call en97 J (casting_pure c) ⟨J, J, J, trivial⟩) ?_
 refine sq_ev rfl (ev_mv (v := .tup _) J) ?_
 refine xtr rfl J rfl (xtr rfl J rfl ?_)
 refine sq_alloc rfl z139 ?_
 refine sq_store rfl J J rfl rfl ty139 rfl rfl ?_
 refine asr J rfl (sq_nil (aw_seq (aw_seq (aw_region (mvr J rfl (sq_ev rfl (ev_not J) ?_))))))
 refine sq_nil ?_
 refine aw_cond J (fun c_18 => ?_) (fun c_18 => ?_)
 ·
  have c_18' := c_18
  try simp only [qq] at c_18'
  have hok : caOK c = false := by simpa using c_18
  refine aw_seq (aw_region (asr J rfl (asr J rfl (sq_nil (aw_ret ?_)))))
  exact retQ_pure (v := .tup [.raw _, .raw _]) rfl rfl (less_tup ⟨Less.trans (less_nil 1) (Less.eq (by rw [hok]; rfl)), less_int (by simp [er, *]), trivial⟩)
 have c_18' := c_18
 try simp only [qq] at c_18'
 have hok : caOK c = true := by simpa using c_18
 have hc := caOK_B hok
 refine aw_skip (aw_seq (aw_region (sq_ev rfl (ev_load_agg J rfl ty139 rfl) ?_)))
 refine sq_ev rfl (ev_call en98 J (shadow_pure hc) ⟨J, trivial⟩) ?_
 refine ass rfl J (asr J rfl (sq_nil (aw_ret ?_)))
 exact retQ_pure (v := .tup [.sl _ _, .raw _]) rfl rfl (less_tup ⟨Less.eq (by rw [if_pos hok]), less_int (by simp [er, *]), trivial⟩)
theorem counts_pure (c : Ca) : APure Tryz.prog 33 [stA c.s, fgA c.f, pcA c.p] (.tup [I (if caOK c = true then cnt 35 c.shadow else 0), I (if caOK c = true then cnt 43 c.shadow else 0), I (er (caOK c))]) := by
 refine apure_of (rs := [.tmp 6, .tmp 7, .tmp 8]) Tryz.func33 rfl rfl (Nat.le_of_ble_eq_true rfl) (by simp [AV.pureL, AV.pureB, AV.pureE, pureE_map]) (by first | rfl | (simp [AV.pureL, AV.pureB, AV.pureE, pureE_map])) fun e0 he0 => ?_
 refine aw_seq (aw_region (sq_box rfl J rfl (sq_box rfl J rfl (sq_box rfl J rfl ?_))))
 refine asr J rfl (asr J rfl (asr J rfl (sq_nil (aw_seq (aw_region (sq_ev rfl (ev_load_agg J rfl ty23 rfl) ?_))))))
 refine sq_ev rfl (ev_load_agg J rfl ty26 rfl) ?_
 refine sq_ev rfl (ev_load_agg J rfl ty28 rfl) ?_
 refine sq_ev rfl (ev_call en97 J (casting_pure c) ⟨J, J, J, trivial⟩) ?_
 refine sq_ev rfl (ev_mv (v := .tup _) J) ?_
 refine xtr rfl J rfl (xtr rfl J rfl ?_)
 refine sq_alloc rfl z139 ?_
 refine sq_store rfl J J rfl rfl ty139 rfl rfl ?_
 refine asr J rfl (sq_nil (aw_seq (aw_seq (aw_region (mvr J rfl (sq_ev rfl (ev_not J) ?_))))))
 refine sq_nil ?_
 refine aw_cond J (fun c_20 => ?_) (fun c_20 => ?_)
 ·
  have c_20' := c_20
  try simp only [qq] at c_20'
  have hok : caOK c = false := by simpa using c_20
  refine aw_seq (aw_region (asr J rfl (asr J rfl (asr J rfl (sq_nil (aw_ret ?_))))))
  exact retQ_pure (v := .tup [.raw _, .raw _, .raw _]) rfl rfl (less_tup ⟨less_int (by simp [*]), less_int (by simp [*]), less_int (by simp [er, *]), trivial⟩)
 have c_20' := c_20
 try simp only [qq] at c_20'
 have hok : caOK c = true := by simpa using c_20
 have hc := caOK_B hok
 refine aw_skip (aw_seq (aw_region (sq_ev rfl (ev_load_agg J rfl ty139 rfl) ?_)))
 refine sq_ev rfl (ev_call en98 J (shadow_pure hc) ⟨J, trivial⟩) ?_
 refine ass rfl J (sq_nil (aw_seq ?_))
 have hs1 : c.shadow.length ≤ 1000 := by have := hc.st; rw [shad_len]; omega
 have hs2 : ∀ r ∈ c.shadow, r.length ≤ 1000 := fun r h => by obtain ⟨i, hi, rfl⟩ := List.getElem_of_mem h; have := hc.st; rw [shad_row, srow_len]; omega
 refine aw_region (mvs rfl J (sq_ev rfl (ev_call en100 J (count_pure 35 c.shadow hs1 hs2) ⟨J, J, trivial⟩) ?_))
 refine mvs rfl J (sq_ev rfl (ev_call en100 J (count_pure 43 c.shadow hs1 hs2) ⟨J, J, trivial⟩) ?_)
 refine asr J rfl (asr J rfl (asr J rfl (sq_nil (aw_ret ?_))))
 exact retQ_pure (v := .tup [.raw _, .raw _, .raw _]) rfl rfl (less_tup ⟨less_int (by simp [*]), less_int (by simp [*]), less_int (by simp [er, *]), trivial⟩)
theorem fits_pure {c : Ca} (hc : CaB c) : APure Tryz.prog 129 [caA c] (B c.fits) := by
 refine apure_of (rs := [.tmp 2]) Tryz.func129 rfl rfl (Nat.le_of_ble_eq_true rfl) (by simp [AV.pureL, AV.pureB, AV.pureE, pureE_map]) (by first | rfl | (simp [AV.pureL, AV.pureB, AV.pureE, pureE_map])) fun e0 he0 => ?_
 refine aw_seq (aw_region (sq_box rfl J rfl (asr J rfl (sq_nil (aw_seq ?_)))))
 obtain ⟨s1, s2, s3, s4, s5, s6⟩ := hc.st
 obtain ⟨p1, p2, p3⟩ := hc.pc
 obtain ⟨f1, f2⟩ := hc.fg
 have hw := w0_eq (f := c.f) (by omega)
 have hbl := blur_bd hc
 have hbl' : c.blur = c.s.flame * c.p.near := rfl
 have hf0 : (c.f[0]?.getD []) = c.f[0] := by rw [List.getElem?_eq_getElem (by omega)]; rfl
 refine aw_region (sq_ev rfl (ev_fieldAddr fo139_0 J) ?_)
 refine sq_ev rfl (ev_fieldAddr fo23_2 J) ?_
 refine sq_ev rfl (ev_load J rfl ty3 rfl) ?_
 refine sq_ev rfl (ev_fieldAddr fo139_2 J) ?_
 refine sq_ev rfl (ev_fieldAddr fo28_0 J) ?_
 refine sq_ev rfl (ev_load J rfl ty3 rfl) ?_
 refine sq_ev rfl (ev_sub J J (wr (by omega) (by omega))) ?_
 refine asr J rfl (sq_nil (aw_seq (aw_seq ?_)))
 refine aw_draw 33 mo (by kernel_rfl) ?_
 refine dr_ev rfl (ev_fieldAddr fo139_0 J) ?_
 refine dr_ev rfl (ev_fieldAddr fo23_4 J) ?_
 refine dr_ev rfl (ev_load J rfl ty3 rfl) ?_
 refine dr_ev rfl (ev_fieldAddr fo139_2 J) ?_
 refine dr_ev rfl (ev_fieldAddr fo28_1 J) ?_
 refine dr_ev rfl (ev_load J rfl ty3 rfl) ?_
 refine dr_ev rfl (ev_fieldAddr fo139_1 J) ?_
 refine dr_ev rfl (ev_fieldAddr fo26_0 J) ?_
 refine dr_ev rfl (ev_load J rfl ty24 rfl) ?_
 refine dr_ev rfl (ev_index_map (k := 0) sl24 J J rfl (by omega)) ?_
 refine dr_ev rfl (ev_load_i J ty9 rfl) ?_
 refine dr_ev rfl (ev_lenS Tryz.underlying9 J) ?_
 refine dr_ev rfl (ev_fieldAddr fo139_0 J) ?_
 refine dr_ev rfl (ev_fieldAddr fo23_0 J) ?_
 refine dr_ev rfl (ev_load J rfl ty3 rfl) ?_
 refine dr_ev rfl (ev_build bi222 rfl) ?_
 refine dr_ev rfl (ev_fieldAddr fo139_0 J) ?_
 refine dr_ev rfl (ev_fieldAddr fo23_5 J) ?_
 refine dr_ev rfl (ev_load J rfl ty3 rfl) ?_
 refine dr_ev rfl (ev_fieldAddr fo139_2 J) ?_
 refine dr_ev rfl (ev_fieldAddr fo28_2 J) ?_
 refine dr_ev rfl (ev_load J rfl ty3 rfl) ?_
 refine dr_ev rfl (ev_fieldAddr fo139_1 J) ?_
 refine dr_ev rfl (ev_fieldAddr fo26_0 J) ?_
 refine dr_ev rfl (ev_load J rfl ty24 rfl) ?_
 refine dr_ev rfl (ev_len_map sl24 J) ?_
 refine dr_ev rfl (ev_fieldAddr fo139_0 J) ?_
 refine dr_ev rfl (ev_fieldAddr fo23_1 J) ?_
 refine dr_ev rfl (ev_load J rfl ty3 rfl) ?_
 refine dr_ev rfl (ev_build bi222 rfl) ?_
 refine dr_ev rfl (ev_buildSlice (es := [[_, _, _, _], [_, _, _, _]]) sf223 rfl rfl rfl rfl) ?_
 refine dr_ev rfl (ev_len sl223 (less_slx _ _) rfl) ?_
 refine dr_ev rfl (ev_mv (v := .raw _) J) ?_
 refine dr_end (sq_nil (aw_block ?_))
 refine aw_loopk (ι := { k : Nat // k ≤ 2 ∧ ∀ i, i < k → c.fitK i = true }) [1, 3, 47, 48] (fun i => [(49, I i.1)]) (fun H i => H) (fun i => 2 - i.1) (⟨0, by omega, by omega⟩) ⟨J, J, J, J, J, trivial⟩ rfl ?_
 rintro ⟨k, hk, hok⟩
 dsimp only [keepS, St.put, sget, slotsOf, nn1, nn2, nn3, nn4, nn5, nn6, Nat.reduceBEq, Nat.reduceAdd, nn7, nn8]
 have hes : Less (.slx 4 [[I c.s.x, I c.p.x, I (c.f[0].length : Nat), I c.s.wide], [I c.s.y, I c.p.y, I (c.f.length : Nat), I c.s.high]]) (.sl 4 [[I (c.dA 0), I (c.dE 0), I (c.dL 0), I (c.dW 0)], [I (c.dA 1), I (c.dE 1), I (c.dL 1), I (c.dW 1)]]) := by
  refine Less.trans (less_slx _ _) (Less.eq ?_)
  simp only [Ca.dA, Ca.dE, Ca.dL, Ca.dW, hf0]
 have hdb := dK_bd hc k
 refine aw_seq (aw_region (sq_ev rfl (ev_lss J J) ?_))
 refine sq_nil (aw_seq ?_)
 refine aw_cond J (fun c_50 => ?_) (fun c_50 => ?_)
 ·
  have c_50' := c_50
  try simp only [qq] at c_50'
  have hk2 : k = 0 ∨ k = 1 := by omega
  have m1 := mulb (a := c.dA k) (b := c.s.far - c.p.near) (A := 16) (B := 40) (by omega) (by omega) (by omega) (by omega)
  have m2 := mulb (a := c.dE k - c.dA k) (b := c.s.far) (A := 40) (B := 40) (by omega) (by omega) (by omega) (by omega)
  have m3 := mulb (a := c.dE k + c.dL k - c.dA k) (b := c.s.far) (A := 60) (B := 40) (by omega) (by omega) (by omega) (by omega)
  have m4 := mulb (a := c.dW k) (b := c.s.far - c.p.near) (A := 16) (B := 40) (by omega) (by omega) (by omega) (by omega)
  refine aw_skip (aw_seq (aw_block (aw_seq (aw_region (sq_ev rfl (ev_index (es := [[I (c.dA 0), I (c.dE 0), I (c.dL 0), I (c.dW 0)], [I (c.dA 1), I (c.dE 1), I (c.dL 1), I (c.dW 1)]]) (k := k) (c := [I (c.dA k), I (c.dE k), I (c.dL k), I (c.dW k)]) sl223 hes J rfl (by rcases hk2 with rfl | rfl <;> rfl)) ?_)))))
  refine sq_ev rfl (ev_load_agg_i J ty222 (by exact Nat.le_of_ble_eq_true rfl)) ?_
  refine sq_alloc rfl z222 ?_
  refine sq_store rfl J J rfl rfl ty222 rfl rfl ?_
  refine sq_nil (aw_seq ?_)
  refine aw_draw 12 mo (by kernel_rfl) ?_
  refine dr_ev rfl (ev_index_box ar222 J J rfl (by decide)) ?_
  refine dr_ev rfl (ev_load J rfl ty3 rfl) ?_
  refine dr_ev rfl (ev_index_box ar222 J J rfl (by decide)) ?_
  refine dr_ev rfl (ev_load J rfl ty3 rfl) ?_
  refine dr_ev rfl (ev_index_box ar222 J J rfl (by decide)) ?_
  refine dr_ev rfl (ev_load J rfl ty3 rfl) ?_
  refine dr_ev rfl (ev_index_box ar222 J J rfl (by decide)) ?_
  refine dr_ev rfl (ev_load J rfl ty3 rfl) ?_
  refine dr_ev rfl (ev_as (v := .raw _) J) ?_
  refine dr_ev rfl (ev_as (v := .raw _) J) ?_
  refine dr_ev rfl (ev_as (v := .raw _) J) ?_
  refine dr_ev rfl (ev_as (v := .raw _) J) ?_
  refine dr_end (sq_nil (aw_seq ?_))
  refine aw_draw 36 mo (by kernel_rfl) ?_
  refine dr_ev rfl (ev_mv (v := .raw _) J) ?_
  refine dr_ev rfl (ev_mv (v := .raw _) J) ?_
  refine dr_ev rfl (ev_mul J J (wr (by omega) (by omega))) ?_
  refine dr_ev rfl (ev_mv (v := .raw _) J) ?_
  refine dr_ev rfl (ev_mv (v := .raw _) J) ?_
  refine dr_ev rfl (ev_sub J J (wr (by omega) (by omega))) ?_
  refine dr_ev rfl (ev_fieldAddr fo139_0 J) ?_
  refine dr_ev rfl (ev_fieldAddr fo23_2 J) ?_
  refine dr_ev rfl (ev_load J rfl ty3 rfl) ?_
  refine dr_ev rfl (ev_mul J J (wr (by omega) (by omega))) ?_
  refine dr_ev rfl (ev_add J J (wr (by omega) (by omega))) ?_
  refine dr_ev rfl (ev_load_agg J rfl ty139 rfl) ?_
  refine dr_ev rfl (ev_call en166 J (blur_pure hc) ⟨J, trivial⟩) ?_
  refine dr_ev rfl (ev_lss J J) ?_
  refine dr_ev rfl (ev_mv (v := .raw _) J) ?_
  refine dr_split 75 J (fun g6_14 => ?_) (fun g6_14 => ?_)
  ·
   have g6_14' := g6_14
   try simp only [qq] at g6_14'
   refine dr_no rfl rfl (less_b g6_14) rfl rfl ?_
   refine dr_no rfl rfl (less_b g6_14) rfl rfl ?_
   refine dr_no rfl rfl (less_b g6_14) rfl rfl ?_
   refine dr_no rfl rfl (less_b g6_14) rfl rfl ?_
   refine dr_no rfl rfl (less_b g6_14) rfl rfl ?_
   refine dr_no rfl rfl (less_b g6_14) rfl rfl ?_
   refine dr_no rfl rfl (less_b g6_14) rfl rfl ?_
   refine dr_no rfl rfl (less_b g6_14) rfl rfl ?_
   refine dr_no rfl rfl (less_b g6_14) rfl rfl ?_
   refine dr_no rfl rfl (less_b g6_14) rfl rfl ?_
   refine dr_no rfl rfl (less_b g6_14) rfl rfl ?_
   refine dr_no rfl rfl (less_b g6_14) rfl rfl ?_
   refine dr_no rfl rfl (less_b g6_14) rfl rfl ?_
   refine dr_no rfl rfl (less_b g6_14) rfl rfl ?_
   refine dr_no rfl rfl (less_b g6_14) rfl rfl ?_
   refine dr_no rfl rfl (less_b g6_14) rfl rfl ?_
   refine dr_no rfl rfl (less_b g6_14) rfl rfl ?_
   refine dr_no rfl rfl (less_b g6_14) rfl rfl ?_
   refine dr_no rfl rfl (less_b g6_14) rfl rfl ?_
   refine dr_no rfl rfl (less_b g6_14) rfl rfl ?_
   refine dr_ev rfl (ev_pickT (v := .raw _) (less_b g6_14) J) ?_
   refine dr_end (sq_nil ?_)
   refine aw_true J ?_
   refine aw_seq (aw_region (asr J rfl (sq_nil (aw_ret ?_))))
   exact retQ_pure (v := .raw _) rfl rfl (Less.eq (by rw [fits_bad (k := k) (by omega) (fitK_lo g6_14')]))
  have g6_14' := g6_14
  try simp only [qq] at g6_14'
  refine dr_yes rfl rfl (less_b g6_14) rfl (ev_mv (v := .raw _) J) ?_
  refine dr_yes rfl rfl (less_b g6_14) rfl (ev_mv (v := .raw _) J) ?_
  refine dr_yes rfl rfl (less_b g6_14) rfl (ev_mul J J (wr (by omega) (by omega))) ?_
  refine dr_yes rfl rfl (less_b g6_14) rfl (ev_mv (v := .raw _) J) ?_
  refine dr_yes rfl rfl (less_b g6_14) rfl (ev_mv (v := .raw _) J) ?_
  refine dr_yes rfl rfl (less_b g6_14) rfl (ev_add J J (wr (by omega) (by omega))) ?_
  refine dr_yes rfl rfl (less_b g6_14) rfl (ev_mv (v := .raw _) J) ?_
  refine dr_yes rfl rfl (less_b g6_14) rfl (ev_sub J J (wr (by omega) (by omega))) ?_
  refine dr_yes rfl rfl (less_b g6_14) rfl (ev_fieldAddr fo139_0 J) ?_
  refine dr_yes rfl rfl (less_b g6_14) rfl (ev_fieldAddr fo23_2 J) ?_
  refine dr_yes rfl rfl (less_b g6_14) rfl (ev_load J rfl ty3 rfl) ?_
  refine dr_yes rfl rfl (less_b g6_14) rfl (ev_mul J J (wr (by omega) (by omega))) ?_
  refine dr_yes rfl rfl (less_b g6_14) rfl (ev_add J J (wr (by omega) (by omega))) ?_
  refine dr_yes rfl rfl (less_b g6_14) rfl (ev_load_agg J rfl ty139 rfl) ?_
  refine dr_yes rfl rfl (less_b g6_14) rfl (ev_call en166 J (blur_pure hc) ⟨J, trivial⟩) ?_
  refine dr_yes rfl rfl (less_b g6_14) rfl (ev_add J J (wr (by omega) (by omega))) ?_
  refine dr_yes rfl rfl (less_b g6_14) rfl (ev_mv (v := .raw _) J) ?_
  refine dr_yes rfl rfl (less_b g6_14) rfl (ev_mv (v := .raw _) J) ?_
  refine dr_yes rfl rfl (less_b g6_14) rfl (ev_mul J J (wr (by omega) (by omega))) ?_
  refine dr_yes rfl rfl (less_b g6_14) rfl (ev_gtr J J) ?_
  refine dr_ev rfl (ev_pickF (v := .raw _) (less_b g6_14) J) ?_
  refine dr_end (sq_nil ?_)
  refine aw_cond J (fun c_96 => ?_) (fun c_96 => ?_)
  ·
   have c_96' := c_96
   try simp only [qq] at c_96'
   refine aw_seq (aw_region (asr J rfl (sq_nil (aw_ret ?_))))
   exact retQ_pure (v := .raw _) rfl rfl (Less.eq (by rw [fits_bad (k := k) (by omega) (fitK_hi c_96')]))
  have c_96' := c_96
  try simp only [qq] at c_96'
  refine aw_skip (aw_region (sq_ev rfl (ev_add J J (wr (by omega) (by omega))) ?_))
  refine mvr J rfl (sq_nil ?_)
  have hgood : c.fitK k = true := fitK_ok g6_14' c_96'
  exact ⟨⟨k + 1, by omega, fun i hi => (by by_cases e : i = k; (subst e; exact hgood); exact hok i (by omega))⟩, by simp only; omega, Sub.fin 1 ⟨J, J, J, J, J, trivial⟩ rfl (by simp [slotsIn, objsIn, sget, keepS, AObj.inB, AV.inB, AV.inL, AV.inE, inE_map, inE_ints, inE_strs, inE_figs, inE_cloths, -List.map_append, -List.map_take, -List.map_map]) (by simp [slotsIn, objsIn, sget, keepS, AObj.inB, AV.inB, AV.inL, AV.inE, inE_map, inE_ints, inE_strs, inE_figs, inE_cloths, -List.map_append, -List.map_take, -List.map_map]) (by simp [he0])⟩
 have c_50' := c_50
 try simp only [qq] at c_50'
 refine aw_exit (aw_seq (aw_region (asr J rfl (sq_nil (aw_ret ?_)))))
 exact retQ_pure (v := .raw _) rfl rfl (Less.eq (by rw [fits_ok (fun i hi => hok i (by omega))]))
theorem most_pure (c : Ca) : APure Tryz.prog 61 [stA c.s, fgA c.f, I c.p.x, I c.p.y] (.tup [I (if caOK (c.atN 0) = true then opN c.most else 0), I (if caOK (c.atN 0) = true then opE c.most else 2)]) := by
 refine apure_of (rs := [.tmp 8, .tmp 9]) Tryz.func61 rfl rfl (Nat.le_of_ble_eq_true rfl) (by simp [AV.pureL, AV.pureB, AV.pureE, pureE_map]) (by first | rfl | (simp [AV.pureL, AV.pureB, AV.pureE, pureE_map])) fun e0 he0 => ?_
 refine aw_seq (aw_region (sq_box rfl J rfl ?_))
 refine sq_box rfl J rfl (asr J rfl (asr J rfl (sq_nil (aw_seq (aw_region (sq_ev rfl (ev_load_agg J rfl ty23 rfl) ?_))))))
 refine sq_ev rfl (ev_load_agg J rfl ty26 rfl) ?_
 refine mvr J rfl (mvr J rfl (sq_ev rfl (ev_build bi28 rfl) ?_))
 refine sq_ev rfl (ev_call en97 J (casting_pure (c.atN 0)) ⟨J, J, J, trivial⟩) ?_
 refine sq_ev rfl (ev_mv (v := .tup _) J) ?_
 refine xtr rfl J rfl (xtr rfl J rfl ?_)
 refine sq_alloc rfl z139 ?_
 refine sq_store rfl J J rfl rfl ty139 rfl rfl ?_
 refine asr J rfl (sq_nil (aw_seq (aw_seq (aw_region (mvr J rfl (sq_ev rfl (ev_not J) ?_))))))
 refine sq_nil ?_
 refine aw_cond J (fun c_23 => ?_) (fun c_23 => ?_)
 ·
  have c_23' := c_23
  try simp only [qq] at c_23'
  have hok : caOK (c.atN 0) = false := by simpa using c_23
  refine aw_seq (aw_region (asr J rfl (asr J rfl (sq_nil (aw_ret ?_)))))
  exact retQ_pure (v := .tup [.raw _, .raw _]) rfl rfl (less_tup ⟨less_int (by rw [if_neg (by rw [hok]; simp)]), less_int (by rw [if_neg (by rw [hok]; simp)]), trivial⟩)
 have c_23' := c_23
 try simp only [qq] at c_23'
 have hok : caOK (c.atN 0) = true := by simpa using c_23
 have hc := caOK_B hok
 have hfar : 2 ≤ c.s.far ∧ c.s.far ≤ 40 := hc.st.2.2.1
 refine aw_skip (aw_seq (aw_seq (aw_region (sq_ev rfl (ev_fieldAddr fo23_2 J) ?_))))
 refine sq_ev rfl (ev_load J rfl ty3 rfl) ?_
 refine sq_ev rfl (ev_sub J J (wr (by omega) (by omega))) ?_
 refine asr J rfl (sq_nil (aw_block ?_))
 refine aw_loopk (ι := { q : Nat × Int // (q.1 : Int) ≤ c.s.far ∧ c.most = c.mostN q.1 }) [10] (fun i => [(12, I (i.1.1 - 1))]) (fun H i => H.set 2 (.cells (caC (c.atN i.1.2)))) (fun i => i.1.1) (⟨(c.s.far.toNat, 0), (by show ((c.s.far.toNat : Nat) : Int) ≤ _; omega), rfl⟩) ⟨(Less.eq (by show I (c.s.far - 1) = I ((c.s.far.toNat : Int) - 1); rw [Int.toNat_of_nonneg (by omega)])), J, trivial⟩ rfl ?_
 rintro ⟨⟨k, r⟩, hk, hm⟩
 dsimp only [keepS, St.put, sget, slotsOf, nn1, nn2, nn3, nn4, nn5, nn6, Nat.reduceBEq, Nat.reduceAdd, nn7, nn8]
 simp only at hk hm
 refine aw_seq (aw_seq (aw_region (mvr J rfl (sq_ev rfl (ev_geq J J) ?_))))
 refine sq_nil ?_
 refine aw_cond J (fun c_28 => ?_) (fun c_28 => ?_)
 ·
  have c_28' := c_28
  try simp only [qq] at c_28'
  obtain ⟨k, rfl⟩ : ∃ m, k = m + 1 := ⟨k - 1, by omega⟩
  have hn : CaB (c.atN (k : Int)) := ⟨hc.st, ⟨⟨by show (0 : Int) ≤ (k : Int); omega, by show (k : Int) ≤ c.s.far - 1; omega⟩, hc.pc.2⟩, hc.fg, hc.w, hc.row, hc.ok⟩
  refine aw_skip (aw_seq (aw_block (aw_seq (aw_region (mvr J rfl (sq_ev rfl (ev_fieldAddr fo139_2 J) ?_))))))
  refine sq_ev rfl (ev_fieldAddr fo28_0 J) ?_
  refine sq_store rfl J J rfl rfl ty3 rfl rfl ?_
  refine sq_nil (aw_seq ?_)
  have eK : ((k + 1 : Nat) : Int) - 1 = k := by omega
  simp only [eK]
  refine aw_region (sq_ev rfl (ev_load_agg J rfl ty139 rfl) ?_)
  refine sq_ev rfl (ev_call en129 J (fits_pure hn) ⟨J, trivial⟩) ?_
  refine sq_nil ?_
  refine aw_cond J (fun c_35 => ?_) (fun c_35 => ?_)
  ·
   have c_35' := c_35
   try simp only [qq] at c_35'
   have hm2 : c.most = some k := by rw [hm]; show (if (c.atN (k : Nat)).fits = true then some k else c.mostN k) = _; rw [if_pos c_35]
   refine aw_seq (aw_region (mvr J rfl (asr J rfl (asr J rfl (sq_nil (aw_ret ?_))))))
   exact retQ_pure (v := .tup [.raw _, .raw _]) rfl rfl (less_tup ⟨less_int (by rw [if_pos hok, hm2]; simp [opN]), less_int (by rw [if_pos hok, hm2]; rfl), trivial⟩)
  have c_35' := c_35
  try simp only [qq] at c_35'
  have hm2 : c.most = c.mostN k := by rw [hm]; show (if (c.atN (k : Nat)).fits = true then some k else c.mostN k) = _; rw [if_neg (by rw [c_35]; simp)]
  refine aw_skip (aw_region (mvr J rfl (sq_ev rfl (ev_sub J J (wr (by omega) (by omega))) ?_)))
  refine asr J rfl (sq_nil ?_)
  exact ⟨⟨(k, (k : Int)), by omega, hm2⟩, by simp only; omega, Sub.fin 3 ⟨J, J, trivial⟩ rfl (by simp [slotsIn, objsIn, sget, keepS, AObj.inB, AV.inB, AV.inL, AV.inE, inE_map, inE_ints, inE_strs, inE_figs, inE_cloths, -List.map_append, -List.map_take, -List.map_map]) (by simp [slotsIn, objsIn, sget, keepS, AObj.inB, AV.inB, AV.inL, AV.inE, inE_map, inE_ints, inE_strs, inE_figs, inE_cloths, -List.map_append, -List.map_take, -List.map_map]) (by simp [he0])⟩
 have c_28' := c_28
 try simp only [qq] at c_28'
 obtain rfl : k = 0 := by omega
 refine aw_exit (aw_seq (aw_region (asr J rfl (asr J rfl (sq_nil (aw_ret ?_))))))
 exact retQ_pure (v := .tup [.raw _, .raw _]) rfl rfl (less_tup ⟨less_int (by rw [if_pos hok, hm]; rfl), less_int (by rw [if_pos hok, hm]; rfl), trivial⟩)
theorem fades_pure (c : Ca) : APure Tryz.prog 62 [stA c.s, fgA c.f, I c.p.x, I c.p.y] (.tup [I (if caOK (c.atN 0) = true then opN c.fades else 0), I (if caOK (c.atN 0) = true then opE c.fades else 2)]) := by
 refine apure_of (rs := [.tmp 8, .tmp 9]) Tryz.func62 rfl rfl (Nat.le_of_ble_eq_true rfl) (by simp [AV.pureL, AV.pureB, AV.pureE, pureE_map]) (by first | rfl | (simp [AV.pureL, AV.pureB, AV.pureE, pureE_map])) fun e0 he0 => ?_
 refine aw_seq (aw_region (sq_box rfl J rfl ?_))
 refine sq_box rfl J rfl (asr J rfl (asr J rfl (sq_nil (aw_seq (aw_region (sq_ev rfl (ev_load_agg J rfl ty23 rfl) ?_))))))
 refine sq_ev rfl (ev_load_agg J rfl ty26 rfl) ?_
 refine mvr J rfl (mvr J rfl (sq_ev rfl (ev_build bi28 rfl) ?_))
 refine sq_ev rfl (ev_call en97 J (casting_pure (c.atN 0)) ⟨J, J, J, trivial⟩) ?_
 refine sq_ev rfl (ev_mv (v := .tup _) J) ?_
 refine xtr rfl J rfl (xtr rfl J rfl ?_)
 refine sq_alloc rfl z139 ?_
 refine sq_store rfl J J rfl rfl ty139 rfl rfl ?_
 refine asr J rfl (sq_nil (aw_seq (aw_seq (aw_region (mvr J rfl (sq_ev rfl (ev_not J) ?_))))))
 refine sq_nil ?_
 refine aw_cond J (fun c_23 => ?_) (fun c_23 => ?_)
 ·
  have c_23' := c_23
  try simp only [qq] at c_23'
  have hok : caOK (c.atN 0) = false := by simpa using c_23
  refine aw_seq (aw_region (asr J rfl (asr J rfl (sq_nil (aw_ret ?_)))))
  exact retQ_pure (v := .tup [.raw _, .raw _]) rfl rfl (less_tup ⟨less_int (by rw [if_neg (by rw [hok]; simp)]), less_int (by rw [if_neg (by rw [hok]; simp)]), trivial⟩)
 have c_23' := c_23
 try simp only [qq] at c_23'
 have hok : caOK (c.atN 0) = true := by simpa using c_23
 have hc := caOK_B hok
 have hfar : 2 ≤ c.s.far ∧ c.s.far ≤ 40 := hc.st.2.2.1
 refine aw_skip (aw_seq (aw_seq (aw_region (sq_ev rfl (ev_fieldAddr fo23_2 J) ?_))))
 refine sq_ev rfl (ev_load J rfl ty3 rfl) ?_
 refine mvr J rfl (sq_nil (aw_block ?_))
 refine aw_loopk (ι := { q : Nat × Int // q.1 ≤ c.s.far.toNat ∧ ∀ i, i < q.1 → c.fadeB i = false }) [10, 25] (fun i => [(26, I (i.1.1 : Nat))]) (fun H i => H.set 2 (.cells (caC (c.atN i.1.2)))) (fun i => c.s.far.toNat - i.1.1) (⟨(0, 0), (by simp only; omega), (by simp only; omega)⟩) ⟨J, J, J, trivial⟩ rfl ?_
 rintro ⟨⟨k, r⟩, hk, hm⟩
 dsimp only [keepS, St.put, sget, slotsOf, nn1, nn2, nn3, nn4, nn5, nn6, Nat.reduceBEq, Nat.reduceAdd, nn7, nn8]
 simp only at hk hm
 refine aw_seq (aw_region (sq_ev rfl (ev_lss J J) ?_))
 refine sq_nil (aw_seq ?_)
 refine aw_cond J (fun c_27 => ?_) (fun c_27 => ?_)
 ·
  have c_27' := c_27
  try simp only [qq] at c_27'
  have hn : CaB (c.atN (k : Int)) := ⟨hc.st, ⟨⟨by show (0 : Int) ≤ (k : Int); omega, by show (k : Int) ≤ c.s.far - 1; omega⟩, hc.pc.2⟩, hc.fg, hc.w, hc.row, hc.ok⟩
  have hs1 : (c.atN (k : Nat)).shadow.length ≤ 1000 := by have := hn.st; rw [shad_len]; omega
  have hs2 : ∀ r ∈ (c.atN (k : Nat)).shadow, r.length ≤ 1000 := fun r h => by obtain ⟨i, hi, rfl⟩ := List.getElem_of_mem h; have := hn.st; rw [shad_row, srow_len]; omega
  refine aw_skip (aw_seq (aw_block (aw_seq (aw_region ?_))))
  refine mvr J rfl (asr J rfl (sq_nil (aw_seq (aw_region (mvr J rfl (sq_ev rfl (ev_fieldAddr fo139_2 J) ?_))))))
  refine sq_ev rfl (ev_fieldAddr fo28_0 J) ?_
  refine sq_store rfl J J rfl rfl ty3 rfl rfl ?_
  refine sq_nil (aw_seq (aw_region (sq_ev rfl (ev_load_agg J rfl ty139 rfl) ?_)))
  refine sq_ev rfl (ev_call en98 J (shadow_pure hn) ⟨J, trivial⟩) ?_
  refine sq_ev rfl (ev_call en100 J (count_pure 35 (c.atN (k : Nat)).shadow hs1 hs2) ⟨J, J, trivial⟩) ?_
  refine sq_ev rfl (ev_eql J J) ?_
  refine sq_nil ?_
  refine aw_cond J (fun c_35 => ?_) (fun c_35 => ?_)
  ·
   have c_35' := c_35
   try simp only [qq] at c_35'
   have hm2 : c.fades = some k := fades_some (by omega) c_35 hm
   refine aw_seq (aw_region (mvr J rfl (asr J rfl (asr J rfl (sq_nil (aw_ret ?_))))))
   exact retQ_pure (v := .tup [.raw _, .raw _]) rfl rfl (less_tup ⟨less_int (by rw [if_pos hok, hm2]; simp [opN]), less_int (by rw [if_pos hok, hm2]; rfl), trivial⟩)
  have c_35' := c_35
  try simp only [qq] at c_35'
  have hm2 : c.fadeB k = false := c_35
  refine aw_skip (aw_region (sq_ev rfl (ev_add J J (wr (by omega) (by omega))) ?_))
  refine mvr J rfl (sq_nil ?_)
  exact ⟨⟨(k + 1, (k : Int)), by simp only; omega, fun i hi => (by simp only at hi; by_cases e : i = k; (subst e; exact hm2); exact hm i (by omega))⟩, by simp only; omega, Sub.fin 3 ⟨J, J, J, trivial⟩ rfl (by simp [slotsIn, objsIn, sget, keepS, AObj.inB, AV.inB, AV.inL, AV.inE, inE_map, inE_ints, inE_strs, inE_figs, inE_cloths, -List.map_append, -List.map_take, -List.map_map]) (by simp [slotsIn, objsIn, sget, keepS, AObj.inB, AV.inB, AV.inL, AV.inE, inE_map, inE_ints, inE_strs, inE_figs, inE_cloths, -List.map_append, -List.map_take, -List.map_map]) (by simp [he0])⟩
 have c_27' := c_27
 try simp only [qq] at c_27'
 have hm2 : c.fades = none := fades_none (fun i hi => hm i (by omega))
 refine aw_exit (aw_seq (aw_region (asr J rfl (asr J rfl (sq_nil (aw_ret ?_))))))
 exact retQ_pure (v := .tup [.raw _, .raw _]) rfl rfl (less_tup ⟨less_int (by rw [if_pos hok, hm2]; rfl), less_int (by rw [if_pos hok, hm2]; rfl), trivial⟩)
end Go.Proofs.YtmbknoaneglilaaGreatDoor
namespace Go.Proofs.YtmbknoaneglilaaGreatDoor
open Go Go.Ab Ni Ol
theorem decN {c : UInt8} {n : Nat} {u : UInt8} (h : u.toNat = n) : decide (((c.toNat : Nat) : Int) = (n : Int)) = decide (c = u) :=
  decide_eq_decide.2 ⟨fun e => UInt8.toNat_inj.1 (by rw [h]; omega), fun e => by rw [e, h]⟩
theorem dec46 {c : UInt8} : decide (((c.toNat : Nat) : Int) = 46) = decide (c = 46) := decN (n := 46) rfl
theorem dec46n {c : UInt8} : decide (((c.toNat : Nat) : Int) ≠ 46) = !decide (c = 46) := by rw [← dec46]; by_cases h : ((c.toNat : Nat) : Int) = 46 <;> simp [h]
theorem shad_cell {c : Ca} {m k : Nat} (h : m < c.shadow.length) (h2 : k < (c.shadow[m]).length) : (c.shadow[m])[k] = c.cell (k : Int) (m : Int) := by
  have e := shad_row h
  simp only [e]
  exact srow_cell _
theorem meets_pure (c : Ca) (g : Fg) (q : Pc) : APure Tryz.prog 73 [stA c.s, fgA c.f, pcA c.p, fgA g, pcA q] (.tup [I (if (caOK c && caOK (Ca.mk c.s g q)) = true then meetsC c (Ca.mk c.s g q) else 0), I (er (caOK c && caOK (Ca.mk c.s g q)))]) := by
  refine apure_of (rs := [.tmp 10, .tmp 11]) Tryz.func73 rfl rfl (Nat.le_of_ble_eq_true rfl) (by simp [AV.pureL, AV.pureB, AV.pureE, pureE_map]) (by first | rfl | (simp [AV.pureL, AV.pureB, AV.pureE, pureE_map])) fun e0 he0 => ?_
  refine aw_seq (aw_region (sq_box rfl J rfl (sq_box rfl J rfl (sq_box rfl J rfl (sq_box rfl J rfl (sq_box rfl J rfl ?_))))))
  refine asr J rfl (asr J rfl (sq_nil (aw_scope (aw_seq (aw_region (sq_ev rfl (ev_load_agg J rfl ty23 rfl) ?_))))))
  refine sq_ev rfl (ev_load_agg J rfl ty26 rfl) ?_
  refine sq_ev rfl (ev_load_agg J rfl ty28 rfl) ?_
  refine sq_ev rfl (ev_call en97 J (casting_pure c) ⟨J, J, J, trivial⟩) ?_
  refine sq_ev rfl (ev_mv (v := .tup _) J) ?_
  refine xtr rfl J rfl (xtr rfl J rfl ?_)
  refine sq_alloc rfl z139 ?_
  refine sq_store rfl J J rfl rfl ty139 rfl rfl ?_
  refine asr J rfl (sq_nil (aw_seq (aw_region (sq_ev rfl (ev_load_agg J rfl ty23 rfl) ?_))))
  refine sq_ev rfl (ev_load_agg J rfl ty26 rfl) ?_
  refine sq_ev rfl (ev_load_agg J rfl ty28 rfl) ?_
  refine sq_ev rfl (ev_call en97 J (casting_pure (Ca.mk c.s g q)) ⟨J, J, J, trivial⟩) ?_
  refine sq_ev rfl (ev_mv (v := .tup _) J) ?_
  refine xtr rfl J rfl (xtr rfl J rfl ?_)
  refine sq_alloc rfl z139 ?_
  refine sq_store rfl J J rfl rfl ty139 rfl rfl ?_
  refine asr J rfl (sq_nil (aw_seq (aw_seq (aw_region (mvr J rfl (sq_ev rfl (ev_not J) ?_))))))
  refine mvr J rfl ?_
  refine sq_split 39 J (fun g3_2 => ?_) (fun g3_2 => ?_)
  · skip
    have g3_2' := g3_2
    try simp only [qq] at g3_2'
    have hok : (caOK c && caOK (Ca.mk c.s g q)) = false := by rw [Bool.and_eq_false_iff]; exact .inl (by simpa using g3_2)
    refine sq_no rfl rfl (less_b g3_2) rfl rfl ?_
    refine sq_no rfl rfl (less_b g3_2) rfl rfl ?_
    refine sq_ev rfl (ev_pickT (v := .raw _) (less_b g3_2) J) ?_
    refine sq_nil ?_
    refine aw_true J ?_
    refine aw_seq (aw_region (asr J rfl (asr J rfl (sq_nil (aw_ret ?_)))))
    exact retQ_pure (v := .tup [.raw _, .raw _]) rfl rfl (less_tup ⟨less_int (by first | (rw [hok]; rfl) | (rw [if_pos hok]; unfold meetsC; rw [← hmt, meetsP_soft hd1])), less_int (by simp [er, *]), trivial⟩)
  · skip
    have g3_2' := g3_2
    try simp only [qq] at g3_2'
    have hok1 : caOK c = true := by simpa using g3_2
    refine sq_yes rfl rfl (less_b g3_2) rfl (ev_mv (v := .raw _) J) ?_
    refine sq_yes rfl rfl (less_b g3_2) rfl (ev_not J) ?_
    refine sq_ev rfl (ev_pickF (v := .raw _) (less_b g3_2) J) ?_
    refine sq_nil ?_
    refine aw_cond J (fun c_42 => ?_) (fun c_42 => ?_)
    · skip
      have c_42' := c_42
      try simp only [qq] at c_42'
      have hok : (caOK c && caOK (Ca.mk c.s g q)) = false := by rw [Bool.and_eq_false_iff]; exact .inr (by simpa using c_42)
      refine aw_seq (aw_region (asr J rfl (asr J rfl (sq_nil (aw_ret ?_)))))
      exact retQ_pure (v := .tup [.raw _, .raw _]) rfl rfl (less_tup ⟨less_int (by first | (rw [hok]; rfl) | (rw [if_pos hok]; unfold meetsC; rw [← hmt, meetsP_soft hd1])), less_int (by simp [er, *]), trivial⟩)
    · skip
      have c_42' := c_42
      try simp only [qq] at c_42'
      have hok2 : caOK (Ca.mk c.s g q) = true := by simpa using c_42
      have hok : (caOK c && caOK (Ca.mk c.s g q)) = true := by rw [hok1, hok2]; rfl
      have hc := caOK_B hok1
      have hd := caOK_B hok2
      have hlc := shad_len c
      have hld : (Ca.mk c.s g q).shadow.length = c.s.high.toNat := shad_len _
      obtain ⟨s1, s2, s3⟩ := hc.st
      refine aw_skip (aw_seq (aw_region (asr J rfl (sq_nil (aw_seq ?_)))))
      refine aw_draw 6 mo (by kernel_rfl) ?_
      refine dr_ev rfl (ev_load_agg J rfl ty139 rfl) ?_
      refine dr_ev rfl (ev_call en98 J (shadow_pure hc) ⟨J, trivial⟩) ?_
      refine dr_ev rfl (ev_load_agg J rfl ty139 rfl) ?_
      refine dr_ev rfl (ev_call en98 J (shadow_pure hd) ⟨J, trivial⟩) ?_
      refine dr_ev rfl (ev_as (v := .sl _ _) J) ?_
      refine dr_ev rfl (ev_as (v := .sl _ _) J) ?_
      refine dr_end (sq_nil (aw_seq (aw_label (aw_seq (aw_seq (aw_region (sq_ev rfl (ev_fieldAddr fo23_1 J) ?_)))))))
      refine sq_ev rfl (ev_load J rfl ty3 rfl) ?_
      refine mvr J rfl (sq_nil (aw_block ?_))
      refine aw_loopk (ι := { m : Nat // m ≤ c.s.high.toNat ∧ (mall c (Ca.mk c.s g q) m).any dd = false }) [5, 17, 18, 48] (fun i => [(16, I (soft (mall c (Ca.mk c.s g q) i.1))), (49, I i.1)]) (fun H i => H) (fun i => c.s.high.toNat - i.1) (⟨0, Nat.zero_le _, rfl⟩) ⟨J, J, J, J, J, J, trivial⟩ rfl ?_
      rintro ⟨m, hm, hd1⟩
      dsimp only [keepS, St.put, sget, slotsOf, nn1, nn2, nn3, nn4, nn5, nn6, Nat.reduceBEq, Nat.reduceAdd, nn7, nn8]
      refine aw_seq (aw_region (sq_ev rfl (ev_lss J J) ?_))
      refine sq_nil (aw_seq ?_)
      refine aw_cond J (fun c_50 => ?_) (fun c_50 => ?_)
      · skip
        have c_50' := c_50
        try simp only [qq] at c_50'
        refine aw_skip (aw_seq (aw_block (aw_seq (aw_region (mvr J rfl (asr J rfl (sq_nil (aw_seq (aw_region (sq_ev rfl (ev_fieldAddr fo23_0 J) ?_))))))))))
        refine sq_ev rfl (ev_load J rfl ty3 rfl) ?_
        refine mvr J rfl (sq_nil (aw_block ?_))
        refine aw_loopk (ι := { k : Nat // k ≤ c.s.wide.toNat ∧ (mrow c (Ca.mk c.s g q) m k).any dd = false }) [5, 17, 18, 19, 48, 49, 53] (fun i => [(16, I (soft (mall c (Ca.mk c.s g q) m ++ mrow c (Ca.mk c.s g q) m i.1))), (54, I i.1)]) (fun H i => H) (fun i => c.s.wide.toNat - i.1) (⟨0, Nat.zero_le _, rfl⟩) ⟨(Less.eq (by show I (soft (mall c (Ca.mk c.s g q) m)) = _; simp [mrow])), J, J, J, J, J, J, J, J, trivial⟩ rfl ?_
        rintro ⟨k, hk, hd2⟩
        dsimp only [keepS, St.put, sget, slotsOf, nn1, nn2, nn3, nn4, nn5, nn6, Nat.reduceBEq, Nat.reduceAdd, nn7, nn8]
        refine aw_seq (aw_region (sq_ev rfl (ev_lss J J) ?_))
        refine sq_nil (aw_seq ?_)
        refine aw_cond J (fun c_55 => ?_) (fun c_55 => ?_)
        · skip
          have c_55' := c_55
          try simp only [qq] at c_55'
          have hmh : m < c.s.high.toNat := by omega
          have hkw : k < c.s.wide.toNat := by omega
          have hrc : (c.shadow[m]).length = c.s.wide.toNat := by rw [shad_row, srow_len]
          have hrd : ((Ca.mk c.s g q).shadow[m]).length = c.s.wide.toNat := by rw [shad_row, srow_len]
          refine aw_skip (aw_seq (aw_block (aw_seq (aw_region (mvr J rfl (asr J rfl (sq_nil (aw_seq ?_))))))))
          refine aw_draw 14 mo (by kernel_rfl) ?_
          refine dr_ev rfl (ev_mv (v := .sl _ _) J) ?_
          refine dr_ev rfl (ev_mv (v := .raw _) J) ?_
          refine dr_ev rfl (ev_index_map sl24 J J rfl (by omega)) ?_
          refine dr_ev rfl (ev_load_i J ty9 rfl) ?_
          refine dr_ev rfl (ev_mv (v := .raw _) J) ?_
          refine dr_ev rfl (ev_idxS Tryz.underlying9 J J rfl (by omega)) ?_
          refine dr_ev rfl (ev_mv (v := .sl _ _) J) ?_
          refine dr_ev rfl (ev_mv (v := .raw _) J) ?_
          refine dr_ev rfl (ev_index_map sl24 J J rfl (by omega)) ?_
          refine dr_ev rfl (ev_load_i J ty9 rfl) ?_
          refine dr_ev rfl (ev_mv (v := .raw _) J) ?_
          refine dr_ev rfl (ev_idxS Tryz.underlying9 J J rfl (by omega)) ?_
          refine dr_ev rfl (ev_as (v := .raw _) J) ?_
          refine dr_ev rfl (ev_as (v := .raw _) J) ?_
          refine dr_end (sq_nil (aw_block (aw_seq ?_)))
          have ea := shad_cell (c := c) (m := m) (k := k) (by omega) (by omega)
          have eb := shad_cell (c := (Ca.mk c.s g q)) (m := m) (k := k) (by omega) (by omega)
          simp only [ea, eb]
          refine aw_region (mvr J rfl (sq_ev rfl (ev_eql J J) ?_))
          refine mvr J rfl ?_
          refine sq_split 72 J (fun g14_2 => ?_) (fun g14_2 => ?_)
          · skip
            have g14_2' := g14_2
            try simp only [qq] at g14_2'
            refine sq_yes rfl rfl (less_b g14_2) rfl (ev_mv (v := .raw _) J) ?_
            refine sq_yes rfl rfl (less_b g14_2) rfl (ev_eql J J) ?_
            refine sq_ev rfl (ev_pickT (v := .raw _) (less_b g14_2) J) ?_
            refine asr J rfl (sq_nil ?_)
            refine aw_cond J (fun c_69 => ?_) (fun c_69 => ?_)
            · skip
              have c_69' := c_69
              try simp only [qq] at c_69'
              have hdd : dd (c.cell (k : Nat) (m : Nat), (Ca.mk c.s g q).cell (k : Nat) (m : Nat)) = true := by rw [dec35] at c_69 g14_2; unfold dd; simp only [c_69, g14_2, Bool.and_true]
              have hme := meets_dd hmh hkw hdd
              refine aw_seq (aw_region (asr J rfl ?_))
              refine sq_nil (aw_exit (aw_seq (aw_region (mvr J rfl (asr J rfl (asr J rfl (sq_nil (aw_ret ?_))))))))
              exact retQ_pure (v := .tup [.raw _, .raw _]) rfl rfl (less_tup ⟨less_int (by rw [if_pos hok, hme]), less_int (by simp [er, *]), trivial⟩)
            · skip
              have c_69' := c_69
              try simp only [qq] at c_69'
              have hdd : dd (c.cell (k : Nat) (m : Nat), (Ca.mk c.s g q).cell (k : Nat) (m : Nat)) = false := by rw [dec35] at c_69; unfold dd; simp only [c_69, Bool.and_false]
              have hnx : (mrow c (Ca.mk c.s g q) m (k + 1)).any dd = false := by rw [mrow_succ]; exact any_snoc hd2 hdd
              refine aw_seq (aw_region (mvr J rfl (sq_ev rfl (ev_neq J J) ?_)))
              refine mvr J rfl ?_
              refine sq_split 79 J (fun g16_2 => ?_) (fun g16_2 => ?_)
              · skip
                have g16_2' := g16_2
                try simp only [qq] at g16_2'
                refine sq_yes rfl rfl (less_b g16_2) rfl (ev_mv (v := .raw _) J) ?_
                refine sq_yes rfl rfl (less_b g16_2) rfl (ev_neq J J) ?_
                refine sq_ev rfl (ev_pickT (v := .raw _) (less_b g16_2) J) ?_
                refine asr J rfl (sq_nil ?_)
                refine aw_cond J (fun c_76 => ?_) (fun c_76 => ?_)
                · skip
                  have c_76' := c_76
                  try simp only [qq] at c_76'
                  have hnl : nl (c.cell (k : Nat) (m : Nat), (Ca.mk c.s g q).cell (k : Nat) (m : Nat)) = true := by rw [dec46n] at c_76 g16_2; unfold nl; simp only [c_76, g16_2, Bool.and_true]
                  have eF : I 2 = I (soft (mall c (Ca.mk c.s g q) m ++ mrow c (Ca.mk c.s g q) m (k + 1))) := by rw [mrow_succ, ← List.append_assoc, soft_snoc]; rw [hnl]; rfl
                  refine aw_region (asr J rfl (sq_nil (aw_region (sq_ev rfl (ev_add J J (wr (by omega) (by omega))) ?_))))
                  refine mvr J rfl (sq_nil ?_)
                  exact ⟨⟨k + 1, by omega, hnx⟩, by simp only; omega, Sub.slots ⟨(Less.eq eF), J, J, J, J, J, J, J, J, trivial⟩⟩
                · skip
                  have c_76' := c_76
                  try simp only [qq] at c_76'
                  have hnl : nl (c.cell (k : Nat) (m : Nat), (Ca.mk c.s g q).cell (k : Nat) (m : Nat)) = false := by rw [dec46n] at c_76; unfold nl; simp only [c_76, Bool.and_false]
                  have eF : I (soft (mall c (Ca.mk c.s g q) m ++ mrow c (Ca.mk c.s g q) m k)) = I (soft (mall c (Ca.mk c.s g q) m ++ mrow c (Ca.mk c.s g q) m (k + 1))) := by rw [mrow_succ, ← List.append_assoc, soft_snoc]; rw [hnl]; rfl
                  refine aw_skip (aw_region (sq_ev rfl (ev_add J J (wr (by omega) (by omega))) ?_))
                  refine mvr J rfl (sq_nil ?_)
                  exact ⟨⟨k + 1, by omega, hnx⟩, by simp only; omega, Sub.slots ⟨(Less.eq eF), J, J, J, J, J, J, J, J, trivial⟩⟩
              · skip
                have g16_2' := g16_2
                try simp only [qq] at g16_2'
                have hnl : nl (c.cell (k : Nat) (m : Nat), (Ca.mk c.s g q).cell (k : Nat) (m : Nat)) = false := by rw [dec46n] at g16_2; unfold nl; simp only [g16_2, Bool.false_and]
                have eF : I (soft (mall c (Ca.mk c.s g q) m ++ mrow c (Ca.mk c.s g q) m k)) = I (soft (mall c (Ca.mk c.s g q) m ++ mrow c (Ca.mk c.s g q) m (k + 1))) := by rw [mrow_succ, ← List.append_assoc, soft_snoc]; rw [hnl]; rfl
                refine sq_no rfl rfl (less_b g16_2) rfl rfl ?_
                refine sq_no rfl rfl (less_b g16_2) rfl rfl ?_
                refine sq_ev rfl (ev_pickF (v := .raw _) (less_b g16_2) J) ?_
                refine asr J rfl (sq_nil ?_)
                refine aw_false J ?_
                refine aw_skip (aw_region (sq_ev rfl (ev_add J J (wr (by omega) (by omega))) ?_))
                refine mvr J rfl (sq_nil ?_)
                exact ⟨⟨k + 1, by omega, hnx⟩, by simp only; omega, Sub.slots ⟨(Less.eq eF), J, J, J, J, J, J, J, J, trivial⟩⟩
          · skip
            have g14_2' := g14_2
            try simp only [qq] at g14_2'
            have hdd : dd (c.cell (k : Nat) (m : Nat), (Ca.mk c.s g q).cell (k : Nat) (m : Nat)) = false := by rw [dec35] at g14_2; unfold dd; simp only [g14_2, Bool.false_and]
            have hnx : (mrow c (Ca.mk c.s g q) m (k + 1)).any dd = false := by rw [mrow_succ]; exact any_snoc hd2 hdd
            refine sq_no rfl rfl (less_b g14_2) rfl rfl ?_
            refine sq_no rfl rfl (less_b g14_2) rfl rfl ?_
            refine sq_ev rfl (ev_pickF (v := .raw _) (less_b g14_2) J) ?_
            refine asr J rfl (sq_nil ?_)
            refine aw_false J ?_
            refine aw_seq (aw_region (mvr J rfl (sq_ev rfl (ev_neq J J) ?_)))
            refine mvr J rfl ?_
            refine sq_split 79 J (fun g16_2 => ?_) (fun g16_2 => ?_)
            · skip
              have g16_2' := g16_2
              try simp only [qq] at g16_2'
              refine sq_yes rfl rfl (less_b g16_2) rfl (ev_mv (v := .raw _) J) ?_
              refine sq_yes rfl rfl (less_b g16_2) rfl (ev_neq J J) ?_
              refine sq_ev rfl (ev_pickT (v := .raw _) (less_b g16_2) J) ?_
              refine asr J rfl (sq_nil ?_)
              refine aw_cond J (fun c_76 => ?_) (fun c_76 => ?_)
              · skip
                have c_76' := c_76
                try simp only [qq] at c_76'
                have hnl : nl (c.cell (k : Nat) (m : Nat), (Ca.mk c.s g q).cell (k : Nat) (m : Nat)) = true := by rw [dec46n] at c_76 g16_2; unfold nl; simp only [c_76, g16_2, Bool.and_true]
                have eF : I 2 = I (soft (mall c (Ca.mk c.s g q) m ++ mrow c (Ca.mk c.s g q) m (k + 1))) := by rw [mrow_succ, ← List.append_assoc, soft_snoc]; rw [hnl]; rfl
                refine aw_region (asr J rfl (sq_nil (aw_region (sq_ev rfl (ev_add J J (wr (by omega) (by omega))) ?_))))
                refine mvr J rfl (sq_nil ?_)
                exact ⟨⟨k + 1, by omega, hnx⟩, by simp only; omega, Sub.slots ⟨(Less.eq eF), J, J, J, J, J, J, J, J, trivial⟩⟩
              · skip
                have c_76' := c_76
                try simp only [qq] at c_76'
                have hnl : nl (c.cell (k : Nat) (m : Nat), (Ca.mk c.s g q).cell (k : Nat) (m : Nat)) = false := by rw [dec46n] at c_76; unfold nl; simp only [c_76, Bool.and_false]
                have eF : I (soft (mall c (Ca.mk c.s g q) m ++ mrow c (Ca.mk c.s g q) m k)) = I (soft (mall c (Ca.mk c.s g q) m ++ mrow c (Ca.mk c.s g q) m (k + 1))) := by rw [mrow_succ, ← List.append_assoc, soft_snoc]; rw [hnl]; rfl
                refine aw_skip (aw_region (sq_ev rfl (ev_add J J (wr (by omega) (by omega))) ?_))
                refine mvr J rfl (sq_nil ?_)
                exact ⟨⟨k + 1, by omega, hnx⟩, by simp only; omega, Sub.slots ⟨(Less.eq eF), J, J, J, J, J, J, J, J, trivial⟩⟩
            · skip
              have g16_2' := g16_2
              try simp only [qq] at g16_2'
              have hnl : nl (c.cell (k : Nat) (m : Nat), (Ca.mk c.s g q).cell (k : Nat) (m : Nat)) = false := by rw [dec46n] at g16_2; unfold nl; simp only [g16_2, Bool.false_and]
              have eF : I (soft (mall c (Ca.mk c.s g q) m ++ mrow c (Ca.mk c.s g q) m k)) = I (soft (mall c (Ca.mk c.s g q) m ++ mrow c (Ca.mk c.s g q) m (k + 1))) := by rw [mrow_succ, ← List.append_assoc, soft_snoc]; rw [hnl]; rfl
              refine sq_no rfl rfl (less_b g16_2) rfl rfl ?_
              refine sq_no rfl rfl (less_b g16_2) rfl rfl ?_
              refine sq_ev rfl (ev_pickF (v := .raw _) (less_b g16_2) J) ?_
              refine asr J rfl (sq_nil ?_)
              refine aw_false J ?_
              refine aw_skip (aw_region (sq_ev rfl (ev_add J J (wr (by omega) (by omega))) ?_))
              refine mvr J rfl (sq_nil ?_)
              exact ⟨⟨k + 1, by omega, hnx⟩, by simp only; omega, Sub.slots ⟨(Less.eq eF), J, J, J, J, J, J, J, J, trivial⟩⟩
        · skip
          have c_55' := c_55
          try simp only [qq] at c_55'
          refine aw_exit (aw_region (sq_ev rfl (ev_add J J (wr (by omega) (by omega))) ?_))
          refine mvr J rfl (sq_nil ?_)
          have hkt : k = c.s.wide.toNat := by omega
          exact ⟨⟨m + 1, by omega, by rw [mall_succ, List.any_append, hd1, ← hkt, hd2]; rfl⟩, by simp only; omega, Sub.slots ⟨(Less.eq (show I (soft (mall c (Ca.mk c.s g q) m ++ mrow c (Ca.mk c.s g q) m k)) = _ by rw [mall_succ, hkt])), J, J, J, J, J, trivial⟩⟩
      · skip
        have c_50' := c_50
        try simp only [qq] at c_50'
        have hmt : mall c (Ca.mk c.s g q) m = mall c (Ca.mk c.s g q) c.s.high.toNat := by rw [show m = c.s.high.toNat by omega]
        refine aw_exit (aw_seq (aw_region (mvr J rfl (asr J rfl (asr J rfl (sq_nil (aw_ret ?_)))))))
        exact retQ_pure (v := .tup [.raw _, .raw _]) rfl rfl (less_tup ⟨less_int (by first | (rw [hok]; rfl) | (rw [if_pos hok]; unfold meetsC; rw [← hmt, meetsP_soft hd1])), less_int (by simp [er, *]), trivial⟩)
end Go.Proofs.YtmbknoaneglilaaGreatDoor
