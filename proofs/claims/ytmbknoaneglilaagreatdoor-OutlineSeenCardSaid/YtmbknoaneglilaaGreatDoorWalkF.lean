/-
  A part of the proof: conditions: none beyond each theorem's own.
-/
import Derived.Test.YtmbknoaneglilaaGreatDoorWalkE
import Derived.Test.YtmbknoaneglilaaGreatDoorLogicD
import Derived.Test.YtmbknoaneglilaaGreatDoorLogicE
set_option linter.all false
set_option maxRecDepth 100000
set_option maxHeartbeats 8000000
namespace Go.Proofs.YtmbknoaneglilaaGreatDoor
open Go Go.Ab Ni Ol
instance bi47 : BdI Tryz.prog 47 [.raw (.int .i64 0), .raw (.int .i64 0)] true [(0, 1), (1, 1)] 0 := ⟨by kernel_rfl⟩
instance bi49 : BdI Tryz.prog 49 [.raw (.int .i64 0), .raw (.int .i64 0), .raw (.int .i64 0), .raw (.int .i64 0), .raw (.int .i64 0)] true [(0, 2), (2, 2), (4, 1)] 0 := ⟨by kernel_rfl⟩
instance en32 : EnT Tryz.prog 32 := ⟨Ent.of Tryz.func32 (by kernel_rfl) rfl⟩
instance en47 : EnT Tryz.prog 47 := ⟨Ent.of Tryz.func47 (by kernel_rfl) rfl⟩
instance en52 : EnT Tryz.prog 52 := ⟨Ent.of Tryz.func52 (by kernel_rfl) rfl⟩
instance en82 : EnT Tryz.prog 82 := ⟨Ent.of Tryz.func82 (by kernel_rfl) rfl⟩
instance en90 : EnT Tryz.prog 90 := ⟨Ent.of Tryz.func90 (by kernel_rfl) rfl⟩
instance en91 : EnT Tryz.prog 91 := ⟨Ent.of Tryz.func91 (by kernel_rfl) rfl⟩
instance en92 : EnT Tryz.prog 92 := ⟨Ent.of Tryz.func92 (by kernel_rfl) rfl⟩
instance en93 : EnT Tryz.prog 93 := ⟨Ent.of Tryz.func93 (by kernel_rfl) rfl⟩
instance en94 : EnT Tryz.prog 94 := ⟨Ent.of Tryz.func94 (by kernel_rfl) rfl⟩
instance en95 : EnT Tryz.prog 95 := ⟨Ent.of Tryz.func95 (by kernel_rfl) rfl⟩
instance en96 : EnT Tryz.prog 96 := ⟨Ent.of Tryz.func96 (by kernel_rfl) rfl⟩
instance sl117 : SlE Tryz.prog 117 108 1 := ⟨by kernel_rfl⟩
instance ty108 : TyF Tryz.prog 108 false 1 := ⟨by kernel_rfl⟩
instance z49 : ZeO Tryz.prog 49 [.raw (.int .i64 0), .raw (.int .i64 0), .raw (.int .i64 0), .raw (.int .i64 0), .raw (.int .i64 0)] := ⟨by kernel_rfl⟩
abbrev sS : Sg := ⟨8, 8, 8, 0, 4, 4⟩
abbrev sT : Sg := ⟨8, 8, 8, 1, 4, 4⟩
abbrev fF : Fg := [[35, 35], [35, 35]]
abbrev fH : Fg := [[35, 35], [35, 46]]
abbrev rR : Rc := ⟨0, 1, 3, 3, 3⟩
abbrev nN8 : List (List UInt8) := List.replicate 8 (List.replicate 8 63)
def seenC (w : Int) (l : List (List UInt8)) (k : Nat) (c : UInt8) : List (List UInt8) := l.set (k / w.toNat) ((l.getD (k / w.toNat) []).set (k % w.toNat) c)
theorem same_ext {α : Type} {a b : List α} (hl : a.length = b.length) (h : ∀ i, (h1 : i < a.length) → (h2 : i < b.length) → a[i] = b[i]) : a = b := List.ext_getElem hl h
theorem kF_pure  : APure Tryz.prog 90 [] (fgA fF) := by
  refine apure_of (rs := [.cell 0 26]) Tryz.func90 rfl rfl (Nat.le_of_ble_eq_true rfl) (by simp [AV.pureL, AV.pureB, AV.pureE, pureE_map]) (by first | rfl | (simp [AV.pureL, AV.pureB, AV.pureE, pureE_map])) fun e0 he0 => ?_
  refine W 1 ?_
  refine sq_ev rfl (ev_buildSlice (es := [[_], [_]]) sf24.h rfl rfl rfl rfl) ?_
  refine W 2 ?_
  exact retQ_res (vs := [.agg _]) rfl rfl ⟨resVar_cell rfl rfl ty26.h rfl, trivial⟩ (less_agg ⟨less_slx _ _, trivial⟩)
theorem kH_pure  : APure Tryz.prog 91 [] (fgA fH) := by
 refine apure_of (rs := [.cell 0 26]) Tryz.func91 rfl rfl (Nat.le_of_ble_eq_true rfl) (by simp [AV.pureL, AV.pureB, AV.pureE, pureE_map]) (by first | rfl | (simp [AV.pureL, AV.pureB, AV.pureE, pureE_map])) fun e0 he0 => ?_
 refine W 1 ?_
 refine sq_ev rfl (ev_buildSlice (es := [[_], [_]]) sf24.h rfl rfl rfl rfl) ?_
 refine W 2 ?_
 exact retQ_res (vs := [.agg _]) rfl rfl ⟨resVar_cell rfl rfl ty26.h rfl, trivial⟩ (less_agg ⟨less_slx _ _, trivial⟩)
theorem kS_pure  : APure Tryz.prog 94 [] (stA sS) := by
 refine apure_of (rs := [.cell 0 23]) Tryz.func94 rfl rfl (Nat.le_of_ble_eq_true rfl) (by simp [AV.pureL, AV.pureB, AV.pureE, pureE_map]) (by first | rfl | (simp [AV.pureL, AV.pureB, AV.pureE, pureE_map])) fun e0 he0 => ?_
 refine W 3 ?_
 exact retQ_res (vs := [.agg _]) rfl rfl ⟨resVar_cell rfl rfl ty23.h rfl, trivial⟩ J
theorem kT_pure  : APure Tryz.prog 92 [] (stA sT) := by
 refine apure_of (rs := [.cell 0 23]) Tryz.func92 rfl rfl (Nat.le_of_ble_eq_true rfl) (by simp [AV.pureL, AV.pureB, AV.pureE, pureE_map]) (by first | rfl | (simp [AV.pureL, AV.pureB, AV.pureE, pureE_map])) fun e0 he0 => ?_
 refine W 1 ?_
 refine cl A (kS_pure) ?_
 refine W 6 ?_
 exact retQ_res (vs := [.agg _]) rfl rfl ⟨resVar_cell rfl rfl ty23.h rfl, trivial⟩ J
theorem kR_pure  : APure Tryz.prog 93 [] (rcA rR) := by
 refine apure_of (rs := [.cell 0 49]) Tryz.func93 rfl rfl (Nat.le_of_ble_eq_true rfl) (by simp [AV.pureL, AV.pureB, AV.pureE, pureE_map]) (by first | rfl | (simp [AV.pureL, AV.pureB, AV.pureE, pureE_map])) fun e0 he0 => ?_
 refine W 5 ?_
 exact retQ_res (vs := [.agg _]) rfl rfl ⟨resVar_cell rfl rfl ty49.h rfl, trivial⟩ J
theorem kat_pure (n x y : Int) : APure Tryz.prog 32 [I n, I x, I y] (pcA ⟨n, x, y⟩) := by
 refine apure_of (rs := [.cell 6 28]) Tryz.func32 rfl rfl (Nat.le_of_ble_eq_true rfl) (by simp [AV.pureL, AV.pureB, AV.pureE, pureE_map]) (by first | rfl | (simp [AV.pureL, AV.pureB, AV.pureE, pureE_map])) fun e0 he0 => ?_
 refine W 6 ?_
 exact retQ_res (vs := [.agg _]) rfl rfl ⟨resVar_cell rfl rfl ty28.h rfl, trivial⟩ J
theorem kN_pure  : APure Tryz.prog 96 [] (strs nN8) := by
 refine apure_of (rs := [.tmp 0]) Tryz.func96 rfl rfl (Nat.le_of_ble_eq_true rfl) (by simp [AV.pureL, AV.pureB, AV.pureE, pureE_map]) (by first | rfl | (simp [AV.pureL, AV.pureB, AV.pureE, pureE_map])) fun e0 he0 => ?_
 refine V 3 ?_
 refine sq_nil (aw_block ?_)
 refine aw_sub (sub_token 1 1 J) ?_
 refine aw_loopk (ι := { k : Nat // k ≤ 8 }) [] (fun i => [(2, I i.1), (1, .own 0 1 ((List.replicate i.1 (List.replicate 8 (63 : UInt8))).map fun x => [S x]))]) (fun H i => H.set 0 (.tok ((List.replicate i.1 (List.replicate 8 (63 : UInt8))).map fun x => [S x]).length)) (fun i => 8 - i.1) (⟨0, Nat.zero_le _⟩) ⟨J, J, trivial⟩ rfl ?_
 rintro ⟨k, hk⟩
 dsimp only [keepS, St.put, sget, slotsOf, nn1, nn2, nn3, nn4, nn5, nn6, Nat.reduceBEq, Nat.reduceAdd, nn7, nn8]
 refine W 2 ?_
 refine iff (fun c_4 c_4' => ?_) (fun c_4 c_4' => ?_)
 ·
  have eS : (List.replicate (k + 1) (List.replicate 8 (63 : UInt8))).map (fun x => [S x]) = (List.replicate k (List.replicate 8 (63 : UInt8))).map (fun x => [S x]) ++ [[S (List.replicate 8 63)]] := by rw [List.replicate_succ', List.map_append]; rfl
  refine W 1 ?_
  refine sq_ev rfl (ev_buildSlice (es := [[_]]) sf24.h rfl rfl rfl rfl) ?_
  first | refine sq_append rfl sf24.h Tryz.underlying24 rfl rfl J (Nat.succ_pos _) (by simp; omega) (by simp; omega) ?_ | refine sq_append rfl sf24.h Tryz.underlying24 rfl rfl (less_slx _ _) (Nat.succ_pos _) (by simp; omega) (by simp; omega) ?_
  refine W 4 ?_
  exact ⟨⟨k + 1, by omega⟩, by simp only; omega, Sub.fin 1 ⟨J, Less.eq (b := .own 0 1 ((List.replicate (k + 1) (List.replicate 8 (63 : UInt8))).map fun x => [S x])) (by rw [eS] <;> rfl), trivial⟩ (congrArg (fun n => [AObj.tok n]) (congrArg List.length eS.symm)) (by simp [slotsIn, objsIn, sget, keepS, AObj.inB, AV.inB, AV.inL, AV.inE, inE_map, -List.map_replicate, inE_ints, inE_strs, inE_figs, inE_cloths, -List.map_append, -List.map_take, -List.map_map]) (by simp [slotsIn, objsIn, sget, keepS, AObj.inB, AV.inB, AV.inL, AV.inE, inE_map, -List.map_replicate, inE_ints, inE_strs, inE_figs, inE_cloths, -List.map_append, -List.map_take, -List.map_map]) (by simp [he0])⟩
 obtain rfl : k = 8 := by omega
 refine W 2 ?_
 exact retQ_pure (v := .own _ _ _) rfl rfl (Less.trans (less_own _ _ _) (Less.eq (by rfl)))
theorem seen_pure (s : Sg) (l : List (List UInt8)) (k : Nat) (c : UInt8) (hs : stOK s = true) (hc : Clo s l) (hk : (k : Int) < s.wide * s.high) : APure Tryz.prog 52 [stA s, strs l, I k, C c] (strs (seenC s.wide l k c)) := by
 refine apure_of (rs := [.tmp 8]) Tryz.func52 rfl rfl (Nat.le_of_ble_eq_true rfl) (by simp [AV.pureL, AV.pureB, AV.pureE, pureE_map]) (by first | rfl | (simp [AV.pureL, AV.pureB, AV.pureE, pureE_map])) fun e0 he0 => ?_
 have hsb := stOK_iff.1 hs
 have hwh := wh_bd hs
 obtain ⟨h1, h2, h3⟩ := chAt_get hs hc hk
 have hll : l.length = s.high.toNat := hc.len
 have hlr : l[k / s.wide.toNat].length = s.wide.toNat := hc.row _ (List.getElem_mem h1)
 have hget : ∀ rs : List AV, ((l.map fun x => [S x]).flatten ++ rs)[0 + k / s.wide.toNat * 1]? = some (S l[k / s.wide.toNat]) := fun rs => by
  rw [flat_single, Nat.zero_add, Nat.mul_one, List.getElem?_append_left (by simpa using h1), List.getElem?_map, List.getElem?_eq_getElem h1]; rfl
 have hnew : S (l[k / s.wide.toNat].take (k % s.wide.toNat) ++ ([((c.toNat : Nat) : Int)].map fun n => UInt8.ofNat n.toNat) ++ l[k / s.wide.toNat].drop (k % s.wide.toNat + 1)) = S (l[k / s.wide.toNat].set (k % s.wide.toNat) c) := by
  have e : ([((c.toNat : Nat) : Int)].map fun n => UInt8.ofNat n.toNat) = [c] := by simp
  rw [e, List.set_eq_take_append_cons_drop, if_pos h2]; simp
 refine W 3 ?_
 refine sq_append_msl (xs := l.map fun x => [S x]) rfl sf24.h Tryz.underlying24 (less_nilx _) J (by simp; omega) (by simp; omega) (by simp; omega) fun cap hcap => ?_
 rw [List.length_map] at hcap
 refine sq_ev rfl (ev_as (v := .msl _ _ _ _) J) ?_
 refine W 0 ?_
 refine sq_ev rfl (ev_mv (v := .msl _ _ _ _) J) ?_
 refine W 3 ?_
 refine sq_ev rfl (ev_quo (q := ((k / s.wide.toNat : Nat) : Int)) J J (by omega) (quo_nat (by omega) (by omega))) ?_
 refine sq_ev rfl (ev_index_msl sl24.h J J rfl (by simpa using h1)) ?_
 refine sq_ev rfl (ev_load J rfl ty9.h (hget _)) ?_
 refine W 1 ?_
 refine aw_draw 24 mo (by kernel_rfl) ?_
 refine dr_ev rfl (ev_mv (v := .msl _ _ _ _) J) ?_
 refine WD 3 ?_
 refine dr_ev rfl (ev_quo (q := ((k / s.wide.toNat : Nat) : Int)) J J (by omega) (quo_nat (by omega) (by omega))) ?_
 refine WD 4 ?_
 refine dr_ev rfl (ev_less (ev_rem J J (by omega)) (less_int (rem_nat (by omega)))) ?_
 refine dr_ev rfl (ev_cutHi Tryz.underlying9 J J (by omega)) ?_
 refine WD 1 ?_
 refine dr_ev rfl (ev_buildSlice (es := [[_]]) sf92.h rfl rfl rfl rfl) ?_
 refine WD 1 ?_
 refine dr_ev rfl (ev_catS J J (by simp only [List.length_append, List.length_cons, List.length_nil, List.length_take, List.length_drop, List.length_map]; omega)) ?_
 refine WD 4 ?_
 refine dr_ev rfl (ev_less (ev_rem J J (by omega)) (less_int (rem_nat (by omega)))) ?_
 refine WD 1 ?_
 refine dr_ev rfl (ev_cutLo (lo := k % s.wide.toNat + 1) Tryz.underlying9 J (less_int (by simp)) (by omega)) ?_
 refine dr_ev rfl (ev_catS J J (by simp only [List.length_append, List.length_cons, List.length_nil, List.length_take, List.length_drop, List.length_map]; omega)) ?_
 refine dr_ev rfl (ev_index_msl sl24.h J J rfl (by simpa using h1)) ?_
 refine dr_end ?_
 refine sq_storeRow (A := [AObj.cells (stC s), .dead]) (X := []) (R := l) (rs := (List.replicate ((cap - (l.map fun x => [S x]).length) * 1) AV.any)) (k := 1) (v := (l[k / s.wide.toNat].set (k % s.wide.toNat) c)) (a := S (l[k / s.wide.toNat].set (k % s.wide.toNat) c)) (n := k / s.wide.toNat) (f := fun x => [S x]) (sz := 1) (bb := false) ?_ ?_ (fun _ => rfl) (by simp) ?_ ?_ ?_ ?_ ?_ ?_
 ·
  rfl
 ·
  rfl
 ·
  exact h1
 ·
  exact J
 ·
  exact Less.eq hnew
 ·
  rfl
 ·
  exact ty9.h
 refine W 0 ?_
 refine sq_ev rfl (ev_mv (v := .msl _ _ _ _) J) ?_
 refine sq_sub (sub_freezeK [] 44 (j := 1) (sz := 1) (es := (l.set (k / s.wide.toNat) (l[k / s.wide.toNat].set (k % s.wide.toNat) c)).map fun x => [S x]) (rest := (List.replicate ((cap - (l.map fun x => [S x]).length) * 1) AV.any)) rfl rfl (by simp) (fun r hr => by obtain ⟨t, _, rfl⟩ := List.mem_map.1 hr; rfl)) ?_
 refine ass rfl J ?_
 refine W 0 ?_
 exact retQ_pure (v := .sl _ _) rfl rfl (Less.eq (by unfold seenC; rw [getD_get h1]))
theorem kD_pure  : APure Tryz.prog 95 [] (strs (seenC 8 nN8 36 35)) := by
 refine apure_of (rs := [.tmp 0]) Tryz.func95 rfl rfl (Nat.le_of_ble_eq_true rfl) (by simp [AV.pureL, AV.pureB, AV.pureE, pureE_map]) (by first | rfl | (simp [AV.pureL, AV.pureB, AV.pureE, pureE_map])) fun e0 he0 => ?_
 refine W 1 ?_
 refine cl A (kS_pure) ?_
 refine cl A (kN_pure) ?_
 refine cl A (seen_pure sS nN8 36 35 (by decide +kernel) ⟨rfl, fun r hr => by rw [(List.mem_replicate.1 hr).2]; rfl⟩ (by decide)) ?_
 refine W 1 ?_
 exact retQ_pure (v := .sl _ _) rfl rfl J
theorem same_pure (a b : List Int) (ha : a.length ≤ 1000000) (hb : b.length ≤ 1000000) : APure Tryz.prog 47 [ints a, ints b] (B (decide (a = b))) := by
 refine apure_of (rs := [.tmp 4]) Tryz.func47 rfl rfl (Nat.le_of_ble_eq_true rfl) (by simp [AV.pureL, AV.pureB, AV.pureE, pureE_map]) (by first | rfl | (simp [AV.pureL, AV.pureB, AV.pureE, pureE_map])) fun e0 he0 => ?_
 refine W 6 ?_
 refine ifn (fun c_10 c_10' => ?_) (fun c_10 c_10' => ?_)
 ·
  refine W 1 ?_
  exact retQ_pure (v := .raw _) rfl rfl (Less.eq (by rw [decide_eq_false (fun h => by rw [h] at c_10'; exact c_10' rfl)]))
 have hlen : a.length = b.length := by omega
 refine W 1 ?_
 refine aw_loopk (ι := { k : Nat // k ≤ a.length ∧ ∀ i, (h1 : i < a.length) → (h2 : i < b.length) → i < k → a[i] = b[i] }) [0, 1] (fun g => [(5, I g.1)]) (fun H g => H) (fun g => a.length - g.1) (⟨0, Nat.zero_le _, by omega⟩) ⟨J, J, J, trivial⟩ rfl ?_
 rintro ⟨k, hk, hok⟩
 dsimp only [keepS, St.put, sget, slotsOf, nn1, nn2, nn3, nn4, nn5, nn6, Nat.reduceBEq, Nat.reduceAdd, nn7, nn8]
 refine W 4 ?_
 refine iff (fun c_14 c_14' => ?_) (fun c_14 c_14' => ?_)
 ·
  have hkL : k < a.length := by omega
  refine W 0 ?_
  refine aw_draw 9 mo (by kernel_rfl) ?_
  refine WD 9 ?_
  refine W 0 ?_
  refine ifn (fun c_25 c_25' => ?_) (fun c_25 c_25' => ?_)
  ·
   refine W 1 ?_
   exact retQ_pure (v := .raw _) rfl rfl (Less.eq (by rw [decide_eq_false (fun h => by subst h; exact c_25' rfl)]))
  refine W 3 ?_
  exact ⟨⟨k + 1, by omega, fun i h1 h2 h => (by by_cases e : i = k; (subst e; simpa using c_25'); exact hok i h1 h2 (by omega))⟩, by simp only; omega, Sub.slots ⟨J, J, J, trivial⟩⟩
 have heq : a = b := same_ext hlen fun i h1 h2 => hok i h1 h2 (by omega)
 refine W 1 ?_
 exact retQ_pure (v := .raw _) rfl rfl (Less.eq (by rw [decide_eq_true heq]))
theorem sameW_pure (a b : List Int) (ha : a.length ≤ 1000000) (hb : b.length ≤ 1000000) : APure Tryz.prog 82 [ints a, ints b] (B (decide (a = b))) := by
 refine apure_of (rs := [.tmp 4]) Tryz.func82 rfl rfl (Nat.le_of_ble_eq_true rfl) (by simp [AV.pureL, AV.pureB, AV.pureE, pureE_map]) (by first | rfl | (simp [AV.pureL, AV.pureB, AV.pureE, pureE_map])) fun e0 he0 => ?_
 refine W 6 ?_
 refine ifn (fun c_10 c_10' => ?_) (fun c_10 c_10' => ?_)
 ·
  refine W 1 ?_
  exact retQ_pure (v := .raw _) rfl rfl (Less.eq (by rw [decide_eq_false (fun h => by rw [h] at c_10'; exact c_10' rfl)]))
 have hlen : a.length = b.length := by omega
 refine W 1 ?_
 refine aw_loopk (ι := { k : Nat // k ≤ a.length ∧ ∀ i, (h1 : i < a.length) → (h2 : i < b.length) → i < k → a[i] = b[i] }) [0, 1] (fun g => [(5, I g.1)]) (fun H g => H) (fun g => a.length - g.1) (⟨0, Nat.zero_le _, by omega⟩) ⟨J, J, J, trivial⟩ rfl ?_
 rintro ⟨k, hk, hok⟩
 dsimp only [keepS, St.put, sget, slotsOf, nn1, nn2, nn3, nn4, nn5, nn6, Nat.reduceBEq, Nat.reduceAdd, nn7, nn8]
 refine W 4 ?_
 refine iff (fun c_14 c_14' => ?_) (fun c_14 c_14' => ?_)
 ·
  have hkL : k < a.length := by omega
  refine W 0 ?_
  refine aw_draw 9 mo (by kernel_rfl) ?_
  refine WD 9 ?_
  refine W 0 ?_
  refine ifn (fun c_25 c_25' => ?_) (fun c_25 c_25' => ?_)
  ·
   refine W 1 ?_
   exact retQ_pure (v := .raw _) rfl rfl (Less.eq (by rw [decide_eq_false (fun h => by subst h; exact c_25' rfl)]))
  refine W 3 ?_
  exact ⟨⟨k + 1, by omega, fun i h1 h2 h => (by by_cases e : i = k; (subst e; simpa using c_25'); exact hok i h1 h2 (by omega))⟩, by simp only; omega, Sub.slots ⟨J, J, J, trivial⟩⟩
 have heq : a = b := same_ext hlen fun i h1 h2 => hok i h1 h2 (by omega)
 refine W 1 ?_
 exact retQ_pure (v := .raw _) rfl rfl (Less.eq (by rw [decide_eq_true heq]))
end Go.Proofs.YtmbknoaneglilaaGreatDoor
namespace Go.Proofs.YtmbknoaneglilaaGreatDoor
open Go Go.Ab Ni Ol
instance en28 : EnT Tryz.prog 28 := ⟨Ent.of Tryz.func28 (by kernel_rfl) rfl⟩
instance en33 : EnT Tryz.prog 33 := ⟨Ent.of Tryz.func33 (by kernel_rfl) rfl⟩
instance en35 : EnT Tryz.prog 35 := ⟨Ent.of Tryz.func35 (by kernel_rfl) rfl⟩
instance en44 : EnT Tryz.prog 44 := ⟨Ent.of Tryz.func44 (by kernel_rfl) rfl⟩
instance en45 : EnT Tryz.prog 45 := ⟨Ent.of Tryz.func45 (by kernel_rfl) rfl⟩
instance en56 : EnT Tryz.prog 56 := ⟨Ent.of Tryz.func56 (by kernel_rfl) rfl⟩
instance en57 : EnT Tryz.prog 57 := ⟨Ent.of Tryz.func57 (by kernel_rfl) rfl⟩
instance en61 : EnT Tryz.prog 61 := ⟨Ent.of Tryz.func61 (by kernel_rfl) rfl⟩
instance en62 : EnT Tryz.prog 62 := ⟨Ent.of Tryz.func62 (by kernel_rfl) rfl⟩
instance en67 : EnT Tryz.prog 67 := ⟨Ent.of Tryz.func67 (by kernel_rfl) rfl⟩
instance en73 : EnT Tryz.prog 73 := ⟨Ent.of Tryz.func73 (by kernel_rfl) rfl⟩
instance en79 : EnT Tryz.prog 79 := ⟨Ent.of Tryz.func79 (by kernel_rfl) rfl⟩
abbrev xS : Sn := ⟨sS, [fF, fH], rR⟩
abbrev xT : Sn := ⟨sT, [fF, fH], rR⟩
abbrev d36 : List (List UInt8) := seenC 8 nN8 36 35
abbrev text0 : List UInt8 := [115, 116, 97, 103, 101, 32, 49, 32, 49, 32, 50, 32, 48, 32, 48, 32, 48, 10, 102, 105, 103, 117, 114, 101, 32, 35, 10, 101, 110, 100, 32, 48, 55, 48, 10]
abbrev b0 : Bk := ⟨⟨1, 1, 2, 0, 0, 0⟩, [[[35]]]⟩
abbrev cF4 : Ca := ⟨sT, fF, ⟨4, 3, 3⟩⟩
abbrev cH4 : Ca := ⟨sT, fH, ⟨4, 3, 3⟩⟩
abbrev cF1 : Ca := ⟨sT, fF, ⟨1, 3, 3⟩⟩
abbrev shH : List (List UInt8) := cH4.shadow
theorem e_cF : caOK cF4 = true := by decide +kernel
theorem e_cH : caOK cH4 = true := by decide +kernel
theorem e_dark : cnt 35 cF4.shadow = 4 := by decide +kernel
theorem e_grey : cnt 43 cF4.shadow = 32 := by decide +kernel
theorem e_len : shH.length = 8 := by decide +kernel
theorem e_1 : shH[1]? = some [46, 43, 43, 43, 43, 43, 43, 46] := by decide +kernel
theorem e_5 : shH[5]? = some [46, 43, 43, 43, 43, 46, 46, 46] := by decide +kernel
theorem e_most : (cF4.atN 0 |> caOK) = true ∧ cF4.most = some 4 := by decide +kernel
theorem e_fades : (cH4.atN 0 |> caOK) = true ∧ cH4.fades = some 1 := by decide +kernel
theorem e_mis : misE xT = (0, 1, 0) := by decide +kernel
theorem e_tolo : tolOK xT 1 = true := by decide +kernel
theorem e_tol : toldOf xT 1 = [0] := by decide +kernel
theorem e_whoL : whoL xS d36 = [3, 1] := by decide +kernel
theorem e_whoE : whoE xS d36 = 0 := by decide +kernel
theorem e_next : nextR xS nN8 = ((36, 1), 0) := by decide +kernel
theorem e_plan : planE xS [0, 27, 36] = ([36], 0) := by decide +kernel
theorem e_parse0 : parse0 text0 = some b0 := by decide +kernel
theorem e_text : textB b0 = text0 := by decide +kernel
theorem e_parse : parseB text0 = some b0 := by unfold parseB; rw [e_parse0]; simp only; rw [if_pos e_text]
theorem e_bk : bkOK b0 = true := by decide +kernel
theorem e_read : readE text0 = (b0, 0) := readE_ok (by decide) e_parse e_bk
theorem k33 : APure Tryz.prog 33 [stA sT, fgA fF, pcA ⟨4, 3, 3⟩] (.tup [I 4, I 32, I 0]) := by
  have h := counts_pure cF4
  rw [if_pos e_cF, if_pos e_cF, e_dark, e_grey, e_cF] at h; exact h
theorem k28 : APure Tryz.prog 28 [stA sT, fgA fH, pcA ⟨4, 3, 3⟩] (.tup [strs shH, I 0]) := by
  have h := shadowE_pure cH4
  rw [if_pos e_cH, e_cH] at h; exact h
abbrev cF1b : Ca := ⟨sT, fF, ⟨1, 5, 3⟩⟩
theorem e_meet : (caOK cF1 && caOK cF1b) = true ∧ meetsC cF1 cF1b = 2 := by decide +kernel
theorem k73 : APure Tryz.prog 73 [stA sT, fgA fF, pcA ⟨1, 3, 3⟩, fgA fF, pcA ⟨1, 5, 3⟩] (.tup [I 2, I 0]) := by
  have h := meets_pure cF1 fF ⟨1, 5, 3⟩
  have e1 : (caOK cF1 && caOK (Ca.mk cF1.s fF ⟨1, 5, 3⟩)) = true := e_meet.1
  have e2 : meetsC cF1 (Ca.mk cF1.s fF ⟨1, 5, 3⟩) = 2 := e_meet.2
  rw [if_pos e1, e1, e2] at h; exact h
theorem k61 : APure Tryz.prog 61 [stA sT, fgA fF, I 3, I 3] (.tup [I 4, I 0]) := by
  have h := most_pure cF4
  rw [if_pos e_most.1, if_pos e_most.1, e_most.2] at h; exact h
theorem k62 : APure Tryz.prog 62 [stA sT, fgA fH, I 3, I 3] (.tup [I 1, I 0]) := by
  have h := fades_pure cH4
  rw [if_pos e_fades.1, if_pos e_fades.1, e_fades.2] at h; exact h
theorem k44 : APure Tryz.prog 44 [stA sT, figs [fF, fH], rcA rR] (.tup [I 0, I 1, I 0]) := by
  have h := mistaken_pure xT (by decide)
  rw [e_mis] at h; exact h
theorem k45 : APure Tryz.prog 45 [stA sT, figs [fF, fH], rcA rR, I 1] (.tup [ints [0], I 0]) := by
  have h := told_pure xT 1 (by decide)
  rw [if_pos e_tolo, e_tolo, show (1 : Int).toNat = 1 from rfl, e_tol] at h; exact h
theorem k79 : APure Tryz.prog 79 [stA sS, figs [fF, fH], rcA rR, strs d36] (.tup [ints [3, 1], I 0]) := by
  have h := who_pure xS d36 (by decide) ⟨by decide +kernel, by decide +kernel⟩
  rw [e_whoL, e_whoE] at h; exact h
theorem k35 : APure Tryz.prog 35 [stA sS, figs [fF, fH], rcA rR, strs nN8] (.tup [I 36, I 1, I 0]) := by
  have h := next_pure xS nN8 (by decide) ⟨by decide +kernel, by decide +kernel⟩
  rw [e_next] at h; exact h
theorem k67 : APure Tryz.prog 67 [stA sS, figs [fF, fH], rcA rR, ints [0, 27, 36]] (.tup [ints [36], I 0]) := by
  have h := plan_pure xS [0, 27, 36] (by decide) (by decide)
  rw [e_plan] at h; exact h
theorem k56 : APure Tryz.prog 56 [S text0] (.tup [bkA b0, I 0]) := by
  have h := read_pure text0
  rw [readAV, e_read] at h; exact h
theorem k57 : APure Tryz.prog 57 [bkA b0] (S text0) := by
  have h := rprint_pure b0 (smb_ok e_bk) (by decide)
  rw [e_text] at h; exact h
theorem known_pure  : APure Tryz.prog 27 [] (B true) := by
  refine apure_of (rs := [.tmp 0]) Tryz.func27 rfl rfl (Nat.le_of_ble_eq_true rfl) (by simp [AV.pureL, AV.pureB, AV.pureE, pureE_map]) (by first | rfl | (simp [AV.pureL, AV.pureB, AV.pureE, pureE_map])) fun e0 he0 => ?_
  refine W 1 ?_
  refine cl A (kF_pure) ?_
  refine cl A (kH_pure) ?_
  refine sq_ev rfl (ev_buildSlice (es := [[_], [_]]) sf45.h rfl rfl rfl rfl) ?_
  refine sq_ev rfl (ev_as (v := figs [fF, fH]) (Less.trans (less_slx _ _) (Less.eq rfl))) ?_
  refine W 0 ?_
  refine cl A (kT_pure) ?_
  refine cl A (kF_pure) ?_
  refine cl A (kat_pure _ _ _) ?_
  refine cl A (k33) ?_
  refine W 7 ?_
  refine cl A (kT_pure) ?_
  refine cl A (kH_pure) ?_
  refine cl A (kat_pure _ _ _) ?_
  refine cl A (k28) ?_
  refine W 5 ?_
  refine cl A (kT_pure) ?_
  refine cl A (kF_pure) ?_
  refine cl A (kat_pure _ _ _) ?_
  refine cl A (kF_pure) ?_
  refine cl A (kat_pure _ _ _) ?_
  refine cl A (k73) ?_
  refine W 5 ?_
  refine cl A (kT_pure) ?_
  refine cl A (kF_pure) ?_
  refine cl A (k61) ?_
  refine W 5 ?_
  refine cl A (kT_pure) ?_
  refine cl A (kH_pure) ?_
  refine cl A (k62) ?_
  refine W 5 ?_
  refine cl A (kT_pure) ?_
  refine W 1 ?_
  refine cl A (kR_pure) ?_
  refine cl A (k44) ?_
  refine W 7 ?_
  refine cl A (kT_pure) ?_
  refine W 1 ?_
  refine cl A (kR_pure) ?_
  refine cl A (k45) ?_
  refine W 5 ?_
  refine cl A (kS_pure) ?_
  refine W 1 ?_
  refine cl A (kR_pure) ?_
  refine cl A (kD_pure) ?_
  refine cl A (k79) ?_
  refine W 5 ?_
  refine cl A (kS_pure) ?_
  refine W 1 ?_
  refine cl A (kR_pure) ?_
  refine cl A (kN_pure) ?_
  refine cl A (k35) ?_
  refine W 7 ?_
  refine cl A (kS_pure) ?_
  refine W 1 ?_
  refine cl A (kR_pure) ?_
  refine sq_ev rfl (ev_buildSlice (es := [[_], [_], [_]]) sf64.h rfl rfl rfl rfl) ?_
  refine sq_ev rfl (ev_call en67.h J (k67) ⟨J, J, J, less_slx _ _, trivial⟩) ?_
  refine W 5 ?_
  refine cl A (k56) ?_
  refine W 9 ?_
  refine sq_split 112 J (fun g1 => ?_) (fun g1 => ?_)
  · skip
    have g1' := g1
    try simp only [qq] at g1'
    exact absurd g1 (by decide)
  · skip
    have g1' := g1
    try simp only [qq] at g1'
    refine W 4 ?_
    refine sq_split 116 J (fun g2 => ?_) (fun g2 => ?_)
    · skip
      have g2' := g2
      try simp only [qq] at g2'
      exact absurd g2 (by decide)
    · skip
      have g2' := g2
      try simp only [qq] at g2'
      refine W 4 ?_
      refine sq_split 120 J (fun g3 => ?_) (fun g3 => ?_)
      · skip
        have g3' := g3
        try simp only [qq] at g3'
        exact absurd g3 (by decide)
      · skip
        have g3' := g3
        try simp only [qq] at g3'
        refine W 4 ?_
        refine sq_split 124 J (fun g4 => ?_) (fun g4 => ?_)
        · skip
          have g4' := g4
          try simp only [qq] at g4'
          exact absurd g4 (by decide)
        · skip
          have g4' := g4
          try simp only [qq] at g4'
          refine W 4 ?_
          refine sq_split 128 J (fun g5 => ?_) (fun g5 => ?_)
          · skip
            have g5' := g5
            try simp only [qq] at g5'
            exact absurd g5 (by decide)
          · skip
            have g5' := g5
            try simp only [qq] at g5'
            refine W 4 ?_
            refine sq_split 132 J (fun g6 => ?_) (fun g6 => ?_)
            · skip
              have g6' := g6
              try simp only [qq] at g6'
              exact absurd g6 (by decide)
            · skip
              have g6' := g6
              try simp only [qq] at g6'
              refine W 4 ?_
              refine sq_split 136 J (fun g7 => ?_) (fun g7 => ?_)
              · skip
                have g7' := g7
                try simp only [qq] at g7'
                exact absurd g7 (by decide)
              · skip
                have g7' := g7
                try simp only [qq] at g7'
                refine W 4 ?_
                refine sq_split 140 J (fun g8 => ?_) (fun g8 => ?_)
                · skip
                  have g8' := g8
                  try simp only [qq] at g8'
                  exact absurd g8 (by decide)
                · skip
                  have g8' := g8
                  try simp only [qq] at g8'
                  refine W 4 ?_
                  refine sq_split 144 J (fun g9 => ?_) (fun g9 => ?_)
                  · skip
                    have g9' := g9
                    try simp only [qq] at g9'
                    exact absurd g9 (by decide)
                  · skip
                    have g9' := g9
                    try simp only [qq] at g9'
                    refine W 4 ?_
                    refine sq_split 148 J (fun g10 => ?_) (fun g10 => ?_)
                    · skip
                      have g10' := g10
                      try simp only [qq] at g10'
                      exact absurd g10 (by decide)
                    · skip
                      have g10' := g10
                      try simp only [qq] at g10'
                      refine W 3 ?_
                      refine aw_cond J (fun c11 => ?_) (fun c11 => ?_)
                      · skip
                        have c11' := c11
                        try simp only [qq] at c11'
                        exact absurd c11 (by decide)
                      · skip
                        have c11' := c11
                        try simp only [qq] at c11'
                        refine W 3 ?_
                        refine sq_split 154 J (fun g12 => ?_) (fun g12 => ?_)
                        · skip
                          have g12' := g12
                          try simp only [qq] at g12'
                          exact absurd g12 (by decide)
                        · skip
                          have g12' := g12
                          try simp only [qq] at g12'
                          refine W 4 ?_
                          refine sq_split 158 J (fun g13 => ?_) (fun g13 => ?_)
                          · skip
                            have g13' := g13
                            try simp only [qq] at g13'
                            exact absurd g13 (by decide)
                          · skip
                            have g13' := g13
                            try simp only [qq] at g13'
                            refine W 1 ?_
                            refine sq_yes rfl rfl (less_b g13) rfl (ev_less (ev_len_map sl24.h J) (Less.eq (b := I 8) (by rw [e_len]; rfl))) ?_
                            refine W 3 ?_
                            refine sq_split 163 J (fun g14 => ?_) (fun g14 => ?_)
                            · skip
                              have g14' := g14
                              try simp only [qq] at g14'
                              exact absurd g14 (by decide)
                            · skip
                              have g14' := g14
                              try simp only [qq] at g14'
                              refine W 1 ?_
                              refine sq_yes rfl rfl (less_b g14) rfl (ev_less (ev_index_map (k := 1) sl24.h J J rfl (by rw [e_len]; decide)) (Less.eq (b := .iptr [S [46, 43, 43, 43, 43, 43, 43, 46]]) (congrArg (fun r => AV.iptr [S r]) ((List.getElem_eq_iff _).2 e_1)))) ?_
                              refine W 4 ?_
                              refine sq_split 169 J (fun g15 => ?_) (fun g15 => ?_)
                              · skip
                                have g15' := g15
                                try simp only [qq] at g15'
                                exact absurd g15 (by decide)
                              · skip
                                have g15' := g15
                                try simp only [qq] at g15'
                                refine W 1 ?_
                                refine sq_yes rfl rfl (less_b g15) rfl (ev_less (ev_index_map (k := 5) sl24.h J J rfl (by rw [e_len]; decide)) (Less.eq (b := .iptr [S [46, 43, 43, 43, 43, 46, 46, 46]]) (congrArg (fun r => AV.iptr [S r]) ((List.getElem_eq_iff _).2 e_5)))) ?_
                                refine W 4 ?_
                                refine sq_split 175 J (fun g16 => ?_) (fun g16 => ?_)
                                · skip
                                  have g16' := g16
                                  try simp only [qq] at g16'
                                  exact absurd g16 (by decide)
                                · skip
                                  have g16' := g16
                                  try simp only [qq] at g16'
                                  refine W 4 ?_
                                  refine sq_split 179 J (fun g17 => ?_) (fun g17 => ?_)
                                  · skip
                                    have g17' := g17
                                    try simp only [qq] at g17'
                                    exact absurd g17 (by decide)
                                  · skip
                                    have g17' := g17
                                    try simp only [qq] at g17'
                                    refine W 4 ?_
                                    refine sq_split 183 J (fun g18 => ?_) (fun g18 => ?_)
                                    · skip
                                      have g18' := g18
                                      try simp only [qq] at g18'
                                      exact absurd g18 (by decide)
                                    · skip
                                      have g18' := g18
                                      try simp only [qq] at g18'
                                      refine W 4 ?_
                                      refine sq_split 187 J (fun g19 => ?_) (fun g19 => ?_)
                                      · skip
                                        have g19' := g19
                                        try simp only [qq] at g19'
                                        exact absurd g19 (by decide)
                                      · skip
                                        have g19' := g19
                                        try simp only [qq] at g19'
                                        refine W 4 ?_
                                        refine sq_split 191 J (fun g20 => ?_) (fun g20 => ?_)
                                        · skip
                                          have g20' := g20
                                          try simp only [qq] at g20'
                                          exact absurd g20 (by decide)
                                        · skip
                                          have g20' := g20
                                          try simp only [qq] at g20'
                                          refine W 4 ?_
                                          refine sq_split 195 J (fun g21 => ?_) (fun g21 => ?_)
                                          · skip
                                            have g21' := g21
                                            try simp only [qq] at g21'
                                            exact absurd g21 (by decide)
                                          · skip
                                            have g21' := g21
                                            try simp only [qq] at g21'
                                            refine W 1 ?_
                                            refine sq_yes rfl rfl (less_b g21) rfl (ev_buildSlice (es := [[_]]) sf64.h rfl rfl rfl rfl) ?_
                                            refine sq_yes rfl rfl (less_b g21) rfl (ev_call en47.h J (same_pure [0] [0] (by decide) (by decide)) ⟨J, less_slx _ _, trivial⟩) ?_
                                            refine W 2 ?_
                                            refine aw_cond J (fun c22 => ?_) (fun c22 => ?_)
                                            · skip
                                              have c22' := c22
                                              try simp only [qq] at c22'
                                              exact absurd c22 (by decide)
                                            · skip
                                              have c22' := c22
                                              try simp only [qq] at c22'
                                              refine W 1 ?_
                                              refine sq_ev rfl (ev_buildSlice (es := [[_], [_]]) sf117.h rfl rfl rfl rfl) ?_
                                              refine sq_ev rfl (ev_call en82.h J (sameW_pure [3, 1] [3, 1] (by decide) (by decide)) ⟨J, less_slx _ _, trivial⟩) ?_
                                              refine W 1 ?_
                                              refine sq_split 204 J (fun g23 => ?_) (fun g23 => ?_)
                                              · skip
                                                have g23' := g23
                                                try simp only [qq] at g23'
                                                refine W 4 ?_
                                                refine sq_split 208 J (fun g24 => ?_) (fun g24 => ?_)
                                                · skip
                                                  have g24' := g24
                                                  try simp only [qq] at g24'
                                                  refine W 4 ?_
                                                  refine sq_split 212 J (fun g25 => ?_) (fun g25 => ?_)
                                                  · skip
                                                    have g25' := g25
                                                    try simp only [qq] at g25'
                                                    refine W 1 ?_
                                                    refine sq_yes rfl rfl (less_b g25) rfl (ev_buildSlice (es := [[_]]) sf64.h rfl rfl rfl rfl) ?_
                                                    refine sq_yes rfl rfl (less_b g25) rfl (ev_call en47.h J (same_pure [36] [36] (by decide) (by decide)) ⟨J, less_slx _ _, trivial⟩) ?_
                                                    refine W 2 ?_
                                                    refine sq_split 217 J (fun g26 => ?_) (fun g26 => ?_)
                                                    · skip
                                                      have g26' := g26
                                                      try simp only [qq] at g26'
                                                      refine W 1 ?_
                                                      refine cy A (k57) ?_
                                                      refine W 3 ?_
                                                      exact retQ_pure (v := .raw _) rfl rfl (Less.eq (by simp))
                                                    · skip
                                                      have g26' := g26
                                                      try simp only [qq] at g26'
                                                      exact absurd g26 (by decide)
                                                  · skip
                                                    have g25' := g25
                                                    try simp only [qq] at g25'
                                                    exact absurd g25 (by decide)
                                                · skip
                                                  have g24' := g24
                                                  try simp only [qq] at g24'
                                                  exact absurd g24 (by decide)
                                              · skip
                                                have g23' := g23
                                                try simp only [qq] at g23'
                                                exact absurd g23 (by decide)
end Go.Proofs.YtmbknoaneglilaaGreatDoor
