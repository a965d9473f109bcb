/-
  A part of the proof: conditions: none beyond each theorem's own.
-/
import Derived.Test.YtfmpabgblbbcdaaGreatDoorWalkC
import Derived.Test.YtfmpabgblbbcdaaGreatDoorLogicE
import Derived.Test.YtfmpabgblbbcdaaGreatDoorShelf
import Derived.Shelf.Spec.SlicesInsertGrow
import Derived.Test.YtfmpabgblbbcdaaGreatDoorLogicD
import Derived.KernelRfl
import Derived.Lib.LaidTab
import Derived.Lib.ItoaNum
set_option linter.all false
set_option maxRecDepth 100000
set_option maxHeartbeats 8000000
namespace Go.Proofs.YtfmpabgblbbcdaaGreatDoor
open Go Go.Ab Ni St
open Hd hiding sz
instance en139 : EnT Tryz.prog 139 := ⟨Ent.of Tryz.func139 (by kernel_rfl) rfl⟩
instance en140 : EnT Tryz.prog 140 := ⟨Ent.of Tryz.func140 (by kernel_rfl) rfl⟩
instance en166 : EnT Tryz.prog 166 := ⟨Ent.of Tryz.func166 (by kernel_rfl) rfl⟩
instance sf24 : SlS Tryz.prog 24 41 4 80 := ⟨SlFact.of (by kernel_rfl)⟩
instance ud24 : UnD Tryz.prog 24 (.slice 41) := ⟨Tryz.underlying24⟩
def Tryz.layIns_ren : Go.Shelf.Ren := ⟨fun | 21 => 140 | 27 => 169 | 28 => 170 | 35 => 190 | 39 => 204 | n => n, fun | n => n, fun | n => n⟩
theorem Tryz.layIns : Go.Proofs.Lays2.n21 Tryz.prog Tryz.layIns_ren := {
  mixed := by kernel_rfl
  f21 := Tryz.func140.trans (congrArg some (by kernel_rfl))
  f27 := Tryz.func169.trans (congrArg some (by kernel_rfl))
  f28 := Tryz.func170.trans (congrArg some (by kernel_rfl))
  f35 := Tryz.func190.trans (congrArg some (by kernel_rfl))
  f39 := Tryz.func204.trans (congrArg some (by kernel_rfl))
  t0 := Tryz.underlying0
  a0 := Tryz.isAgg0
  z0 := Tryz.sizeOf0
  v0 := Tryz.zeroValue0
  t3 := Tryz.underlying3
  a3 := Tryz.isAgg3
  z3 := Tryz.sizeOf3
  v3 := Tryz.zeroValue3
  t4 := Tryz.underlying4
  a4 := Tryz.isAgg4
  z4 := Tryz.sizeOf4
  v4 := Tryz.zeroValue4
  t22 := Tryz.underlying22
  a22 := Tryz.isAgg22
  z22 := Tryz.sizeOf22
  v22 := Tryz.zeroValue22
  i3 := by kernel_rfl }
theorem heap_cell {w : World} {b : Nat} {cs : Array Value} {t : TypeId} {fr : Nat × Nat} (h : w.heap[b]? = some (.cells cs t fr)) (j : Nat) : w.cell? ⟨b, j, none⟩ = cs[j]? := by unfold World.cell?; simp [h]
theorem heap_frozen {w : World} {b : Nat} {cs : Array Value} {t : TypeId} (h : w.heap[b]? = some (.cells cs t (0, 0))) (j : Nat) : w.frozen? ⟨b, j, none⟩ = false := frozen_of_row w b j cs t h
theorem zero_one (n : Nat) : ∀ v ∈ (Builtin.zeroCells (Value.int .i64 0).cells n).toList, v.oneCell' = true := zeroCells_cell (by rfl) n
theorem ins_ok : InsOK Tryz.prog 140 where
  ins := by
    intro w b vb n cap c1 at' cs cv ct cvt x hb hv hne hat hpos hcap hcs hc63 hbig hx h1c h1x
    obtain ⟨D, hD⟩ : ∃ D, D = (cs.toList.take n).drop at' := ⟨_, rfl⟩
    have hDl : D.length = n - at' := by rw [hD, List.length_drop, List.length_take]; simp; omega
    have hcl : (cs.toList.take n).length = n := by rw [List.length_take]; simp; omega
    have hcells : ∀ j v, (cs.toList.take n)[j]? = some v → w.cell? ⟨b, 0 + j, none⟩ = some v := fun j v h => by
      rw [Nat.zero_add, heap_cell hb]
      rw [List.getElem?_take] at h
      split at h
      · simpa using h
      · cases h
    have hvs : ∀ j v, [x][j]? = some v → w.cell? ⟨vb, 0 + j, none⟩ = some v := fun j v h => by
      rw [Nat.zero_add, heap_cell hv]
      cases j with
      | zero => simpa [hx] using h
      | succ j => simp at h
    have h1v : ∀ v ∈ [x], v.oneCell' = true := fun v hv => by rw [List.mem_singleton] at hv; rw [hv]; exact h1x
    have htk : (cs.toList.take n).take at' = cs.toList.take at' := by rw [List.take_take, Nat.min_eq_left hat]
    have hdr : cs.toList.drop (n + 1) = (cs.toList.drop n).drop 1 := by rw [List.drop_drop]
    by_cases hroom : n + 1 ≤ cap
    · have hsp : ∀ j, j < cs.size → (w.cell? ⟨b, j, none⟩).isSome = true := fun j hj => by rw [heap_cell hb]; simp [hj]
      by_cases hlt : at' < n
      · have h := Any2.slices_Insert_int_shift Tryz.layIns b 0 n cap at' vb 0 1 c1 (cs.toList.take n) [x] w hlt (by omega) hroom hc63 hne hcl rfl hcells (fun j hj => by rw [Nat.zero_add]; exact hsp j (by omega)) (fun j _ => heap_frozen hb _) hvs h1c h1v cvt ct cv.size cs.size (by unfold World.shape?; rw [hv]) (by unfold World.shape?; rw [hb]) (by omega) (heap_frozen hv _) (heap_frozen hv _)
        refine h.mono ?_
        rintro r w' ⟨rfl, rfl⟩
        have e1 := setCells_heap D (0 + (at' + 1)) w.drew cs (t := ct) hb (by omega)
        have e2 := setCells_heap [x] (0 + at') _ _ (t := ct) e1 (by simp; omega)
        rw [hD] at e1 e2
        refine ⟨b, cap, ct, cs.toList.drop (n + 1), rfl, hroom, ?_, fun v hv => .inl (List.mem_of_mem_drop hv), ?_, ?_, ?_, .inl ⟨rfl, rfl⟩⟩
        · rw [e2, ← hD]
          congr 3
          have q1 : (cs.toList.take (0 + (at' + 1)) ++ D ++ cs.toList.drop (0 + (at' + 1) + D.length)).take (0 + at') = cs.toList.take at' := by
            rw [List.append_assoc, List.take_append_of_le_length (by rw [List.length_take]; simp; omega), List.take_take]; congr 1; omega
          have q2 : (cs.toList.take (0 + (at' + 1)) ++ D ++ cs.toList.drop (0 + (at' + 1) + D.length)).drop (0 + at' + [x].length) = D ++ cs.toList.drop (n + 1) := by
            rw [List.append_assoc, List.drop_append_of_le_length (by rw [List.length_take]; simp; omega), List.drop_of_length_le (by rw [List.length_take]; simp; omega), List.nil_append]
            congr 2; omega
          simp only [q1, q2]
          simp
        · exact Still.trans (setCells_still b _ _ w.drew) (setCells_still b _ _ _)
        · rw [setCells_size, setCells_size]; exact Nat.le_refl _
        · intro q _ hq; rw [setCells_other hq, setCells_other hq]; rfl
      · obtain rfl : at' = n := by omega
        have h := Any2.slices_Insert_int_end_room Tryz.layIns b 0 at' cap vb 0 1 c1 [x] w (by omega) hroom hc63 rfl (fun j hj => by rw [show 0 + at' + j = at' by omega]; exact hsp at' (by omega)) (fun j _ => heap_frozen hb _) hvs h1v
        refine h.mono ?_
        rintro r w' ⟨rfl, rfl⟩
        have e2 := setCells_heap [x] (0 + at') w cs (t := ct) hb (by simp; omega)
        refine ⟨b, cap, ct, cs.toList.drop (at' + 1), rfl, hroom, ?_, fun v hv => .inl (List.mem_of_mem_drop hv), setCells_still b _ _ w, by rw [setCells_size]; exact Nat.le_refl _, fun q _ hq => by rw [setCells_other hq], .inl ⟨rfl, rfl⟩⟩
        rw [e2]
        congr 3
        rw [show (cs.toList.take at').drop at' = [] from List.drop_of_length_le (Nat.le_of_eq hcl), List.nil_append, Nat.zero_add]
        simp
    · obtain rfl : cap = n := by omega
      have hfull : cs.toList.take cap = cs.toList := List.take_of_length_le (by simp; omega)
      by_cases hlt : at' < cap
      · have h := Any2.slices_Insert_int_grow Tryz.layIns b 0 cap cap at' vb 0 1 c1 (cs.toList.take cap) [x] w hlt (by omega) (Nat.le_refl _) (by omega) hbig hcl rfl hcells hvs h1c h1v
        refine h.mono ?_
        rintro r w' ⟨rfl, hw'⟩
        have hg := Go.Ab.grownCap_le w (cap + 1) cap 3
        obtain ⟨g, hgd⟩ : ∃ g, g = grownCap w (cap + 1) cap 3 := ⟨_, rfl⟩
        obtain ⟨Z1, hZ1⟩ : ∃ Z1, Z1 = (Builtin.zeroCells (Value.int .i64 0).cells (cap + 1 - at')).toList := ⟨_, rfl⟩
        obtain ⟨Z2, hZ2⟩ : ∃ Z2, Z2 = (Builtin.zeroCells (Value.int .i64 0).cells (g - (cap + 1))).toList := ⟨_, rfl⟩
        have hz1l : Z1.length = cap + 1 - at' := by rw [hZ1]; simp [Builtin.zeroCells, Value.cells]
        obtain ⟨A, hA⟩ : ∃ A : Array Value, A = ((cs.toList.take cap).take at').toArray ++ Builtin.zeroCells (Value.int .i64 0).cells (cap + 1 - at') ++ Builtin.zeroCells (Value.int .i64 0).cells (g - (cap + 1)) := ⟨_, rfl⟩
        have hAl : A.toList = cs.toList.take at' ++ Z1 ++ Z2 := by rw [hA, Array.toList_append, Array.toList_append, htk, ← hZ1, ← hZ2]
        have hAs : A.size = at' + (cap + 1 - at') + Z2.length := by rw [← Array.length_toList, hAl]; simp [hz1l]; omega
        have e0 : (w.alloc (.cells A 3)).drew.heap[w.heap.size]? = some (.cells A 3 (0, 0)) := alloc_heap_new w _
        have e1 := setCells_heap [x] at' (w.alloc (.cells A 3)).drew A (t := 3) e0 (by simp; omega)
        have e2 := setCells_heap D (at' + 1) (((w.alloc (.cells A 3)).drew.setCells w.heap.size at' [x]).drew) _ (t := 3) e1 (by simp; rw [hAs]; omega)
        have q1 : A.toList.take at' = cs.toList.take at' := by rw [hAl, List.append_assoc, List.take_left' (by rw [List.length_take]; simp; omega)]
        have q2 : A.toList.drop (at' + 1) = Z1.drop 1 ++ Z2 := by
          rw [hAl, List.append_assoc, List.drop_append, List.drop_of_length_le (by rw [List.length_take]; omega), List.nil_append, show at' + 1 - (cs.toList.take at').length = 1 by rw [List.length_take]; simp; omega, List.drop_append_of_le_length (by omega)]
        rw [← hD, show Tryz.layIns_ren.t 3 = 3 from rfl, ← hgd, ← hA] at hw'
        subst hw'
        refine ⟨w.heap.size, g, 3, Z2, by rw [hgd]; rfl, by rw [hgd]; exact hg, ?_, fun v hv => .inr (zero_one _ v (by rw [← hZ2]; exact hv)), ?_, ?_, ?_, .inr ⟨rfl, ?_⟩⟩
        · rw [← hD, e2]
          congr 3
          have r1 : ([x] : List Value).length = 1 := rfl
          simp only [r1, q1, q2]
          have r2 : (cs.toList.take at').length = at' := by rw [List.length_take]; simp; omega
          have r3 : (cs.toList.take at' ++ [x] ++ (Z1.drop 1 ++ Z2)).take (at' + 1) = cs.toList.take at' ++ [x] := List.take_left' (by simp [r2])
          have r4 : (cs.toList.take at' ++ [x] ++ (Z1.drop 1 ++ Z2)).drop (at' + 1 + D.length) = Z2 := by
            rw [← List.append_assoc]; exact List.drop_left' (by simp [r2, hz1l]; omega)
          simp only [r3, r4]; simp
        · exact Still.trans (Still.trans (b := (w.alloc (.cells A 3)).drew) ⟨rfl, rfl⟩ (setCells_still _ _ _ _)) (setCells_still _ _ _ _)
        · rw [setCells_size]
          show _ ≤ (World.setCells _ _ _ _).heap.size
          rw [setCells_size]
          show _ ≤ (w.heap.push _).size
          rw [Array.size_push]; omega
        · intro q hq _
          rw [setCells_other (by omega)]
          show (World.setCells _ _ _ _).heap[q]? = _
          rw [setCells_other (by omega)]
          exact alloc_heap_old w _ hq
        · rw [setCells_other (by have := lt_of_heap hb; omega)]
          show (World.setCells _ _ _ _).heap[b]? = _
          rw [setCells_other (by have := lt_of_heap hb; omega)]
          exact alloc_heap_old w _ (lt_of_heap hb)
      · obtain rfl : at' = cap := by omega
        have h := Any2.slices_Insert_int_end_grow Tryz.layIns (some ⟨b, 0, none⟩) at' at' vb 0 1 c1 (cs.toList.take at') [x] w (by omega) (Nat.le_refl _) (by omega) hbig hcl rfl (fun h => by cases h) (fun a ha j v hj => by cases ha; have h5 := hcells j v hj; cases j <;> simpa [Addr.add] using h5) hvs h1v
        refine h.mono ?_
        rintro r w' ⟨rfl, rfl⟩
        refine ⟨w.heap.size, _, 3, (Builtin.zeroCells (Value.int .i64 0).cells (grownCap w (at' + 1) at' 3 - (at' + 1))).toList, rfl, Go.Ab.grownCap_le _ _ _ _, ?_, fun v hv => .inr (zero_one _ v hv), ⟨rfl, rfl⟩, ?_, ?_, .inr ⟨rfl, ?_⟩⟩
        · refine (alloc_heap_new w.drew _).trans ?_
          congr 2
          apply Array.ext'
          rw [List.drop_of_length_le (by omega), List.nil_append, Array.toList_append]
          simp
          rfl
        · show _ ≤ (w.heap.push _).size
          rw [Array.size_push]; omega
        · intro q hq _; exact alloc_heap_old w.drew _ hq
        · exact alloc_heap_old w.drew _ (lt_of_heap hb)
  nil := by
    intro w vb c1 a cv cvt x hv hx h1x
    have hvs : ∀ j v, [x][j]? = some v → w.cell? ⟨vb, 0 + j, none⟩ = some v := fun j v h => by
      rw [Nat.zero_add, heap_cell hv]
      cases j with
      | zero => simpa [hx] using h
      | succ j => simp at h
    have h := Any2.slices_Insert_int_end_grow Tryz.layIns a 0 0 vb 0 1 c1 [] [x] w (by omega) (Nat.le_refl _) (by omega) (by omega) rfl rfl (fun _ => rfl) (fun a ha j v hj => by simp at hj) hvs (fun v hv => by rw [List.mem_singleton] at hv; rw [hv]; exact h1x)
    refine h.mono ?_
    rintro r w' ⟨rfl, rfl⟩
    refine ⟨_, 3, (Builtin.zeroCells (Value.int .i64 0).cells (grownCap w (0 + 1) 0 3 - (0 + 1))).toList, rfl, Go.Ab.grownCap_le w (0 + 1) 0 3, ?_, fun v hv => zero_one _ v hv, ⟨rfl, rfl⟩, ?_, ?_⟩
    · refine (alloc_heap_new w.drew _).trans ?_
      congr 2
      apply Array.ext'
      rw [Array.toList_append]
      simp
      rfl
    · show _ ≤ (w.heap.push _).size
      rw [Array.size_push]; omega
    · intro q hq; exact alloc_heap_old w.drew _ hq
end Go.Proofs.YtfmpabgblbbcdaaGreatDoor
namespace Go.Proofs.YtfmpabgblbbcdaaGreatDoor
open Go Go.Ab Ni St
open Hd hiding sz
instance en138 : EnT Tryz.prog 138 := ⟨Ent.of Tryz.func138 (by kernel_rfl) rfl⟩
instance en87 : EnT Tryz.prog 87 := ⟨Ent.of Tryz.func87 (by kernel_rfl) rfl⟩
instance en88 : EnT Tryz.prog 88 := ⟨Ent.of Tryz.func88 (by kernel_rfl) rfl⟩
instance en89 : EnT Tryz.prog 89 := ⟨Ent.of Tryz.func89 (by kernel_rfl) rfl⟩
instance en90 : EnT Tryz.prog 90 := ⟨Ent.of Tryz.func90 (by kernel_rfl) rfl⟩
instance z26 : ZeO Tryz.prog 26 [.raw (.int .i64 0), .raw (.slice none 0 0), .raw (.slice none 0 0), .raw (.slice none 0 0)] := ⟨by kernel_rfl⟩
theorem clone_y {l : List Int} (hm : l.length ≤ 1000000) (H0 : List AObj) : ACall Tryz.prog 91 [ints l] H0 (fun x H' => ∃ a, x = .ret a ∧ OwnY 1 H0 (l.map (fun x => [I x])) a H') := by
  refine acall_of (rs := [.tmp 2]) Tryz.func91 rfl rfl (Nat.le_of_ble_eq_true rfl) fun e0 he0 => ?_
  refine aw_seq ?_
  refine aw_region (sq_ev rfl (ev_as (v := .raw _) jz) ?_)
  refine sq_nil ?_
  refine aw_seq ?_
  refine aw_seq ?_
  refine aw_region (sq_ev rfl (ev_mv (v := .sl _ _) jz) ?_)
  refine sq_isnil rfl sl22.h jz jz (fun hnil => ?_) ?_
  · refine sq_nil ?_
    refine aw_true jz ?_
    refine aw_seq ?_
    refine aw_region (sq_ev rfl (ev_as (v := .raw _) jz) ?_)
    refine sq_nil ?_
    refine aw_sub (Sub.slots (sl' := [(2, .slx 1 [])]) ⟨less_nilx 1, trivial⟩) ?_
    refine aw_ret ?_
    exact ⟨rfl, _, rfl, _, rfl, .inl ⟨rfl, hnil, rfl⟩⟩
  · refine sq_nil ?_
    refine aw_false jz ?_
    refine aw_skip ?_
    refine aw_seq ?_
    refine aw_region (sq_ev rfl (ev_buildSlice (es := []) sf22.h rfl rfl rfl rfl) ?_)
    refine sq_ev rfl (ev_mv (v := .sl _ _) jz) ?_
    rcases Nat.eq_zero_or_pos l.length with hz | hz
    · obtain rfl := List.length_eq_zero_iff.1 hz
      refine sq_ev rfl (ev_append_none2 sf22.h Tryz.underlying22 jz jz) ?_
      refine sq_ev rfl (ev_as (v := .slx _ _) jz) ?_
      refine sq_nil (aw_ret ?_)
      exact ⟨rfl, _, rfl, _, rfl, .inl ⟨rfl, rfl, rfl⟩⟩
    · refine sq_append_msl2 rfl sf22.h Tryz.underlying22 jz jz (by simpa using hz) (by simp; omega) (by simp; omega) fun cap hcap hcap2 => ?_
      refine sq_ev rfl (ev_as (v := .msl _ _ _ _) jz) ?_
      refine sq_nil (aw_ret ?_)
      exact ⟨rfl, _, rfl, _, rfl, .inr ⟨cap, hcap, hcap2, by simpa using hz, rfl, rfl⟩⟩
theorem clone_s {l : List Scn} (hm : l.length ≤ 1000000) (H0 : List AObj) : ACall Tryz.prog 166 [scs l] H0 (fun x H' => ∃ a, x = .ret a ∧ OwnY 4 H0 (l.map scC) a H') := by
  refine acall_of (rs := [.tmp 2]) Tryz.func166 rfl rfl (Nat.le_of_ble_eq_true rfl) fun e0 he0 => ?_
  refine aw_seq ?_
  refine aw_region (sq_ev rfl (ev_as (v := .raw _) jz) ?_)
  refine sq_nil ?_
  refine aw_seq ?_
  refine aw_seq ?_
  refine aw_region (sq_ev rfl (ev_mv (v := .sl _ _) jz) ?_)
  refine sq_isnil rfl sl24.h jz jz (fun hnil => ?_) ?_
  · refine sq_nil ?_
    refine aw_true jz ?_
    refine aw_seq ?_
    refine aw_region (sq_ev rfl (ev_as (v := .raw _) jz) ?_)
    refine sq_nil ?_
    refine aw_sub (Sub.slots (sl' := [(2, .slx 4 [])]) ⟨less_nilx 4, trivial⟩) ?_
    refine aw_ret ?_
    exact ⟨rfl, _, rfl, _, rfl, .inl ⟨rfl, hnil, rfl⟩⟩
  · refine sq_nil ?_
    refine aw_false jz ?_
    refine aw_skip ?_
    refine aw_seq ?_
    refine aw_region (sq_ev rfl (ev_buildSlice (es := []) sf24.h rfl rfl rfl rfl) ?_)
    refine sq_ev rfl (ev_mv (v := .sl _ _) jz) ?_
    rcases Nat.eq_zero_or_pos l.length with hz | hz
    · obtain rfl := List.length_eq_zero_iff.1 hz
      refine sq_ev rfl (ev_append_none2 sf24.h Tryz.underlying24 jz jz) ?_
      refine sq_ev rfl (ev_as (v := .slx _ _) jz) ?_
      refine sq_nil (aw_ret ?_)
      exact ⟨rfl, _, rfl, _, rfl, .inl ⟨rfl, rfl, rfl⟩⟩
    · refine sq_append_msl2 rfl sf24.h Tryz.underlying24 jz jz (by simpa using hz) (by simp; omega) (by simp; omega) fun cap hcap hcap2 => ?_
      refine sq_ev rfl (ev_as (v := .msl _ _ _ _) jz) ?_
      refine sq_nil (aw_ret ?_)
      exact ⟨rfl, _, rfl, _, rfl, .inr ⟨cap, hcap, hcap2, by simpa using hz, rfl, rfl⟩⟩
theorem bs_pure (l : List Int) (x : Int) (hl : l.length ≤ 1000000) (hs : l.Pairwise (· ≤ ·)) : APure Tryz.prog 139 [ints l, I x] (.tup [I (l.countP (· < x) : Nat), B (l.contains x)]) :=
  APure.less (apure_of_ints (l := l) (more := [.int .i64 x]) (u := .tuple #[.int .i64 (l.countP (· < x) : Nat), .bool (l.contains x)])
    (fun h a c w _ => by
      subst h
      exact (Tryz.slices_BinarySearch_int_empty a c x w).mono fun _ _ ⟨h1, h2⟩ => ⟨h1, by rw [h2]; exact Still.refl _, by rw [h2]; exact Nat.le_refl _, fun b _ => by rw [h2]⟩)
    (fun bk o c w _ hc _ => by
      have h := Tryz.slices_BinarySearch_int bk o l.length c l x w (Nat.le_refl _) (by omega) hc (by rw [List.take_length]; exact hs)
      rw [List.take_length] at h
      exact h.mono fun _ _ ⟨h1, n, h2⟩ => ⟨h1, by rw [h2]; exact ⟨rfl, rfl⟩, by rw [h2]; exact Nat.le_refl _, fun b _ => by rw [h2]; rfl⟩)) ⟨Less.rfl' _, Less.rfl' _, trivial⟩ (less_tuple (vs := [_, _]))
section ins
variable {c : Ctx} {ops : Array Oper} {Q : AExit → St → Prop} {rest : List Oper} {s : St} {i : Nat}
variable {t : TypeId} {p : String} {af : Array Edge}
theorem sq_ins {u : Nat} {x0 y1 y2 y3 : Operand} {ats : Array TypeId} {l : List Int} {n : Int} {k : Nat} {a : AV} {A H1 : List AObj} (hP : c.P = Tryz.prog) (hd : dOK c.nt (some u) = true) (ho : OwnY 1 A (l.map fun x => [I x]) a H1) (hH : s.H = H1 ++ [.cells [I n]])
    (hx : Less (s.op x0) (.fn (.func 140) [] [])) (h1 : Less (s.op y1) a) (h2 : Less (s.op y2) (I k)) (h3 : Less (s.op y3) (.msl H1.length 0 1 1)) (hk : k ≤ l.length) (hl : l.length ≤ 1000000)
    (K : ∀ H', SeqWP c ops Q (i + 1) rest ⟨[(u, ints (insL l k n))], H', s.df⟩) : SeqWP c ops Q i (⟨some u, .call ⟨.value x0, #[y1, y2, y3], ats⟩, t, p, af, none⟩ :: rest) s := by
  have hlast : s.H[H1.length]? = some (.cells [I n]) := by rw [hH, List.getElem?_append_right (Nat.le_refl _), Nat.sub_self]; rfl
  have fin : ∀ (j cap : Nat) (H' : List AObj) (r : List AV) (m : Nat), m = (insL l k n).length → H'[j]? = some (.cells (numL (insL l k n) ++ r)) → Sub c (St.put { s with H := H' } (some u) (.msl j 0 m cap)) ⟨[(u, ints (insL l k n))], H'.set j .dead, s.df⟩ := fun j cap H' r m hm hj => by
    subst hm
    exact sub_freezeK (s := St.put { s with H := H' } (some u) (.msl j 0 (insL l k n).length cap)) [] u (j := j) (n := (insL l k n).length) (cap := cap) (sz := 1) (es := (insL l k n).map fun x => [I x]) (rest := r) (by show (bif u == u then _ else _) = _; rw [show (u == u) = true by simp]; rfl) (by show H'[j]? = _; rw [hj, numE_flat]) (by simp) (fun q hq => by obtain ⟨x, _, rfl⟩ := List.mem_map.1 hq; rfl)
  have hil : (insL l k n).length = l.length + 1 := by simp; omega
  rcases ho with ⟨rfl, hnil, rfl⟩ | ⟨cap, hcap, hcap2, hpos, rfl, rfl⟩
  · have hnil : l = [] := List.map_eq_nil_iff.1 hnil
    subst hnil
    obtain rfl : k = 0 := by simpa using hk
    have en : Ent c.P 140 := by rw [hP]; exact en140.h
    refine sq_call (args := [.slx 1 [], I 0, .msl H1.length 0 1 1]) hd en hx ⟨h1, h2, h3, trivial⟩ (by rw [hP]; exact acall_insert_nil ins_ok (x := n) hlast) ?_ (by rintro v H' ⟨_, _, h, _⟩; cases h)
    rintro v H' ⟨cap', r, h, rfl⟩
    cases h
    exact sq_sub (fin s.H.length cap' _ r 1 (by simp) (by rw [List.getElem?_append_right (Nat.le_refl _), Nat.sub_self]; rfl)) (K _)
  · simp only [List.length_map] at hcap hpos h1 hH h3 hlast
    have en : Ent c.P 140 := by rw [hP]; exact en140.h
    have hjA : s.H[A.length]? = some (.cells (numL l ++ List.replicate (cap - l.length) .any)) := by
      rw [hH, List.append_assoc, List.getElem?_append_right (Nat.le_refl _), Nat.sub_self, Nat.mul_one]
      show some (AObj.cells ((l.map fun x => [I x]).flatten ++ _)) = _
      rw [numE_flat]
    refine sq_call (args := [.msl A.length 0 l.length cap, I k, .msl (A ++ [AObj.cells ((l.map fun x => [I x]).flatten ++ List.replicate ((cap - l.length) * 1) .any)]).length 0 1 1]) hd en hx ⟨h1, h2, h3, trivial⟩ (by rw [hP]; exact acall_insert ins_ok (zs := l) (x := n) (at' := k) (cap := cap) (by simp) hjA hlast hk hpos hcap hcap2 (by omega)) ?_ (by rintro v H' ⟨_, _, _, h, _⟩; cases h)
    rintro v H' ⟨j', cap', r, h, hc⟩
    cases h
    rcases hc with ⟨rfl, rfl⟩ | ⟨rfl, rfl⟩
    · exact sq_sub (fin A.length cap' _ r (l.length + 1) hil.symm (by rw [List.getElem?_set_self (lt_of_get? hjA)])) (K _)
    · exact sq_sub (fin s.H.length cap' _ r (l.length + 1) hil.symm (by rw [List.getElem?_append_right (Nat.le_refl _), Nat.sub_self]; rfl)) (K _)
end ins
def withN (l : List Int) (n : Int) : List Int := insL l (l.countP (· < n)) n
def moreX (mv : Bool) (x : Scn) (f : Int) : Scn := if mv = true then { x with moved := withN x.moved f } else { x with rest := withN x.rest f }
theorem with_pure (l : List Int) (n : Int) (hl : l.length ≤ 1000000) (hs : l.Pairwise (· ≤ ·)) : APure Tryz.prog 89 [ints l, I n] (ints (withN l n)) := by
  refine ap Tryz.func89 (fun e0 he0 => ?_)
  refine wz 3 ?_
  refine kz az (bs_pure l n hl hs) ?_
  refine wz 6 ?_
  refine sq_call (args := [ints l]) rfl en91.h jz ⟨jz, trivial⟩ (clone_y hl _) ?_ (by rintro v H' ⟨a, h, _⟩; cases h)
  rintro v H' ⟨a, h, ho⟩
  cases h
  refine wz 2 ?_
  refine sq_build (es := [[_]]) rfl sf22.h rfl rfl rfl rfl ?_
  refine sq_ins (l := l) (n := n) (k := l.countP (· < n)) rfl rfl ho rfl jz jz jz jz (List.countP_le_length) hl (fun H9 => ?_)
  refine wz 1 ?_
  exact retQ_pure (v := .sl _ _) rfl rfl jz
theorem adds1_call {x : Scn} {f : Int} {o0 o1 : AObj} (hl : x.rest.length ≤ 1000000) (hs : x.rest.Pairwise (· ≤ ·)) : ACall Tryz.prog 88 [.ptr 2 0, I f] [o0, o1, .cells (scC x)] (fun y H' => y = .ret (.tup []) ∧ H' = [o0, o1, .cells (scC (moreX false x f))]) := by
  refine acall_of (rs := []) Tryz.func88 rfl rfl (Nat.le_of_ble_eq_true rfl) fun e0 he0 => ?_
  refine wz 2 ?_
  refine sq_ev rfl (ev_nilCheck jz) ?_
  refine wz 3 ?_
  refine kz az (with_pure x.rest f hl hs) ?_
  refine sq_ev rfl (ev_nilCheck jz) ?_
  refine wz 2 ?_
  exact ⟨rfl, .tup [], rfl, rfl, rfl⟩
theorem joins1_call {x : Scn} {f : Int} {o0 o1 : AObj} (hl : x.moved.length ≤ 1000000) (hs : x.moved.Pairwise (· ≤ ·)) : ACall Tryz.prog 90 [.ptr 2 0, I f] [o0, o1, .cells (scC x)] (fun y H' => y = .ret (.tup []) ∧ H' = [o0, o1, .cells (scC (moreX true x f))]) := by
  refine acall_of (rs := []) Tryz.func90 rfl rfl (Nat.le_of_ble_eq_true rfl) fun e0 he0 => ?_
  refine wz 2 ?_
  refine sq_ev rfl (ev_nilCheck jz) ?_
  refine wz 3 ?_
  refine kz az (with_pure x.moved f hl hs) ?_
  refine sq_ev rfl (ev_nilCheck jz) ?_
  refine wz 2 ?_
  exact ⟨rfl, .tup [], rfl, rfl, rfl⟩
theorem copied_call {p : Ply} {o0 o1 o2 : AObj} (h0 : 0 < p.scs.length) (hs : p.scs.length ≤ 1000000) : ACall Tryz.prog 138 [plA p] [o0, o1, o2] (fun y H' => ∃ cap l1 l2, p.scs.length ≤ cap ∧ y = .ret (.agg [I p.left, ints p.hts, fgs p.figs, .msl 5 0 p.scs.length cap]) ∧ H' = [o0, o1, o2, .cells l1, .cells l2, .cells ((p.scs.map scC).flatten ++ List.replicate ((cap - p.scs.length) * 4) .any)]) := by
  refine acall_of (rs := [.cell 2 26]) Tryz.func138 rfl rfl (Nat.le_of_ble_eq_true rfl) fun e0 he0 => ?_
  refine wz 4 ?_
  refine sq_call (args := [scs p.scs]) rfl en166.h jz ⟨jz, trivial⟩ (clone_s hs _) ?_ (by rintro v H' ⟨a, h, _⟩; cases h)
  rintro v H' ⟨a, h, ho⟩
  cases h
  rcases ho with ⟨_, h1, _⟩ | ⟨cap, h1, h2, h3, rfl, rfl⟩
  ·exfalso; rw [List.map_eq_nil_iff] at h1; rw [h1] at h0; exact Nat.lt_irrefl _ h0
  simp only [List.length_map] at h1 ⊢
  refine nz ?_
  refine wz 4 ?_
  exact ⟨rfl, _, rfl, cap, _, _, h1, rfl, rfl⟩
end Go.Proofs.YtfmpabgblbbcdaaGreatDoor
namespace Go.Proofs.YtfmpabgblbbcdaaGreatDoor
open Go Go.Ab Ni St
open Hd hiding sz
instance z41 : ZeO Tryz.prog 41 [.raw (.slice none 0 0), .raw (.slice none 0 0), .raw (.int .i64 0), .raw (.slice none 0 0)] := ⟨by kernel_rfl⟩
theorem cnt_split {f : Int} : ∀ {l : List Int}, l.Pairwise (· < ·) → (∀ x ∈ l.take (l.countP (· < f)), x < f) ∧ ∀ x ∈ l.drop (l.countP (· < f)), f ≤ x
  | [], _ => by simp
  | a :: l, h => by
    obtain ⟨h1, h2⟩ := List.pairwise_cons.1 h
    obtain ⟨i1, i2⟩ := cnt_split (f := f) h2
    by_cases ha : a < f
    · rw [List.countP_cons_of_pos (by simpa using ha)]
      refine ⟨fun x hx => ?_, fun x hx => i2 x (by simpa using hx)⟩
      rw [List.take_succ_cons] at hx
      rcases List.mem_cons.1 hx with rfl | hx
      · exact ha
      · exact i1 x hx
    · have h0 : (a :: l).countP (· < f) = 0 := by
        rw [List.countP_eq_zero]
        intro x hx
        rcases List.mem_cons.1 hx with rfl | hx
        · simpa using ha
        · have := h1 x hx; simp; omega
      rw [h0]
      refine ⟨fun x hx => by simp at hx, fun x hx => ?_⟩
      rw [List.drop_zero] at hx
      rcases List.mem_cons.1 hx with rfl | hx
      · omega
      · have := h1 x hx; omega
theorem mem_withN {l : List Int} {n x : Int} : x ∈ withN l n ↔ x = n ∨ x ∈ l := by
  unfold withN insL
  rw [List.mem_append, List.mem_cons]
  have : x ∈ l ↔ x ∈ l.take (l.countP (· < n)) ∨ x ∈ l.drop (l.countP (· < n)) := by rw [← List.mem_append, List.take_append_drop]
  rw [this]
  constructor
  · rintro (h | h | h)
    · exact .inr (.inl h)
    · exact .inl h
    · exact .inr (.inr h)
  · rintro (h | h | h)
    · exact .inr (.inl h)
    · exact .inl h
    · exact .inr (.inr h)
theorem rising_with {l : List Int} {n : Int} {m : Nat} (h : rising l m = true) (h0 : 0 ≤ n ∧ n < m) (hn : n ∉ l) : rising (withN l n) m = true := by
  obtain ⟨h1, h2⟩ := rising_iff.1 h
  refine rising_iff.2 ⟨?_, fun x hx => ?_⟩
  · obtain ⟨s1, s2⟩ := cnt_split (f := n) h1
    have hp : (l.take (l.countP (· < n)) ++ l.drop (l.countP (· < n))).Pairwise (· < ·) := by rw [List.take_append_drop]; exact h1
    obtain ⟨p1, p2, p3⟩ := List.pairwise_append.1 hp
    unfold withN insL
    refine List.pairwise_append.2 ⟨p1, List.pairwise_cons.2 ⟨fun x hx => ?_, p2⟩, fun a ha b hb => ?_⟩
    · have := s2 x hx
      have hne : x ≠ n := fun e => hn (e ▸ List.mem_of_mem_drop hx)
      omega
    · rcases List.mem_cons.1 hb with rfl | hb
      · exact s1 a ha
      · exact p3 a ha b hb
  · rcases mem_withN.1 hx with rfl | hx
    · exact h0
    · exact h2 x hx
theorem lt_le {l : List Int} (h : l.Pairwise (· < ·)) : l.Pairwise (· ≤ ·) := h.imp fun h => Int.le_of_lt h
def setS (p : Ply) (k : Nat) (x : Scn) : Ply := { p with scs := p.scs.set k x }
theorem setS_B {p : Ply} (B : PlB p) {k : Nat} {x : Scn} (X : ScB p x) : PlB (setS p k x) where
  nh := B.nh
  lf := B.lf
  nf := B.nf
  ns := by show 1 ≤ (p.scs.set k x).length ∧ (p.scs.set k x).length ≤ 5; rw [List.length_set]; exact B.ns
  ht := B.ht
  fg := B.fg
  sc := fun y hy => by
    have Y : ScB p y := by
      rcases List.mem_or_eq_of_mem_set hy with h | rfl
      · exact B.sc y h
      · exact X
    exact ⟨Y.mv, Y.rs, Y.tk, Y.r4, Y.kn⟩
theorem setS_sc {p : Ply} {k : Nat} {x : Scn} (h : k < p.scs.length) : sc (setS p k x) k = x := by
  unfold sc setS; simp only [List.getD_eq_getElem?_getD]; rw [List.getElem?_set_self h]; rfl
theorem setS_can (p : Ply) (k : Nat) (x y : Scn) : St.can (setS p k x) y = St.can p y := rfl
theorem moreX_B {p : Ply} {x : Scn} (X : ScB p x) {mv : Bool} {f : Nat} (hf : f < p.figs.length) (h1 : (f : Int) ∉ x.moved) (h2 : (f : Int) ∉ x.rest) (hr : (moreX mv x f).rest.length ≤ 4) : ScB p (moreX mv x f) := by
  cases mv with
  | true => exact ⟨rising_with X.mv ⟨by omega, by omega⟩ h1, X.rs, X.tk, X.r4, X.kn⟩
  | false => exact ⟨X.mv, rising_with X.rs ⟨by omega, by omega⟩ h2, X.tk, hr, X.kn⟩
def addI (p : Ply) (k : Nat) (mv : Bool) (f : Int) : Bool := !(decide (f ∈ (sc p k).moved) || decide (f ∈ (sc p k).rest)) && (decide ((moreX mv (sc p k) f).rest.length ≤ 4) && St.can p (moreX mv (sc p k) f))
def addsK (p : Ply) (k : Nat) (mv : Bool) (m : Nat) : List Int := (every m).filter (addI p k mv)
abbrev adds (p : Ply) (k : Nat) (mv : Bool) : List Int := addsK p k mv p.figs.length
theorem addsK_succ (p : Ply) (k : Nat) (mv : Bool) (m : Nat) : addsK p k mv (m + 1) = addsK p k mv m ++ (if addI p k mv (m : Int) = true then [(m : Int)] else []) := by
  unfold addsK every
  rw [List.range_succ, List.map_append, List.filter_append]
  congr 1
  by_cases h : addI p k mv (m : Int) = true
  · rw [if_pos h]; simp [h]
  · rw [if_neg h]; simp [h]
theorem addsK_yes {p : Ply} {k : Nat} {mv : Bool} {m : Nat} (h : addI p k mv (m : Int) = true) : (addsK p k mv (m + 1)).map (fun x => [I x]) = (addsK p k mv m).map (fun x => [I x]) ++ [[I (m : Int)]] := by rw [addsK_succ, if_pos h, List.map_append]; rfl
theorem addsK_no {p : Ply} {k : Nat} {mv : Bool} {m : Nat} (h : addI p k mv (m : Int) = false) : (addsK p k mv (m + 1)).map (fun x => [I x]) = (addsK p k mv m).map (fun x => [I x]) := by rw [addsK_succ, if_neg (by rw [h]; simp), List.append_nil]
theorem addsK_len (p : Ply) (k : Nat) (mv : Bool) (m : Nat) : (addsK p k mv m).length ≤ m := by
  have := List.length_filter_le (addI p k mv) (every m)
  unfold addsK; simp [every] at this ⊢; omega
theorem madds_ok {p : Ply} (hh : p.hts.length ≤ 1000000) (hf : p.figs.length ≤ 1000000) (hs : p.scs.length ≤ 1000000) (hx : ∀ x ∈ p.scs, x.moved.length ≤ 1000000 ∧ x.rest.length ≤ 1000000 ∧ x.taken.length ≤ 1000000) {k : Nat} (hk : k < p.scs.length) (h1 : plOK p = true) : APure Tryz.prog 87 [plA p, I k, .fn (.func 88) [] []] (.tup [ints (adds p k false), I 0]) := by
  refine ap Tryz.func87 (fun e0 he0 => ?_)
  refine vz 3 ?_
  refine sq_nil ?_
  refine aw_seq ?_
  refine aw_seq ?_
  have hpl := isplay_pure p hh hf hs hx
  rw [h1] at hpl
  have hsc := isscene_pure p (k : Int) hs
  rw [scIn_nat hk] at hsc
  have gP := plOK_B h1
  have gX := sc_B gP hk
  have hns := gP.ns
  have hnf := gP.nf
  have esc := sc_at hk
  refine wz 1 ?_
  refine kz az (hpl) ?_
  refine wz 4 ?_
  refine ky az (hsc) ?_
  refine vz 4 ?_
  refine sq_nil ?_
  refine aw_seq ?_
  refine aw_seq ?_
  refine aw_sub (sub_iptrK [1, 2, 8] 3 (j := 0) (l := plC p) rfl rfl) ?_
  refine nz ?_
  refine vz 4 ?_
  refine sq_nil ?_
  refine aw_block ?_
  refine aw_sub (sub_token 8 1 jz) ?_
  refine aw_loopk (ι := { f : Nat // f ≤ p.figs.length }) [1, 2, 3, 23] (fun g => [(24, I (g.1 : Nat)), (8, .own 1 1 ((addsK p k false g.1).map fun x => [I x]))]) (fun H g => H.set 1 (.tok ((addsK p k false g.1).map fun x => [I x]).length)) (fun g => p.figs.length - g.1) (⟨0, Nat.zero_le _⟩) ⟨jz, jz, jz, jz, jz, jz, trivial⟩ rfl ?_
  rintro ⟨f, hf⟩
  refine nz ?_
  have hal := addsK_len p k false f
  refine wz 1 ?_
  refine iz (fun c_25 c_25' => ?_) (fun c_25 c_25' => ?_)
  ·have hfl : f < p.figs.length := by omega
   have gml := rising_len gX.mv
   have grl := rising_len gX.rs
   refine wz 5 ?_
   refine sq_ev rfl (ev_less (ev_index_map (k := k) (xs := p.scs) sl24.h jz jz rfl hk) (Less.eq (b := .iptr (scC (sc p k))) (by rw [esc]))) ?_
   refine wz 6 ?_
   refine kz az (contains_pure _ _ (by omega)) ?_
   refine wz 1 ?_
   refine sz 36 (fun g8_4 g8_4' => ?_) (fun g8_4 g8_4' => ?_)
   ·have eS : ((addsK p k false (f + 1)).map fun x => [I x]) = ((addsK p k false f).map fun x => [I x]) := addsK_no (by unfold addI; simp_all)
    refine wz 8 ?_
    exact ⟨⟨f + 1, by omega⟩, by simp only; omega, sb 2 ⟨jz, Less.eq (by rw [eS] <;> rfl), jz, jz, jz, jz, trivial⟩ (hH := (congrArg (fun m => [_, AObj.tok m]) (congrArg List.length eS.symm)))⟩
   refine wz 3 ?_
   refine ky az (contains_pure _ _ (by omega)) ?_
   refine wz 1 ?_
   refine iz (fun c_41 c_41' => ?_) (fun c_41 c_41' => ?_)
   ·have eS : ((addsK p k false (f + 1)).map fun x => [I x]) = ((addsK p k false f).map fun x => [I x]) := addsK_no (by unfold addI; simp_all)
    refine wz 2 ?_
    exact ⟨⟨f + 1, by omega⟩, by simp only; omega, sb 2 ⟨jz, Less.eq (by rw [eS] <;> rfl), jz, jz, jz, jz, trivial⟩ (hH := (congrArg (fun m => [_, AObj.tok m]) (congrArg List.length eS.symm)))⟩
   have hnm : (f : Int) ∉ (sc p k).moved := by simpa using g8_4
   have hnr : (f : Int) ∉ (sc p k).rest := by simpa using c_41
   refine aw_skip ?_
   refine aw_seq ?_
   refine nz ?_
   refine wz 2 ?_
   refine sq_call (args := [.ptr 2 0, I f]) rfl en88.h jz ⟨jz, jz, trivial⟩ (adds1_call (x := sc p k) (f := (f : Int)) (by omega) (lt_le (rising_iff.1 gX.rs).1)) ?_ (by rintro v H' ⟨h, _⟩; cases h)
   rintro v H' ⟨h, rfl⟩
   cases h
   refine sq_nil ?_
   refine aw_seq ?_
   refine nz ?_
   refine wz 1 ?_
   refine sq_call (args := [plA p]) rfl en138.h jz ⟨jz, trivial⟩ (copied_call (by omega) hs) ?_ (by rintro v H' ⟨_, _, _, _, h, _⟩; cases h)
   rintro v H' ⟨cap, c1, c2, hcap, h, rfl⟩
   cases h
   refine wz 6 ?_
   refine sq_ev rfl (ev_index_msl (k := k) sl24.h jz jz rfl hk) ?_
   refine sq_store (j := 5) (off := 0 + k * 4) rfl jz jz rfl rfl ty41.h rfl (Nat.ble_eq_true_of_le (by rw [List.length_append, fl_len (f := scC) (sz := 4) (fun a => rfl)]; omega)) ?_
   refine sq_nil ?_
   refine aw_seq ?_
   refine aw_sub (sub_freeze (j := 5) (n := p.scs.length) (cap := cap) (sz := 4) (es := (p.scs.set k (moreX false (sc p k) f)).map scC) (rest := List.replicate ((cap - p.scs.length) * 4) .any) (sl' := [(1, I k), (2, .fn (.func 88) [] []), (3, .iptr (plC p)), (8, .own 1 1 ((addsK p k false f).map fun x => [I x])), (9, I f), (10, .ptr 2 0), (11, .ptr 6 0), (23, I p.figs.length), (24, I f)]) (congrArg (fun l => some (AObj.cells l)) (fl_set (f := scC) (sz := 4) (fun a => rfl) p.scs (List.replicate ((cap - p.scs.length) * 4) .any) hk (moreX false (sc p k) (f : Int)))) (by simp) (fun q hq => by obtain ⟨x, _, rfl⟩ := List.mem_map.1 hq; rfl) (fun q hq => ?_) (FzH.same _ (by decide) (FzH.same _ (by decide) (FzH.same _ (by decide) (FzH.same _ (by decide) (FzH.same _ (by decide) (FzH.dead _ rfl (FzH.cells (by decide) (FzL.cons (Fz.same _) (FzL.cons (Fz.same _) (FzL.cons (Fz.same _) (FzL.cons Fz.frozen FzL.nil)))) (FzH.nil _))))))))) ?_
   ·simp only [List.mem_cons, List.not_mem_nil, or_false] at hq; rcases hq with rfl | rfl | rfl | rfl | rfl | rfl | rfl | rfl | rfl <;> exact Fz.same _
   refine nz ?_
   refine wz 5 ?_
   refine sz 56 (fun g12_4 g12_4' => ?_) (fun g12_4 g12_4' => ?_)
   ·have hr4 : (moreX false (sc p k) f).rest.length ≤ 4 := by have h := g12_4; simp at h; omega
    refine wz 2 ?_
    refine ky az (can_pure (p := setS p k (moreX false (sc p k) f)) (n := k) (setS_B gP (moreX_B gX hfl hnm hnr hr4)) (by show k < (p.scs.set k _).length; rw [List.length_set]; exact hk)) ?_
    refine wz 1 ?_
    refine iz (fun c_60 c_60' => ?_) (fun c_60 c_60' => ?_)
    ·have hcn : St.can p (moreX false (sc p k) f) = true := by have h := c_60; rw [setS_can, setS_sc hk] at h; exact h
     have eS : ((addsK p k false (f + 1)).map fun x => [I x]) = ((addsK p k false f).map fun x => [I x]) ++ [[I (f : Int)]] := addsK_yes (by unfold addI; simp [hnm, hnr, hr4, hcn])
     refine wz 2 ?_
     refine sq_ev rfl (ev_buildSlice (es := [[_]]) sf22.h rfl rfl rfl rfl) ?_
     first | refine sq_append rfl sf22.h Tryz.underlying22 rfl rfl jz (Nat.succ_pos _) (by simp; omega) (by simp; omega) ?_ | refine sq_append rfl sf22.h Tryz.underlying22 rfl rfl (less_slx _ _) (Nat.succ_pos _) (by simp; omega) (by simp; omega) ?_
     refine wz 3 ?_
     exact ⟨⟨f + 1, by omega⟩, by simp only; omega, sb 2 ⟨jz, Less.eq (by rw [eS] <;> rfl), jz, jz, jz, jz, trivial⟩ (hH := (congrArg (fun m => [_, AObj.tok m]) (congrArg List.length eS.symm)))⟩
    have hcn : St.can p (moreX false (sc p k) f) = false := by have h := c_60; rw [setS_can, setS_sc hk] at h; exact h
    have eS : ((addsK p k false (f + 1)).map fun x => [I x]) = ((addsK p k false f).map fun x => [I x]) := addsK_no (by unfold addI; simp [hcn])
    refine wz 2 ?_
    exact ⟨⟨f + 1, by omega⟩, by simp only; omega, sb 2 ⟨jz, Less.eq (by rw [eS] <;> rfl), jz, jz, jz, jz, trivial⟩ (hH := (congrArg (fun m => [_, AObj.tok m]) (congrArg List.length eS.symm)))⟩
   have hr4 : ¬ (moreX false (sc p k) f).rest.length ≤ 4 := by have h := g12_4; simp at h; omega
   have eS : ((addsK p k false (f + 1)).map fun x => [I x]) = ((addsK p k false f).map fun x => [I x]) := addsK_no (by unfold addI; simp [hr4])
   refine wz 7 ?_
   exact ⟨⟨f + 1, by omega⟩, by simp only; omega, sb 2 ⟨jz, Less.eq (by rw [eS] <;> rfl), jz, jz, jz, jz, trivial⟩ (hH := (congrArg (fun m => [_, AObj.tok m]) (congrArg List.length eS.symm)))⟩
  obtain rfl : f = p.figs.length := by omega
  refine wz 3 ?_
  exact retQ_pure (v := .tup [.own _ _ _, .raw _]) rfl rfl (less_tup ⟨less_own _ _ _, jz, trivial⟩)
theorem mjoins_ok {p : Ply} (hh : p.hts.length ≤ 1000000) (hf : p.figs.length ≤ 1000000) (hs : p.scs.length ≤ 1000000) (hx : ∀ x ∈ p.scs, x.moved.length ≤ 1000000 ∧ x.rest.length ≤ 1000000 ∧ x.taken.length ≤ 1000000) {k : Nat} (hk : k < p.scs.length) (h1 : plOK p = true) : APure Tryz.prog 87 [plA p, I k, .fn (.func 90) [] []] (.tup [ints (adds p k true), I 0]) := by
  refine ap Tryz.func87 (fun e0 he0 => ?_)
  refine vz 3 ?_
  refine sq_nil ?_
  refine aw_seq ?_
  refine aw_seq ?_
  have hpl := isplay_pure p hh hf hs hx
  rw [h1] at hpl
  have hsc := isscene_pure p (k : Int) hs
  rw [scIn_nat hk] at hsc
  have gP := plOK_B h1
  have gX := sc_B gP hk
  have hns := gP.ns
  have hnf := gP.nf
  have esc := sc_at hk
  refine wz 1 ?_
  refine kz az (hpl) ?_
  refine wz 4 ?_
  refine ky az (hsc) ?_
  refine vz 4 ?_
  refine sq_nil ?_
  refine aw_seq ?_
  refine aw_seq ?_
  refine aw_sub (sub_iptrK [1, 2, 8] 3 (j := 0) (l := plC p) rfl rfl) ?_
  refine nz ?_
  refine vz 4 ?_
  refine sq_nil ?_
  refine aw_block ?_
  refine aw_sub (sub_token 8 1 jz) ?_
  refine aw_loopk (ι := { f : Nat // f ≤ p.figs.length }) [1, 2, 3, 23] (fun g => [(24, I (g.1 : Nat)), (8, .own 1 1 ((addsK p k true g.1).map fun x => [I x]))]) (fun H g => H.set 1 (.tok ((addsK p k true g.1).map fun x => [I x]).length)) (fun g => p.figs.length - g.1) (⟨0, Nat.zero_le _⟩) ⟨jz, jz, jz, jz, jz, jz, trivial⟩ rfl ?_
  rintro ⟨f, hf⟩
  refine nz ?_
  have hal := addsK_len p k true f
  refine wz 1 ?_
  refine iz (fun c_25 c_25' => ?_) (fun c_25 c_25' => ?_)
  ·have hfl : f < p.figs.length := by omega
   have gml := rising_len gX.mv
   have grl := rising_len gX.rs
   refine wz 5 ?_
   refine sq_ev rfl (ev_less (ev_index_map (k := k) (xs := p.scs) sl24.h jz jz rfl hk) (Less.eq (b := .iptr (scC (sc p k))) (by rw [esc]))) ?_
   refine wz 6 ?_
   refine kz az (contains_pure _ _ (by omega)) ?_
   refine wz 1 ?_
   refine sz 36 (fun g8_4 g8_4' => ?_) (fun g8_4 g8_4' => ?_)
   ·have eS : ((addsK p k true (f + 1)).map fun x => [I x]) = ((addsK p k true f).map fun x => [I x]) := addsK_no (by unfold addI; simp_all)
    refine wz 8 ?_
    exact ⟨⟨f + 1, by omega⟩, by simp only; omega, sb 2 ⟨jz, Less.eq (by rw [eS] <;> rfl), jz, jz, jz, jz, trivial⟩ (hH := (congrArg (fun m => [_, AObj.tok m]) (congrArg List.length eS.symm)))⟩
   refine wz 3 ?_
   refine ky az (contains_pure _ _ (by omega)) ?_
   refine wz 1 ?_
   refine iz (fun c_41 c_41' => ?_) (fun c_41 c_41' => ?_)
   ·have eS : ((addsK p k true (f + 1)).map fun x => [I x]) = ((addsK p k true f).map fun x => [I x]) := addsK_no (by unfold addI; simp_all)
    refine wz 2 ?_
    exact ⟨⟨f + 1, by omega⟩, by simp only; omega, sb 2 ⟨jz, Less.eq (by rw [eS] <;> rfl), jz, jz, jz, jz, trivial⟩ (hH := (congrArg (fun m => [_, AObj.tok m]) (congrArg List.length eS.symm)))⟩
   have hnm : (f : Int) ∉ (sc p k).moved := by simpa using g8_4
   have hnr : (f : Int) ∉ (sc p k).rest := by simpa using c_41
   refine aw_skip ?_
   refine aw_seq ?_
   refine nz ?_
   refine wz 2 ?_
   refine sq_call (args := [.ptr 2 0, I f]) rfl en90.h jz ⟨jz, jz, trivial⟩ (joins1_call (x := sc p k) (f := (f : Int)) (by omega) (lt_le (rising_iff.1 gX.mv).1)) ?_ (by rintro v H' ⟨h, _⟩; cases h)
   rintro v H' ⟨h, rfl⟩
   cases h
   refine sq_nil ?_
   refine aw_seq ?_
   refine nz ?_
   refine wz 1 ?_
   refine sq_call (args := [plA p]) rfl en138.h jz ⟨jz, trivial⟩ (copied_call (by omega) hs) ?_ (by rintro v H' ⟨_, _, _, _, h, _⟩; cases h)
   rintro v H' ⟨cap, c1, c2, hcap, h, rfl⟩
   cases h
   refine wz 6 ?_
   refine sq_ev rfl (ev_index_msl (k := k) sl24.h jz jz rfl hk) ?_
   refine sq_store (j := 5) (off := 0 + k * 4) rfl jz jz rfl rfl ty41.h rfl (Nat.ble_eq_true_of_le (by rw [List.length_append, fl_len (f := scC) (sz := 4) (fun a => rfl)]; omega)) ?_
   refine sq_nil ?_
   refine aw_seq ?_
   refine aw_sub (sub_freeze (j := 5) (n := p.scs.length) (cap := cap) (sz := 4) (es := (p.scs.set k (moreX true (sc p k) f)).map scC) (rest := List.replicate ((cap - p.scs.length) * 4) .any) (sl' := [(1, I k), (2, .fn (.func 90) [] []), (3, .iptr (plC p)), (8, .own 1 1 ((addsK p k true f).map fun x => [I x])), (9, I f), (10, .ptr 2 0), (11, .ptr 6 0), (23, I p.figs.length), (24, I f)]) (congrArg (fun l => some (AObj.cells l)) (fl_set (f := scC) (sz := 4) (fun a => rfl) p.scs (List.replicate ((cap - p.scs.length) * 4) .any) hk (moreX true (sc p k) (f : Int)))) (by simp) (fun q hq => by obtain ⟨x, _, rfl⟩ := List.mem_map.1 hq; rfl) (fun q hq => ?_) (FzH.same _ (by decide) (FzH.same _ (by decide) (FzH.same _ (by decide) (FzH.same _ (by decide) (FzH.same _ (by decide) (FzH.dead _ rfl (FzH.cells (by decide) (FzL.cons (Fz.same _) (FzL.cons (Fz.same _) (FzL.cons (Fz.same _) (FzL.cons Fz.frozen FzL.nil)))) (FzH.nil _))))))))) ?_
   ·simp only [List.mem_cons, List.not_mem_nil, or_false] at hq; rcases hq with rfl | rfl | rfl | rfl | rfl | rfl | rfl | rfl | rfl <;> exact Fz.same _
   refine nz ?_
   refine wz 5 ?_
   refine sz 56 (fun g12_4 g12_4' => ?_) (fun g12_4 g12_4' => ?_)
   ·have hr4 : (moreX true (sc p k) f).rest.length ≤ 4 := by have h := g12_4; simp at h; omega
    refine wz 2 ?_
    refine ky az (can_pure (p := setS p k (moreX true (sc p k) f)) (n := k) (setS_B gP (moreX_B gX hfl hnm hnr hr4)) (by show k < (p.scs.set k _).length; rw [List.length_set]; exact hk)) ?_
    refine wz 1 ?_
    refine iz (fun c_60 c_60' => ?_) (fun c_60 c_60' => ?_)
    ·have hcn : St.can p (moreX true (sc p k) f) = true := by have h := c_60; rw [setS_can, setS_sc hk] at h; exact h
     have eS : ((addsK p k true (f + 1)).map fun x => [I x]) = ((addsK p k true f).map fun x => [I x]) ++ [[I (f : Int)]] := addsK_yes (by unfold addI; simp [hnm, hnr, hr4, hcn])
     refine wz 2 ?_
     refine sq_ev rfl (ev_buildSlice (es := [[_]]) sf22.h rfl rfl rfl rfl) ?_
     first | refine sq_append rfl sf22.h Tryz.underlying22 rfl rfl jz (Nat.succ_pos _) (by simp; omega) (by simp; omega) ?_ | refine sq_append rfl sf22.h Tryz.underlying22 rfl rfl (less_slx _ _) (Nat.succ_pos _) (by simp; omega) (by simp; omega) ?_
     refine wz 3 ?_
     exact ⟨⟨f + 1, by omega⟩, by simp only; omega, sb 2 ⟨jz, Less.eq (by rw [eS] <;> rfl), jz, jz, jz, jz, trivial⟩ (hH := (congrArg (fun m => [_, AObj.tok m]) (congrArg List.length eS.symm)))⟩
    have hcn : St.can p (moreX true (sc p k) f) = false := by have h := c_60; rw [setS_can, setS_sc hk] at h; exact h
    have eS : ((addsK p k true (f + 1)).map fun x => [I x]) = ((addsK p k true f).map fun x => [I x]) := addsK_no (by unfold addI; simp [hcn])
    refine wz 2 ?_
    exact ⟨⟨f + 1, by omega⟩, by simp only; omega, sb 2 ⟨jz, Less.eq (by rw [eS] <;> rfl), jz, jz, jz, jz, trivial⟩ (hH := (congrArg (fun m => [_, AObj.tok m]) (congrArg List.length eS.symm)))⟩
   have hr4 : ¬ (moreX true (sc p k) f).rest.length ≤ 4 := by have h := g12_4; simp at h; omega
   have eS : ((addsK p k true (f + 1)).map fun x => [I x]) = ((addsK p k true f).map fun x => [I x]) := addsK_no (by unfold addI; simp [hr4])
   refine wz 7 ?_
   exact ⟨⟨f + 1, by omega⟩, by simp only; omega, sb 2 ⟨jz, Less.eq (by rw [eS] <;> rfl), jz, jz, jz, jz, trivial⟩ (hH := (congrArg (fun m => [_, AObj.tok m]) (congrArg List.length eS.symm)))⟩
  obtain rfl : f = p.figs.length := by omega
  refine wz 3 ?_
  exact retQ_pure (v := .tup [.own _ _ _, .raw _]) rfl rfl (less_tup ⟨less_own _ _ _, jz, trivial⟩)
end Go.Proofs.YtfmpabgblbbcdaaGreatDoor
namespace Go.Proofs.YtfmpabgblbbcdaaGreatDoor
open Go Go.Ab Ni St
open Hd hiding sz
theorem fails_any {p : Ply} (gP : PlB p) : ∃ a b : Int, APure Tryz.prog 76 [plA p] (.tup [.agg [I a, I b], I (if (failsAt p).isNone = true then 0 else 7)]) := by
  cases h : failsAt p with
  | none => exact ⟨0, 0, fails_y gP h⟩
  | some n => exact ⟨n, lacks p (sc p n), fails_n gP h⟩
def lowP (p : Ply) (n : Nat) : Ply := { p with hts := p.hts.map fun h => h - (n : Int) }
def lowK (p : Ply) (n i : Nat) : List Int := ((p.hts.take i).map fun h => h - (n : Int)) ++ p.hts.drop i
theorem lowK_len {p : Ply} {n i : Nat} (h : i ≤ p.hts.length) : (lowK p n i).length = p.hts.length := by unfold lowK; simp; omega
theorem lowK_zero (p : Ply) (n : Nat) : lowK p n 0 = p.hts := by unfold lowK; simp
theorem lowK_all (p : Ply) (n : Nat) : lowK p n p.hts.length = (lowP p n).hts := by unfold lowK lowP; simp
theorem lowK_get {p : Ply} {n i : Nat} (h : i < p.hts.length) : (lowK p n i)[i]'(by rw [lowK_len (by omega)]; exact h) = p.hts[i] := by
  unfold lowK
  rw [List.getElem_append_right (by simp; exact Nat.min_le_left _ _)]
  simp [Nat.min_eq_left (Nat.le_of_lt h)]
theorem lowK_succ {p : Ply} {n i : Nat} (h : i < p.hts.length) : lowK p n (i + 1) = (lowK p n i).set i (p.hts[i] - (n : Int)) := by
  unfold lowK
  rw [List.set_append_right _ _ (by simp; exact Nat.min_le_left _ _), List.take_succ_eq_append_getElem h, List.map_append]
  have e : i - ((p.hts.take i).map fun h => h - (n : Int)).length = 0 := by simp; omega
  rw [e, List.drop_eq_getElem_cons h, List.set_cons_zero]
  simp
theorem lowP_B {p : Ply} (B : PlB p) (hh : ∀ n ∈ p.hts, 1 ≤ n ∧ n ≤ 9) {n : Nat} (hn : n < 10) : PlB (lowP p n) where
  nh := by show 1 ≤ (p.hts.map _).length ∧ (p.hts.map _).length ≤ 6; rw [List.length_map]; exact B.nh
  lf := by show 0 ≤ p.left ∧ p.left ≤ ((p.hts.map _).length : Nat); rw [List.length_map]; exact B.lf
  nf := B.nf
  ns := B.ns
  ht := fun x hx => by
    obtain ⟨h, hm, rfl⟩ := List.mem_map.1 (show x ∈ p.hts.map _ from hx)
    have := hh h hm
    omega
  fg := B.fg
  sc := fun x hx => by
    have X := B.sc x hx
    exact ⟨X.mv, X.rs, by show rising x.taken (p.hts.map _).length = true; rw [List.length_map]; exact X.tk, X.r4, X.kn⟩
abbrev plays0 (p : Ply) : Bool := (failsAt p).isNone
def lower (p : Ply) : Option Nat := (List.range 10).find? fun n => plays0 (lowP p n)
theorem lower_some {p : Ply} {n : Nat} (hn : n < 10) (h : plays0 (lowP p n) = true) (no : ∀ j, j < n → plays0 (lowP p j) = false) : lower p = some n := by
  unfold lower; rw [List.find?_range_eq_some]
  exact ⟨h, List.mem_range.2 hn, fun j hj => by rw [no j hj]; rfl⟩
theorem lower_none {p : Ply} (no : ∀ j, j < 10 → plays0 (lowP p j) = false) : lower p = none := by
  unfold lower; rw [List.find?_eq_none]
  intro j hj; rw [no j (List.mem_range.1 hj)]; simp
theorem inL_row (n k : Nat) : ∀ l : List Int, AV.inL n ((l.map fun x => [I x]).flatten ++ List.replicate k .any) = true
  | [] => by
    show AV.inL n (List.replicate k .any) = true
    induction k with
    | zero => rfl
    | succ k ih => show (AV.inB n .any && AV.inL n (List.replicate k .any)) = true; rw [ih]; rfl
  | x :: l => by
    show (AV.inB n (I x) && AV.inL n ((l.map fun x => [I x]).flatten ++ List.replicate k .any)) = true
    rw [inL_row n k l]; rfl
theorem hts_row {p : Ply} {n i : Nat} {R : List AV} (h : i < p.hts.length) : (((lowK p n i).map fun x => [I x]).flatten ++ R)[0 + i * 1]? = some (I p.hts[i]) := by
  have hl := lowK_len (p := p) (n := n) (Nat.le_of_lt h)
  rw [numE_flat, Nat.zero_add, Nat.mul_one, List.getElem?_append_left (by simp; omega), List.getElem?_map, List.getElem?_eq_getElem (by omega), lowK_get h]; rfl
theorem xadds_ok {p : Ply} (hh : p.hts.length ≤ 1000000) (hf : p.figs.length ≤ 1000000) (hs : p.scs.length ≤ 1000000) (hx : ∀ x ∈ p.scs, x.moved.length ≤ 1000000 ∧ x.rest.length ≤ 1000000 ∧ x.taken.length ≤ 1000000) {k : Nat} (hk : k < p.scs.length) (h1 : plOK p = true) : APure Tryz.prog 30 [plA p, I k] (.tup [ints (adds p k false), I 0]) := by
  refine ap Tryz.func30 (fun e0 he0 => ?_)
  refine wz 5 ?_
  refine kz az (madds_ok hh hf hs hx hk h1) ?_
  refine wz 4 ?_
  exact retQ_pure (v := .tup [.sl _ _, .raw _]) rfl rfl (less_tup ⟨jz, jz, trivial⟩)
theorem xjoins_ok {p : Ply} (hh : p.hts.length ≤ 1000000) (hf : p.figs.length ≤ 1000000) (hs : p.scs.length ≤ 1000000) (hx : ∀ x ∈ p.scs, x.moved.length ≤ 1000000 ∧ x.rest.length ≤ 1000000 ∧ x.taken.length ≤ 1000000) {k : Nat} (hk : k < p.scs.length) (h1 : plOK p = true) : APure Tryz.prog 31 [plA p, I k] (.tup [ints (adds p k true), I 0]) := by
  refine ap Tryz.func31 (fun e0 he0 => ?_)
  refine wz 5 ?_
  refine kz az (mjoins_ok hh hf hs hx hk h1) ?_
  refine wz 4 ?_
  exact retQ_pure (v := .tup [.sl _ _, .raw _]) rfl rfl (less_tup ⟨jz, jz, trivial⟩)
theorem xlower_ok {p : Ply} (hh : p.hts.length ≤ 1000000) (hf : p.figs.length ≤ 1000000) (hs : p.scs.length ≤ 1000000) (hx : ∀ x ∈ p.scs, x.moved.length ≤ 1000000 ∧ x.rest.length ≤ 1000000 ∧ x.taken.length ≤ 1000000) (h1 : plOK p = true) {m : Nat} (h2 : lower p = some m) : APure Tryz.prog 34 [plA p] (.tup [I m, I 0]) := by
  refine ap Tryz.func34 (fun e0 he0 => ?_)
  refine vz 3 ?_
  refine sq_nil ?_
  refine aw_seq ?_
  refine aw_seq ?_
  have hpl := isplay_pure p hh hf hs hx
  rw [h1] at hpl
  have gP := plOK_B h1
  have hns := gP.ns
  have hnh := gP.nh
  have hht := plOK_ht h1
  refine wz 1 ?_
  refine kz az (hpl) ?_
  refine vz 2 ?_
  refine aw_skip ?_
  refine aw_seq ?_
  refine aw_seq ?_
  refine aw_sub (sub_iptrK [] 1 (j := 0) (l := plC p) rfl rfl) ?_
  refine nz ?_
  refine wz 1 ?_
  refine aw_loopk (ι := { n : Nat // n ≤ 10 ∧ ∀ j, j < n → plays0 (lowP p j) = false }) [1] (fun g => [(12, I (g.1 : Nat))]) (fun H g => H) (fun g => 10 - g.1) (⟨0, Nat.zero_le _, by omega⟩) ⟨jz, jz, trivial⟩ rfl ?_
  rintro ⟨n, hn, hno⟩
  refine nz ?_
  refine wz 1 ?_
  refine iz (fun c_13 c_13' => ?_) (fun c_13 c_13' => ?_)
  ·have hn10 : n < 10 := by omega
   refine vz 5 ?_
   refine sq_nil ?_
   refine aw_seq ?_
   refine nz ?_
   refine wz 2 ?_
   refine sq_call (args := [ints p.hts]) rfl en91.h jz ⟨jz, trivial⟩ (clone_y (by omega) _) ?_ (by rintro v H' ⟨a, h, _⟩; cases h)
   rintro v H' ⟨a, h, ho⟩
   cases h
   rcases ho with ⟨_, hq1, _⟩ | ⟨cap, hq1, hq2, hq3, rfl, rfl⟩
   ·exfalso; rw [List.map_eq_nil_iff] at hq1; rw [hq1] at hnh; exact absurd hnh.1 (by decide)
   simp only [List.length_map] at hq1 ⊢
   refine nz ?_
   refine vz 2 ?_
   refine sq_nil ?_
   refine aw_seq ?_
   refine aw_seq ?_
   refine nz ?_
   refine wz 2 ?_
   refine sq_ev rfl (ev_len_msl sl22.h jz) ?_
   refine wz 1 ?_
   refine aw_loopk (ι := { i : Nat // i ≤ p.hts.length }) [1, 4, 5, 12, 22] (fun g => [(23, I (g.1 : Nat))]) (fun H g => [.dead, .cells [I p.left, .msl 2 0 p.hts.length cap, fgs p.figs, scs p.scs], .cells (((lowK p n g.1).map fun x => [I x]).flatten ++ List.replicate ((cap - p.hts.length) * 1) .any)]) (fun g => p.hts.length - g.1) (⟨0, Nat.zero_le _⟩) ⟨jz, jz, jz, jz, jz, jz, trivial⟩ (by show _ = _; rw [lowK_zero]; rfl) ?_
   rintro ⟨i, hi⟩
   refine nz ?_
   refine wz 1 ?_
   refine iz (fun c_24 c_24' => ?_) (fun c_24 c_24' => ?_)
   ·have hil : i < p.hts.length := by omega
    have eR := (fl_set (f := fun x => [I x]) (sz := 1) (fun a => rfl) (lowK p n i) (List.replicate ((cap - p.hts.length) * 1) AV.any) (i := i) (by rw [lowK_len (by omega)]; exact hil) (p.hts[i] - (n : Int))).trans (by rw [← lowK_succ hil])
    refine vz 2 ?_
    refine sq_nil ?_
    have hbh := hht _ (List.getElem_mem hil)
    refine wz 3 ?_
    refine sq_ev rfl (ev_index_msl (k := i) sl22.h jz jz rfl hil) ?_
    refine sq_ev rfl (ev_load (v := I p.hts[i]) jz rfl ty3.h (hts_row hil)) ?_
    refine wz 1 ?_
    refine sq_ev rfl (ev_sub (q := p.hts[i] - n) jz jz (wr (by omega) (by omega))) ?_
    refine sq_ev rfl (ev_index_msl (k := i) sl22.h jz jz rfl hil) ?_
    refine sq_store (j := 2) (off := 0 + i * 1) rfl jz jz rfl rfl ty3.h rfl (Nat.ble_eq_true_of_le (by rw [List.length_append, fl_len (f := fun x => [I x]) (sz := 1) (fun a => rfl), lowK_len (by omega)]; omega)) ?_
    refine wz 2 ?_
    exact ⟨⟨i + 1, by omega⟩, by simp only; omega, sb 3 ⟨jz, jz, jz, jz, jz, jz, trivial⟩ (hH := (congrArg (fun L => [AObj.dead, .cells [I p.left, .msl 2 0 p.hts.length cap, fgs p.figs, scs p.scs], .cells L]) eR)) (h2 := (by simp [objsIn, AObj.inB, AV.inB, AV.inL, inL_row]))⟩
   obtain rfl : i = p.hts.length := by omega
   refine aw_exit ?_
   refine aw_seq ?_
   rw [lowK_all]
   refine aw_sub (sub_freeze (j := 2) (n := p.hts.length) (cap := cap) (sz := 1) (es := (lowP p n).hts.map fun x => [I x]) (rest := List.replicate ((cap - p.hts.length) * 1) .any) (sl' := [(1, .iptr (plC p)), (4, I n), (5, .ptr 1 0), (12, I n)]) rfl (by simp [lowP]) (fun q hq => by obtain ⟨x, _, rfl⟩ := List.mem_map.1 hq; rfl) (fun q hq => ?_) (FzH.same _ (by decide) (FzH.cells (by decide) (FzL.cons (Fz.same _) (FzL.cons Fz.frozen (FzL.cons (Fz.same _) (FzL.cons (Fz.same _) FzL.nil)))) (FzH.dead _ rfl (FzH.nil _))))) ?_
   ·simp only [List.mem_cons, List.not_mem_nil, or_false] at hq; rcases hq with rfl | rfl | rfl | rfl <;> exact Fz.same _
   refine nz ?_
   obtain ⟨fa, fb, hfa⟩ := fails_any (lowP_B gP hht hn10)
   refine wz 1 ?_
   refine kz az (hfa) ?_
   refine wz 8 ?_
   refine iz (fun c_41 c_41' => ?_) (fun c_41 c_41' => ?_)
   ·have hpn : plays0 (lowP p n) = true := by have h := c_41; unfold plays0; cases hz : failsAt (lowP p n) with | some a => (rw [hz] at h; simp at h) | none => rfl
    have h3 := lower_some hn10 hpn hno
    rw [h2] at h3
    obtain rfl : m = n := Option.some.inj h3
    refine wz 3 ?_
    exact retQ_pure (v := .tup [.raw _, .raw _]) rfl rfl (less_tup ⟨jz, jz, trivial⟩)
   have hpn : plays0 (lowP p n) = false := by have h := c_41; unfold plays0; cases hz : failsAt (lowP p n) with | none => (rw [hz] at h; simp at h) | some a => rfl
   refine wz 2 ?_
   exact ⟨⟨n + 1, by omega, fun j hj => (by by_cases e : j = n; (subst e; exact hpn); exact hno j (by omega))⟩, by simp only; omega, sb 1 ⟨jz, jz, trivial⟩⟩
  obtain rfl : n = 10 := by omega
  exfalso
  have h3 := lower_none hno
  rw [h2] at h3; cases h3
end Go.Proofs.YtfmpabgblbbcdaaGreatDoor
namespace Go.Proofs.YtfmpabgblbbcdaaGreatDoor
open Go Go.Ab Ni St
open Hd hiding sz
instance en141 : EnT Tryz.prog 141 := ⟨Ent.of Tryz.func141 (by kernel_rfl) rfl⟩
instance en142 : EnT Tryz.prog 142 := ⟨Ent.of Tryz.func142 (by kernel_rfl) rfl⟩
instance en93 : EnT Tryz.prog 93 := ⟨Ent.of Tryz.func93 (by kernel_rfl) rfl⟩
section del
variable {α : Type} {q : α → Bool} {L : List α}
def dk (q : α → Bool) (L : List α) (j : Nat) : List α := (L.take j).filter fun t => !q t
theorem dk_yes {j : Nat} (hj : j < L.length) (h : q L[j] = false) : dk q L (j + 1) = dk q L j ++ [L[j]] := by
  unfold dk; rw [List.take_succ_eq_append_getElem hj, List.filter_append, List.filter_cons_of_pos (by simp [h])]; rfl
theorem dk_no {j : Nat} (hj : j < L.length) (h : q L[j] = true) : dk q L (j + 1) = dk q L j := by
  unfold dk; rw [List.take_succ_eq_append_getElem hj, List.filter_append, List.filter_cons_of_neg (by simp [h])]; simp
theorem dk_all : dk q L L.length = L.filter fun t => !q t := by unfold dk; rw [List.take_length]
theorem dk_none {j : Nat} (hj : j ≤ L.length) (h : ∀ i, (hi : i < L.length) → i < j → q L[i] = false) : dk q L j = L.take j := by
  unfold dk
  refine List.filter_eq_self.2 fun t ht => ?_
  obtain ⟨i, hi, rfl⟩ := List.getElem_of_mem ht
  rw [List.length_take] at hi
  rw [List.getElem_take, h i (by omega) (by omega)]; rfl
structure DelI (q : α → Bool) (L : List α) (j : Nat) (R : List α) : Prop where
  len : R.length = L.length
  le : j ≤ L.length
  tk : R.take (dk q L j).length = dk q L j
  dr : R.drop j = L.drop j
  lt : (dk q L j).length < j
theorem DelI.get {j : Nat} {R : List α} (h : DelI q L j R) (hj : j < L.length) (hr : j < R.length) : R[j] = L[j] := by
  have e := congrArg (·[0]?) h.dr
  simp only [List.getElem?_drop, Nat.add_zero] at e
  rw [List.getElem?_eq_getElem hj, List.getElem?_eq_getElem hr] at e
  exact Option.some.inj e
theorem DelI.start {i : Nat} (hi : i < L.length) (hq : q L[i] = true) (no : ∀ j, (hj : j < L.length) → j < i → q L[j] = false) : DelI q L (i + 1) L ∧ (dk q L (i + 1)).length = i := by
  have e : dk q L (i + 1) = L.take i := by rw [dk_no hi hq, dk_none (by omega) fun j hj h => no j hj h]
  have hl : (dk q L (i + 1)).length = i := by rw [e, List.length_take]; omega
  exact ⟨⟨rfl, hi, by rw [hl, e], rfl, by omega⟩, hl⟩
theorem DelI.skip {j : Nat} {R : List α} (h : DelI q L j R) (hj : j < L.length) (hq : q L[j] = true) : DelI q L (j + 1) R := by
  have e := dk_no hj hq
  refine ⟨h.len, hj, by rw [e]; exact h.tk, ?_, by rw [e]; have := h.lt; omega⟩
  rw [← List.drop_drop, ← List.drop_drop, h.dr]
theorem DelI.keep {j : Nat} {R : List α} (h : DelI q L j R) (hj : j < L.length) (hq : q L[j] = false) : DelI q L (j + 1) (R.set (dk q L j).length L[j]) ∧ (dk q L (j + 1)).length = (dk q L j).length + 1 := by
  have e := dk_yes hj hq
  have hlt := h.lt
  have hlen := h.len
  have hl : (dk q L (j + 1)).length = (dk q L j).length + 1 := by rw [e, List.length_append]; rfl
  refine ⟨⟨by rw [List.length_set]; exact h.len, hj, ?_, ?_, by omega⟩, hl⟩
  · rw [hl, List.take_succ_eq_append_getElem (by rw [List.length_set]; omega), List.take_set_of_le (Nat.le_refl _), h.tk, List.getElem_set_self, e]
  · rw [List.drop_set_of_lt (by omega), ← List.drop_drop, ← List.drop_drop, h.dr]
end del
theorem ixQ_yes {α : Type} {q : α → Bool} {E : List α} (h : ¬ ixQ q E = -1) : ∃ i : Nat, ∃ hi : i < E.length, ixQ q E = (i : Int) ∧ q E[i] = true ∧ ∀ j, (hj : j < E.length) → j < i → q E[j] = false := by
  unfold ixQ at h ⊢
  cases e : E.findIdx? q with
  | none => rw [e] at h; simp at h
  | some i =>
    obtain ⟨h1, h2, h3⟩ := List.findIdx?_eq_some_iff_getElem.1 e
    exact ⟨i, h1, rfl, h2, fun j hj hji => by simpa using h3 j hji⟩
theorem ixQ_none {α : Type} {q : α → Bool} {E : List α} (h : ixQ q E = -1) : (E.filter fun t => !q t) = E := by
  unfold ixQ at h
  cases e : E.findIdx? q with
  | none =>
    rw [List.findIdx?_eq_none_iff] at e
    exact List.filter_eq_self.2 fun t ht => by rw [e t ht]; rfl
  | some i => rw [e] at h; simp at h
theorem delete_call {q : Int → Bool} {f : FuncId} {cp : List AV} (L : List Int) (hL : L.length ≤ 1000000) (en : Ent Tryz.prog f) (hc : ∀ i, (hi : i < L.length) → APure Tryz.prog f (I L[i] :: cp) (B (q L[i]))) (hp : AV.pureL cp = true) {k cap : Nat} {rs : List AV} {H0 : List AObj} (hk : H0[k]? = some (.cells ((L.map fun x => [I x]).flatten ++ rs))) (hcap : L.length ≤ cap) : ACall Tryz.prog 142 [.msl k 0 L.length cap, .fn (.func f) [] cp] H0 (fun y H' => ∃ cap' rs', y = .ret (.msl k 0 ((L.filter fun t => !q t).map fun x => [I x]).length cap') ∧ H' = H0.set k (.cells (((L.filter fun t => !q t).map fun x => [I x]).flatten ++ rs'))) := by
  refine acall_of (rs := [.tmp 4]) Tryz.func142 rfl rfl (Nat.le_of_ble_eq_true rfl) fun e0 he0 => ?_
  have hkA := lt_of_get? hk
  have hH0 : H0.set k (.cells ((L.map fun x => [I x]).flatten ++ rs)) ++ [] = H0 := by obtain ⟨h, hg⟩ := List.getElem?_eq_some_iff.1 hk; rw [List.append_nil, ← hg, List.set_getElem_self]
  refine wz 3 ?_
  refine sq_ev rfl (ev_callQ en162.h jz (AQuiet.lend (j := k) (n := L.length) (c := cap) (sz := 1) (es := L.map fun x => [I x]) (rest := rs) (intF_ix (q := q) L hL en hc hp) rfl (FzL.cons Fz.frozen (FzL.cons (Fz.same _) FzL.nil)) hk (by simp) (fun r hr => by obtain ⟨t, _, rfl⟩ := List.mem_map.1 hr; rfl)) ⟨jz, jz, trivial⟩) ?_
  refine wz 3 ?_
  refine iz (fun c_12 c_12' => ?_) (fun c_12 c_12' => ?_)
  ·refine wz 1 ?_
   refine sq_ev rfl (ev_as (v := .msl _ _ _ _) jz) ?_
   refine sq_nil (aw_ret ?_)
   refine ⟨rfl, .msl k 0 L.length cap, rfl, cap, rs, ?_, ?_⟩
   ·rw [ixQ_none c_12', List.length_map]
   ·rw [ixQ_none c_12', ← List.append_nil (H0.set k _)]; exact hH0.symm
  obtain ⟨i0, hi0L, hi0, hqi, hno⟩ := ixQ_yes (q := q) (E := L) c_12'
  have hst := DelI.start hi0L hqi hno
  refine wz 3 ?_
  refine aw_loopk (ι := { g : Nat × List Int // DelI q L g.1 g.2 }) [0, 1] (fun g => [(5, I ((dk q L g.1.1).length : Nat)), (6, I g.1.1)]) (fun H g => H0.set k (.cells ((g.1.2.map fun x => [I x]).flatten ++ rs)) ++ []) (fun g => L.length - g.1.1) (⟨(i0 + 1, L), hst.1⟩) ⟨(by exact less_int (by simp only; rw [hi0, hst.2])), (by exact less_int (by simp only; rw [hi0]; omega)), jz, jz, trivial⟩ hH0 ?_
  rintro ⟨⟨j, Rw⟩, hI⟩
  refine nz ?_
  dsimp only at hI
  have hRl := hI.len
  have hjl := hI.le
  have hlt := hI.lt
  refine wz 4 ?_
  refine iz (fun c_19 c_19' => ?_) (fun c_19 c_19' => ?_)
  ·have hjL : j < L.length := by omega
   have hjR : j < Rw.length := by omega
   have hRj := hI.get hjL hjR
   refine wz 2 ?_
   refine sq_ev rfl (ev_index_msl (k := j) sl22.h jz jz rfl hjL) ?_
   refine sq_ev rfl (ev_load (v := I L[j]) jz (row_look hkA) ty3.h (by rw [numE_flat, Nat.zero_add, Nat.mul_one, List.getElem?_append_left (by simpa using hjR), List.getElem?_map, List.getElem?_eq_getElem hjR, hRj]; rfl)) ?_
   refine wz 3 ?_
   refine sq_ev rfl (ev_call en jz (hc j hjL) ⟨jz, LessL.rfl' _⟩) ?_
   refine wz 1 ?_
   refine iz (fun c_29 c_29' => ?_) (fun c_29 c_29' => ?_)
   ·have hqj : q L[j] = false := by simpa using c_29
    have hk2 := hI.keep hjL hqj
    refine wz 3 ?_
    refine sq_ev rfl (ev_index_msl (k := (dk q L j).length) sl22.h jz jz rfl (by omega)) ?_
    refine sq_storeRow (A := H0) (X := []) (R := Rw) (rs := rs) (v := L[j]) (a := I L[j]) (n := (dk q L j).length) (f := fun x => [I x]) (sz := 1) (bb := false) ?_ ?_ (fun a => rfl) hkA ?_ ?_ ?_ ?_ ?_ ?_
    ·rfl
    ·rfl
    ·omega
    ·exact jz
    ·exact jz
    ·rfl
    ·exact ty3.h
    refine vz 6 ?_
    refine sq_nil ?_
    refine ⟨⟨(j + 1, Rw.set (dk q L j).length L[j]), hk2.1⟩, by simp only; omega, ?_⟩
    refine Sub.slots ?_
    exact ⟨(by exact less_int (by first | (rw [hk2.2]; omega) | rw [hk3])), jz, jz, jz, trivial⟩
   have hqj : q L[j] = true := by simpa using c_29
   have hk2 := hI.skip hjL hqj
   have hk3 := congrArg List.length (dk_no hjL hqj)
   refine vz 3 ?_
   refine sq_nil ?_
   refine ⟨⟨(j + 1, Rw), hk2⟩, by simp only; omega, ?_⟩
   refine Sub.slots ?_
   exact ⟨(by exact less_int (by first | (rw [hk2.2]; omega) | rw [hk3])), jz, jz, jz, trivial⟩
  obtain rfl : j = L.length := by omega
  refine wz 2 ?_
  refine sq_ev rfl (ev_slice_lo sl22.h jz jz (by omega) (by omega)) ?_
  refine sq_clear (j := k) rfl rfl sf22.h jz (row_look hkA) (by rw [List.length_append, fl_len (f := fun x => [I x]) (sz := 1) (fun a => rfl)]; omega) ?_
  refine wz 2 ?_
  refine sq_ev rfl (ev_slice_msl sl22.h jz jz (by omega)) ?_
  refine sq_ev rfl (ev_as (v := .msl _ _ _ _) jz) ?_
  refine sq_nil (aw_ret ?_)
  have hcl : (dk q L L.length).length ≤ Rw.length := by omega
  have htk : ((Rw.map fun x => [I x]).flatten ++ rs).take ((dk q L L.length).length * 1) = ((L.filter fun t => !q t).map fun x => [I x]).flatten := by
    rw [List.take_append_of_le_length (by rw [fl_len (f := fun x => [I x]) (sz := 1) (fun a => rfl)]; exact Nat.mul_le_mul_right _ hcl), fl_take (f := fun x => [I x]) (sz := 1) (fun a => rfl) Rw hcl, hI.tk, dk_all]
  refine ⟨rfl, .msl k 0 (dk q L L.length).length cap, rfl, cap, List.replicate ((L.length - (dk q L L.length).length) * 1) .any ++ ((Rw.map fun x => [I x]).flatten ++ rs).drop ((dk q L L.length).length * 1 + (L.length - (dk q L L.length).length) * 1), by rw [dk_all, List.length_map], (congrArg (fun l => (H0.set k (.cells ((Rw.map fun x => [I x]).flatten ++ rs)) ++ []).set k (.cells l)) (List.append_assoc _ _ _)).trans ?_⟩
  rw [htk, List.append_nil, List.set_set]
theorem delete_nil {f : FuncId} {cp : List AV} (en : Ent Tryz.prog f) (hp : AV.pureL cp = true) : APure Tryz.prog 142 [ints [], .fn (.func f) [] cp] (ints []) := by
  refine ap Tryz.func142 (fun e0 he0 => ?_) (hp := by simp [AV.pureL, AV.pureB, AV.pureE, hp])
  refine wz 3 ?_
  refine sq_ev rfl (ev_call en162.h jz (intF_ix (q := fun _ => true) [] (by simp) en (fun i hi => absurd hi (by simp)) hp) ⟨jz, jz, trivial⟩) ?_
  refine wz 3 ?_
  refine iz (fun c_12 c_12' => ?_) (fun c_12 c_12' => ?_)
  ·refine wz 2 ?_
   exact retQ_pure (v := .sl _ _) rfl rfl jz
  exact absurd rfl c_12'
end Go.Proofs.YtfmpabgblbbcdaaGreatDoor
namespace Go.Proofs.YtfmpabgblbbcdaaGreatDoor
open Go Go.Ab Ni St
open Hd hiding sz
def cutN (F l : List Int) : List Int := l.filter fun t => !decide (t ∈ F)
def cutX (F : List Int) (x : Scn) : Scn := { x with moved := cutN F x.moved, rest := cutN F x.rest }
def outP (p : Ply) (F : List Int) : Ply := { p with scs := p.scs.map (cutX F) }
def outK (p : Ply) (F : List Int) (k : Nat) : List Scn := (p.scs.take k).map (cutX F) ++ p.scs.drop k
theorem outK_len {p : Ply} {F : List Int} {k : Nat} (h : k ≤ p.scs.length) : (outK p F k).length = p.scs.length := by unfold outK; simp; omega
theorem outK_zero (p : Ply) (F : List Int) : outK p F 0 = p.scs := by unfold outK; simp
theorem outK_all (p : Ply) (F : List Int) : outK p F p.scs.length = (outP p F).scs := by unfold outK outP; simp
theorem outK_get {p : Ply} {F : List Int} {k : Nat} (h : k < p.scs.length) : (outK p F k)[k]'(by rw [outK_len (by omega)]; exact h) = p.scs[k] := by
  unfold outK
  rw [List.getElem_append_right (by simp; exact Nat.min_le_left _ _)]
  simp [Nat.min_eq_left (Nat.le_of_lt h)]
theorem outK_succ {p : Ply} {F : List Int} {k : Nat} (h : k < p.scs.length) : outK p F (k + 1) = (outK p F k).set k (cutX F p.scs[k]) := by
  unfold outK
  rw [List.set_append_right _ _ (by simp; exact Nat.min_le_left _ _), List.take_succ_eq_append_getElem h, List.map_append]
  have e : k - ((p.scs.take k).map (cutX F)).length = 0 := by simp; omega
  rw [e, List.drop_eq_getElem_cons h, List.set_cons_zero]
  simp
theorem copied_dead {p : Ply} {o0 o1 o2 : AObj} (h0 : 0 < p.scs.length) (hs : p.scs.length ≤ 1000000) : ACall Tryz.prog 138 [plA p] [o0, o1, o2] (fun y H' => ∃ cap, p.scs.length ≤ cap ∧ y = .ret (.agg [I p.left, ints p.hts, fgs p.figs, .msl 5 0 p.scs.length cap]) ∧ H' = [o0, o1, o2, .dead, .dead, .cells ((p.scs.map scC).flatten ++ List.replicate ((cap - p.scs.length) * 4) .any)]) :=
  acall_wk (copied_call h0 hs) fun y H1 ⟨cap, l1, l2, hcap, hy, hH⟩ => ⟨_, _, _, hy, Less.rfl' _, by subst hH; exact .cons (.same _) (.cons (.same _) (.cons (.same _) (.cons (.dead _) (.cons (.dead _) (.cons (.same _) .nil))))), cap, hcap, rfl, rfl⟩
theorem inL_rowS (n k : Nat) : ∀ l : List Scn, AV.inL n ((l.map scC).flatten ++ List.replicate k .any) = true
  | [] => inL_any k
  | x :: l => by
    have ih := inL_rowS n k l
    show AV.inL n (ints x.moved :: ints x.rest :: I x.knocks :: ints x.taken :: ((l.map scC).flatten ++ List.replicate k .any)) = true
    simp [AV.inL, AV.inB, ih]
abbrev FNC (F : List Int) : AV := .fn (.func 141) [] [.iptr [ints F]]
def cV (l : List Int) (j : Nat) : AV := if l = [] then .slx 1 [] else .mslp j 0 l.length
def cO (l : List Int) : AObj := if l = [] then .tok 0 else .pre (numL l)
def dO (l : List Int) : AObj := if l = [] then .tok 0 else .dead
theorem cloneW {l : List Int} (hl : l.length ≤ 1000000) (H : List AObj) : ACall Tryz.prog 91 [ints l] H fun y H' => y = .ret (cV l H.length) ∧ H' = H ++ [cO l] := by
  by_cases h : l = []
  · have e1 : cV l H.length = .slx 1 [] := if_pos h
    have e2 : cO l = .tok 0 := if_pos h
    rw [e1, e2]
    refine acall_push ((clone_y hl H).mono ?_)
    rintro y H' ⟨a, rfl, ⟨rfl, _, rfl⟩ | ⟨cap, _, _, h3, _⟩⟩
    · exact ⟨rfl, rfl⟩
    · rw [h] at h3; simp at h3
  · have e1 : cV l H.length = .mslp H.length 0 l.length := if_neg h
    have e2 : cO l = .pre (numL l) := if_neg h
    rw [e1, e2]
    refine acall_wk (clone_y hl H) fun y H1 ⟨a, hy, ho⟩ => ?_
    rcases ho with ⟨_, h1, _⟩ | ⟨cap, _, _, _, rfl, rfl⟩
    · exact absurd (List.map_eq_nil_iff.1 h1) h
    · refine ⟨_, _, H ++ [.pre (numL l)], hy, less_mslp, wkl_app H (.cons ?_ .nil), by rw [List.length_map], rfl⟩
      rw [numE_flat]; exact .pre _ _
theorem gone_pure (f : Int) (F : List Int) (hF : F.length ≤ 1000000) : APure Tryz.prog 141 [I f, .iptr [ints F]] (B (decide (f ∈ F))) := by
  refine ap Tryz.func141 (fun e0 he0 => ?_)
  refine wz 3 ?_
  refine kz az (contains_pure F f hF) ?_
  refine wz 1 ?_
  exact rz rfl jz
theorem delW {F l : List Int} (hF : F.length ≤ 1000000) (hl : l.length ≤ 1000000) (A : List AObj) : ACall Tryz.prog 142 [cV l A.length, FNC F] (A ++ [cO l]) fun y H' => y = .ret (ints (cutN F l)) ∧ H' = A ++ [dO l] := by
  have hp : AV.pureL [AV.iptr [ints F]] = true := by simp [AV.pureL, AV.pureB]
  by_cases h : l = []
  · have e1 : cV l A.length = .slx 1 [] := if_pos h
    have e2 : cO l = .tok 0 := if_pos h
    have e3 : dO l = .tok 0 := if_pos h
    rw [e1, e2, e3]
    subst h
    exact acall_of_pure ((delete_nil en141.h hp).less ⟨less_slx 1 [], Less.rfl' _, trivial⟩ (Less.rfl' _))
  · have e1 : cV l A.length = .mslp A.length 0 l.length := if_neg h
    have e2 : cO l = .pre (numL l) := if_neg h
    have e3 : dO l = .dead := if_neg h
    rw [e1, e2, e3]
    have hk : (A ++ [AObj.pre (numL l)])[A.length]? = some (.pre (numL l)) := by rw [List.getElem?_append_right (Nat.le_refl _), Nat.sub_self]; rfl
    refine acall_open hk fun cap m hcap => ?_
    have hset : ∀ o, (A ++ [AObj.pre (numL l)]).set A.length o = A ++ [o] := fun o => by rw [List.set_append_right _ _ (Nat.le_refl _), Nat.sub_self]; rfl
    rw [hset]
    have hset2 : ∀ o o', (A ++ [(o' : AObj)]).set A.length o = A ++ [o] := fun o o' => by rw [List.set_append_right _ _ (Nat.le_refl _), Nat.sub_self]; rfl
    have hd := delete_call (q := fun t => decide (t ∈ F)) (f := 141) (cp := [.iptr [ints F]]) l hl en141.h (fun i hi => gone_pure l[i] F hF) hp (k := A.length) (cap := cap) (rs := List.replicate m .any) (H0 := A ++ [.cells (numL l ++ List.replicate m .any)]) (by rw [List.getElem?_append_right (Nat.le_refl _), Nat.sub_self, numE_flat]; rfl) hcap
    have hf := acall_freeze (sz := 1) (es := (l.filter fun t => !decide (t ∈ F)).map fun x => [I x]) (H0 := A ++ [.cells (numL l ++ List.replicate m .any)]) (by simp) (fun q hq => by obtain ⟨x, _, rfl⟩ := List.mem_map.1 hq; rfl) hd
    rw [hset2] at hf
    exact hf
theorem without_pure {p : Ply} (h0 : 0 < p.scs.length) (hs : p.scs.length ≤ 1000000) (hx : ∀ x ∈ p.scs, x.moved.length ≤ 1000000 ∧ x.rest.length ≤ 1000000) {F : List Int} (hF : F.length ≤ 1000000) : APure Tryz.prog 93 [plA p, ints F] (plA (outP p F)) := by
  refine ap Tryz.func93 (fun e0 he0 => ?_)
  refine vz 3 ?_
  refine sq_nil ?_
  refine aw_seq ?_
  refine aw_sub (sub_iptrK [2, 4] 3 (j := 1) (l := [ints F]) rfl rfl) ?_
  refine nz ?_
  refine wz 1 ?_
  refine sq_call (args := [plA p]) rfl en138.h jz ⟨jz, trivial⟩ (copied_dead h0 hs) ?_ (by rintro v H' ⟨_, _, h, _⟩; cases h)
  rintro v H' ⟨cap, hcap, h, rfl⟩
  cases h
  refine vz 2 ?_
  refine sq_nil ?_
  refine aw_seq ?_
  refine nz ?_
  refine wz 0 ?_
  refine sq_ev rfl (ev_less ev_makeFunc (Less.eq (b := FNC F) rfl)) ?_
  refine vz 1 ?_
  refine sq_nil ?_
  refine aw_seq ?_
  refine aw_seq ?_
  refine nz ?_
  refine wz 2 ?_
  refine sq_ev rfl (ev_len_msl sl24.h jz) ?_
  refine wz 1 ?_
  refine aw_loopk (ι := { k : Nat // k ≤ p.scs.length }) [4, 5, 6, 13, 14] (fun g => [(15, I (g.1 : Nat))]) (fun H g => [.cells (plC p), .dead, .cells [I 0, .raw (.slice none 0 0), .raw (.slice none 0 0), .raw (.slice none 0 0)], .dead, .dead, .cells (((outK p F g.1).map scC).flatten ++ List.replicate ((cap - p.scs.length) * 4) .any), .cells [I p.left, ints p.hts, fgs p.figs, .msl 5 0 p.scs.length cap]]) (fun g => p.scs.length - g.1) (⟨0, Nat.zero_le _⟩) ⟨jz, jz, jz, jz, jz, jz, trivial⟩ (by show _ = _; rw [outK_zero]; rfl) ?_
  rintro ⟨k, hk⟩
  refine nz ?_
  refine wz 1 ?_
  refine iz (fun c_16 c_16' => ?_) (fun c_16 c_16' => ?_)
  ·have hkl : k < p.scs.length := by omega
   have eR := (fl_set (f := scC) (sz := 4) (fun a => rfl) (outK p F k) (List.replicate ((cap - p.scs.length) * 4) AV.any) (i := k) (by rw [outK_len (by omega)]; exact hkl) (cutX F p.scs[k])).trans (by rw [← outK_succ hkl])
   refine wz 1 ?_
   refine sq_ev rfl (ev_index_msl (k := k) sl24.h jz jz rfl hkl) ?_
   refine sq_ev rfl (ev_less (ev_load_agg (i := 5) (off := 0 + k * 4) (n := 4) jz rfl ty41.h (Nat.ble_eq_true_of_le (by rw [List.length_append, fl_len (f := scC) (sz := 4) (fun a => rfl), outK_len (by omega)]; omega))) (Less.eq (b := .agg (scC p.scs[k])) (congrArg AV.agg (by rw [fl_elem (f := scC) (sz := 4) (fun a => rfl) (outK p F k) _ (by rw [outK_len (by omega)]; exact hkl), outK_get hkl])))) ?_
   refine vz 3 ?_
   refine sq_nil ?_
   refine aw_seq ?_
   refine nz ?_
   have hxk := hx _ (List.getElem_mem hkl)
   have eRw := outK_get (F := F) hkl
   refine aw_drawcm 11 [] [2, 4, 7, 9] _ mo rfl rfl (by kernel_rfl) rfl (by kernel_rfl) (HSub.refl _) ?_
   first | refine dc_ev rfl (ev_fieldAddr fo41_0.h jz) ?_ | refine dc_ev rfl (ev_fieldAddr_i fo41_0.h jz) ?_
   first | refine dc_ev rfl (ev_load jz rfl ty22.h rfl) ?_ | refine dc_ev rfl (ev_load_i jz ty22.h rfl) ?_
   refine dc_eff rfl rfl (eff_call (args := [ints p.scs[k].moved]) rfl en91.h jz ⟨jz, trivial⟩ (cloneW hxk.1 _)) (HSub.of_prefix (List.prefix_append _ _)) ?_
   first | refine dc_ev rfl (ev_mv (v := .fn _ _ _) jz) ?_ | refine dc_ev rfl (ev_mv (v := .raw _) jz) ?_
   refine dc_eff rfl rfl (eff_call (args := [cV p.scs[k].moved _, FNC F]) rfl en142.h jz ⟨jz, jz, trivial⟩ (delW hF hxk.1 _)) (HSub.of_prefix (List.prefix_append _ _)) ?_
   first | refine dc_ev rfl (ev_fieldAddr fo41_1.h jz) ?_ | refine dc_ev rfl (ev_fieldAddr_i fo41_1.h jz) ?_
   first | refine dc_ev rfl (ev_load jz rfl ty22.h rfl) ?_ | refine dc_ev rfl (ev_load_i jz ty22.h rfl) ?_
   refine dc_eff rfl rfl (eff_call (args := [ints p.scs[k].rest]) rfl en91.h jz ⟨jz, trivial⟩ (cloneW hxk.2 _)) (HSub.of_prefix (by rw [List.append_assoc]; exact List.prefix_append _ _)) ?_
   first | refine dc_ev rfl (ev_mv (v := .fn _ _ _) jz) ?_ | refine dc_ev rfl (ev_mv (v := .raw _) jz) ?_
   refine dc_eff rfl rfl (eff_call (args := [cV p.scs[k].rest _, FNC F]) rfl en142.h jz ⟨jz, jz, trivial⟩ (delW hF hxk.2 _)) (HSub.of_prefix (by rw [List.append_assoc]; exact List.prefix_append _ _)) ?_
   first | refine dc_ev rfl (ev_fieldAddr fo41_0.h jz) ?_ | refine dc_ev rfl (ev_fieldAddr_i fo41_0.h jz) ?_
   refine dc_nil ⟨fun _ => ?_, fun h => absurd rfl h⟩
   refine sq_store (j := 7) (off := 0) rfl jz jz rfl rfl ty22.h rfl rfl ?_
   refine wz 1 ?_
   refine sq_store (j := 7) (off := 1) rfl jz jz rfl rfl ty22.h rfl rfl ?_
   refine wz 4 ?_
   refine sq_ev rfl (ev_index_msl (k := k) sl24.h jz jz rfl hkl) ?_
   refine sq_store (j := 5) (off := 0 + k * 4) rfl jz jz rfl rfl ty41.h rfl (Nat.ble_eq_true_of_le (by rw [List.length_append, fl_len (f := scC) (sz := 4) (fun a => rfl), outK_len (by omega)]; omega)) ?_
   refine wz 2 ?_
   exact ⟨⟨k + 1, by omega⟩, by simp only; omega, sb 7 ⟨jz, jz, jz, jz, jz, jz, trivial⟩ (hH := (congrArg (fun L => [_, _, _, _, _, AObj.cells L, _]) eR)) (h2 := (by simp [objsIn, AObj.inB, AV.inB, AV.inL, inL_rowS]))⟩
  obtain rfl : k = p.scs.length := by omega
  refine aw_exit ?_
  refine aw_seq ?_
  rw [outK_all]
  refine aw_sub (sub_freeze (j := 5) (n := p.scs.length) (cap := cap) (sz := 4) (es := (outP p F).scs.map scC) (rest := List.replicate ((cap - p.scs.length) * 4) .any) (sl' := [(4, .ptr 2 0), (5, .ptr 6 0)]) rfl (by simp [outP]) (fun q hq => by obtain ⟨x, _, rfl⟩ := List.mem_map.1 hq; rfl) (fun q hq => ?_) (FzH.same _ (by decide) (FzH.same _ (by decide) (FzH.same _ (by decide) (FzH.same _ (by decide) (FzH.same _ (by decide) (FzH.dead _ rfl (FzH.cells (by decide) (FzL.cons (Fz.same _) (FzL.cons (Fz.same _) (FzL.cons (Fz.same _) (FzL.cons Fz.frozen FzL.nil)))) (FzH.nil _))))))))) ?_
  ·simp only [List.mem_cons, List.not_mem_nil, or_false] at hq; rcases hq with rfl | rfl <;> exact Fz.same _
  refine nz ?_
  refine wz 2 ?_
  exact retQ_res (vs := [.agg _]) rfl rfl ⟨resVar_cell rfl rfl ty26.h rfl, trivial⟩ jz
end Go.Proofs.YtfmpabgblbbcdaaGreatDoor
