/-
  A part of the proof: conditions: none beyond each theorem's own.
-/
import Derived.Test.YtjpokekbjmdgmaaGreatDoorWalkA
import Derived.Test.YtjpokekbjmdgmaaGreatDoorLogicD
import Derived.KernelRfl
import Derived.Lib.LaidTab
import Derived.Lib.ItoaNum
import Derived.Test.YtjpokekbjmdgmaaGreatDoorSpecA
import Derived.Test.YtjpokekbjmdgmaaGreatDoorLogicC
set_option linter.all false
set_option maxRecDepth 100000
set_option maxHeartbeats 8000000
namespace Go.Proofs.YtjpokekbjmdgmaaGreatDoor
open Go Go.Ab Ni Hd
instance bi120 : BdI Tryz.prog 120 [.raw (.int .i64 0), .raw (.int .i64 0)] true [(0, 1), (1, 1)] 0 := ⟨by kernel_rfl⟩
instance en168 : EnT Tryz.prog 168 := ⟨Ent.of Tryz.func168 (by kernel_rfl) rfl⟩
instance sf142 : SlS Tryz.prog 142 120 2 16 := ⟨SlFact.of (by kernel_rfl)⟩
instance ty142 : TyF Tryz.prog 142 false 1 := ⟨by kernel_rfl⟩
instance ty185 : TyF Tryz.prog 185 false 1 := ⟨by kernel_rfl⟩
instance ud142 : UnD Tryz.prog 142 (.slice 120) := ⟨Tryz.underlying142⟩
instance z120 : ZeO Tryz.prog 120 [.raw (.int .i64 0), .raw (.int .i64 0)] := ⟨by kernel_rfl⟩
instance z28 : ZeO Tryz.prog 28 [.raw (.slice none 0 0)] := ⟨by kernel_rfl⟩
def mB (r : Rg) (h : Nat) (f : List Int) (k : Nat) : List Int := ((rng r.bl r.bh).take k).map fun b => ((chs r h f 1 b).length : Int)
theorem mB_succ {r : Rg} {h : Nat} {f : List Int} {k : Nat} (hk : k < nB r) : mB r h f (k + 1) = mB r h f k ++ [((chs r h f 1 (r.bl + k)).length : Int)] := by
  unfold mB; rw [List.take_succ_eq_append_getElem hk, List.map_append, rng_get]; rfl
theorem mB_len {r : Rg} {h : Nat} {f : List Int} : (mB r h f (nB r)).length = nB r := by unfold mB nB; simp
theorem mB_get {r : Rg} {h : Nat} {f : List Int} {j : Nat} (hj : j < (mB r h f (nB r)).length) : (mB r h f (nB r))[j] = ((chs r h f 1 (r.bl + j)).length : Int) := by
  simp only [mB, List.getElem_map, List.getElem_take, rng_get]
structure ItP (e : Env) (l m : Nat) (st : Bool) (T : Nat → List AObj) (xs : List AV) : Prop extends ItO e l m st T xs where
  hin : ∀ i, i ≤ m → objsIn (T 0).length (T i) = true
abbrev rtsA (l : List Rt) : List AV := l.map rtA
theorem rtsA_at {l : List Rt} {k : Nat} {x : Rt} (h : l[k]? = some x) : (rtsA l)[k]? = some (rtA x) := by rw [List.getElem?_map, h]; rfl
theorem rngA_cl {a b : Int} {x : AV} (n : Nat) (h : x ∈ rngA a b) : x.cells = some [x] ∧ [x].length = 1 ∧ AV.inL n [x] = true := by
  obtain ⟨v, _, rfl⟩ := List.mem_map.1 h; exact ⟨rfl, rfl, rfl⟩
theorem chs_le {r : Rg} (gB : RgB r) (h : Nat) (f : List Int) (k : Nat) (n : Int) : (chs r h f k n).length ≤ 6 := by
  have h1 := nums_len (chK r h f k n) r.kinds.length
  have := gB.nk
  have : (chs r h f k n).length ≤ r.kinds.length := h1
  omega
theorem nB_bd {r : Rg} (gB : RgB r) : 1 ≤ nB r ∧ nB r ≤ 41 := by unfold nB; rw [rng_len]; have := gB.b; omega
theorem nA_bd {r : Rg} (gB : RgB r) : 1 ≤ nA r ∧ nA r ≤ 41 := by unfold nA; rw [rng_len]; have := gB.a; omega
theorem take2 {A B : List AObj} {n : Nat} (hl : B.length = A.length) {i j : Nat} (hi : i = A.length + 4) (hj : j = A.length + 3) : takeMarks ((B ++ [AObj.dead, .dead, .tok n, .raw (.deferred (some []))]) ++ [AObj.raw (.deferred (some []))]) [.mark i, .mark j] = some (B ++ [AObj.dead, .dead, .tok n, .raw (.deferred none), .raw (.deferred none)]) := by
  subst hi; subst hj; rw [← hl]
  simp [takeMarks, List.getElem?_append]
theorem ite_T {T : Nat → List AObj} {p : Prop} [Decidable p] {a b : Nat} : T (if p then a else b) = if p then T a else T b := by split <;> rfl
theorem fitting_call {r : Rg} (gB : RgB r) {h : Nat} {f : List Int} (hh : h < r.hides.length) (hf : f.length = r.kinds.length) {e : Env} {l m : Nat} {st : Bool} {T : Nat → List AObj} (it : ItP e l m st T (rtsA (fit r h f))) {i0 j0 : Nat} (sp : Stop r h f m st i0 j0) : ACallE e Tryz.prog 143 [.fn (.yield l) [] [], .iptr (fdC r h f)] (T 0) (fun y H' => y = .ret (.tup []) ∧ ∃ X, H' = T m ++ X) := by
  refine acallE_of_marks (rs := []) Tryz.func143 rfl rfl (Nat.le_of_ble_eq_true rfl) fun e0 hle he0 => ?_
  rw [nil_pre (T 0)]
  refine aw_seq ?_
  have hT0 := it.hin 0 (Nat.zero_le _)
  refine wz 0 ?_
  refine sq_boxP (H0 := T 0) (X := []) (a := .fn (.yield l) [] []) rfl jz rfl ?_
  refine sq_frz (A := T 0) (X := []) [0, 1] 2 rfl ?_
  refine wz 0 ?_
  refine sq_allocP (H0 := T 0) (X := [.dead]) rfl z28.h ?_
  refine sq_nil ?_
  refine aw_seq ?_
  refine aw_seq ?_
  refine aw_sub (sub_token_boxP (T 0) [.dead] 1) ?_
  refine aw_norm (H' := T 0 ++ [.dead, .cells [.own ((T 0).length + 2) 1 []], .tok 0]) (by simp) ?_
  refine wz 3 ?_
  refine kz az (numbers_pure _ _) ?_
  refine sq_nil ?_
  refine aw_block ?_
  refine nz ?_
  refine aw_rangeFuncP (xs := rngA r.bl r.bh) (fun k => T 0 ++ [.dead, .cells [.own ((T 0).length + 2) 1 ((mB r h f k).map fun x => [I x])], .tok ((mB r h f k).map fun x => [I x]).length]) ((rngA r.bl r.bh).length) (none) (Nat.le_refl _) (fun _ => rfl) (fun h => absurd rfl h) rfl (enters_outer rfl) dd_in jz en166.h ((numbers_iter (show -1000000 ≤ r.bl ∧ r.bl ≤ 1000000 by have h1 := gB.a; have h2 := gB.b; omega) (show -1000000 ≤ r.bh ∧ r.bh ≤ 1000000 by have h1 := gB.a; have h2 := gB.b; omega)).to2) (rfl) (fun _ => by simp) (fun k hk => by rw [objsIn_append, Bool.and_eq_true]; exact ⟨objsIn_mono (by simp) hT0, by simp [objsIn, AObj.inB, AV.inB, AV.inL, inE_ints]⟩) (fun x hx => rngA_pure hx) rfl rfl ?_ ?_
  ·intro q i x e2 hi hx he2 hlp hce
   obtain ⟨hd, rfl⟩ := rngA_get hx
   have hrd : 0 ≤ r.bl + (i : Int) ∧ r.bl + (i : Int) ≤ 1300 := by have h1 := rng_len r.bl r.bh; have h2 := gB.b; omega
   have eS : ((mB r h f (i + 1)).map fun x => [I x]) = ((mB r h f i).map fun x => [I x]) ++ [[I ((chs r h f 1 (r.bl + (i : Int))).length : Int)]] := by rw [mB_succ hd, List.map_append]; rfl
   have hml : (mB r h f i).length ≤ 41 := by unfold mB; rw [List.length_map, List.length_take]; have := (nB_bd gB).2; unfold nB at this; omega
   refine nz ?_
   refine wz 0 ?_
   refine aw_draw 6 mo (by kernel_rfl) ?_
   refine dr_ev rfl (ev_load jz (lookP (H0 := T 0) (m := 1) rfl) ty28.h rfl) ?_
   refine dz 2 ?_
   refine dkz az (changes_pure gB 1 hh hrd hf) ?_
   refine dz 1 ?_
   refine dr_ev rfl (ev_buildSlice (es := [[_]]) sf28.h rfl rfl rfl rfl) ?_
   refine dr_end ?_
   refine sq_append' (j := (T 0).length + 2) rfl sf28.h Tryz.underlying28 rfl (lookP (H0 := T 0) (m := 2) rfl) (less_slx _ _) (by simp; omega) (by simp; omega) ?_
   refine sq_store (j := (T 0).length + 1) (off := 0) rfl jz jz rfl (by show ((T 0 ++ _).set ((T 0).length + 2) _)[(T 0).length + 1]? = _; rw [setP]; exact lookP (H0 := T 0) (m := 1) rfl) ty28.h rfl rfl ?_
   refine wz 0 ?_
   exact ⟨⟨[], by show ((T 0 ++ _).set ((T 0).length + 2) _).set ((T 0).length + 1) _ = _; rw [setP, setP, List.append_nil]; exact congrArg (fun L => T 0 ++ [AObj.dead, .cells [.own ((T 0).length + 2) 1 L], .tok L.length]) eS.symm⟩, rfl, by split <;> rfl⟩
  ·rintro _ rfl
   have hfull : (rngA r.bl r.bh).length = nB r := by simp [nB]
   rw [hfull]
   refine nz ?_
   refine aw_seq ?_
   refine aw_norm (H' := T 0 ++ [.dead, .cells [.own ((T 0).length + 2) 1 ((mB r h f (nB r)).map fun x => [I x])], .tok ((mB r h f (nB r)).map fun x => [I x]).length, .raw (.deferred (some []))]) (by simp) ?_
   refine aw_sub (sub_iptrK [1, 2] 3 (j := (T 0).length + 1) (l := [.own ((T 0).length + 2) 1 ((mB r h f (nB r)).map fun x => [I x])]) rfl (lookP (H0 := T 0) (m := 1) rfl)) ?_
   refine aw_norm (H' := T 0 ++ [AObj.dead, .dead, .tok ((mB r h f (nB r)).map fun x => [I x]).length, .raw (.deferred (some []))]) (by simp only [List.append_assoc]; rw [setP]; rfl) ?_
   have hmo : 0 < mOut r st i0 := by unfold mOut; split <;> first | omega | exact (nA_bd gB).1
   refine wz 3 ?_
   refine kz az (numbers_pure _ _) ?_
   refine sq_nil ?_
   refine aw_block ?_
   refine nz ?_
   refine aw_rangeFuncQ [1, 2, 3] (xs := rngA r.al r.ah) (cl := fun x => [x]) (fun k => (if k < mOut r st i0 then T (posA r h f k) else T m) ++ [AObj.dead, .dead, .tok ((mB r h f (nB r)).map fun x => [I x]).length, .raw (.deferred (some []))]) (mOut r st i0) (if st = true then some .ret else none) (by rw [rngA_len]; exact sp.mo_le) (fun h => by rw [rngA_len]; exact sp.mo_no (by cases hst : st with | false => rfl | true => (rw [hst] at h; cases h))) (fun h => sp.mo_pos (by cases hst : st with | true => rfl | false => (rw [hst] at h; exact absurd rfl h))) (jo_ret st) (enters_outer rfl) dd_in jz en166.h ((numbers_iter (show -1000000 ≤ r.al ∧ r.al ≤ 1000000 by have h1 := gB.a; have h2 := gB.b; omega) (show -1000000 ≤ r.ah ∧ r.ah ≤ 1000000 by have h1 := gB.a; have h2 := gB.b; omega)).to2) (by rw [if_pos hmo]; rw [posA_0]) (fun k => by rw [List.length_append]; have h1 := it.hT; split <;> (rw [h1] <;> simp)) (fun k hk => by rw [objsIn_append, Bool.and_eq_true]; exact ⟨by split <;> rename_i hq <;> first | exact objsIn_mono (by simp) (it.hin _ (sp.posA_le hq)) | exact objsIn_mono (by simp) (it.hin _ (Nat.le_refl _)), by simp [objsIn, AObj.inB]⟩) (fun x hx => rngA_pure hx) rfl rfl (by decide) rfl rfl z3.h rfl ty3.h (fun x hx => rngA_cl _ hx) (by decide) (by simp [slotsIn, keepS, sget, AV.inB, AV.inL, inE_ints, inE_hds]) ?_ ?_
   ·intro q2 i x e3 hi hx he3 hlp hce
    obtain ⟨hd, rfl⟩ := rngA_get hx
    have hrd : 0 ≤ r.al + (i : Int) ∧ r.al + (i : Int) ≤ 1300 := by have h1 := rng_len r.al r.ah; have h2 := gB.a; omega
    have hc0 := chs_le gB h f 0 (r.al + (i : Int))
    show AWP _ _ _ ⟨_, (if i < mOut r st i0 then T (posA r h f i) else T m) ++ [AObj.dead, .dead, .tok ((mB r h f (nB r)).map fun x => [I x]).length, .raw (.deferred (some []))], _⟩
    rw [if_pos hi]
    refine nz ?_
    refine wz 2 ?_
    refine kz az (changes_pure gB 0 hh hrd hf) ?_
    refine wz 1 ?_
    refine sq_allocP (H0 := T (posA r h f i)) (X := [AObj.dead, .dead, .tok ((mB r h f (nB r)).map fun x => [I x]).length, .raw (.deferred (some []))]) rfl z3.h ?_
    refine sq_storeE (A := T (posA r h f i)) (X := [AObj.dead, .dead, .tok ((mB r h f (nB r)).map fun x => [I x]).length, .raw (.deferred (some []))]) rfl rfl jz jz rfl ty3.h rfl rfl ?_
    refine sq_frz (A := T (posA r h f i)) (X := [AObj.dead, .dead, .tok ((mB r h f (nB r)).map fun x => [I x]).length, .raw (.deferred (some []))]) [1, 2, 3, 5] 6 rfl ?_
    refine wz 3 ?_
    refine kz az (numbers_pure _ _) ?_
    refine sq_nil ?_
    refine aw_block ?_
    refine nz ?_
    refine aw_rangeFuncP (xs := rngA r.bl r.bh) (fun k => T (posB r h f i k) ++ ([AObj.dead, .dead, .tok ((mB r h f (nB r)).map fun x => [I x]).length, .raw (.deferred (some []))] ++ [.dead])) (mi r st i0 j0 i) (if li st i0 i = true then some .ret else none) (by rw [rngA_len]; exact sp.mi_le) (fun h => by rw [rngA_len]; exact sp.li_mi (by cases hli : li st i0 i with | false => rfl | true => (rw [hli] at h; cases h))) (fun h => (sp.li_pos (by cases hli : li st i0 i with | true => rfl | false => (rw [hli] at h; exact absurd rfl h))).1) (jo_ret _) (enters_inner rfl hlp) dd_nil jz en166.h ((numbers_iter (show -1000000 ≤ r.bl ∧ r.bl ≤ 1000000 by have h1 := gB.a; have h2 := gB.b; omega) (show -1000000 ≤ r.bh ∧ r.bh ≤ 1000000 by have h1 := gB.a; have h2 := gB.b; omega)).to2) (by rw [posB_0]; rfl) (fun k => by have h2 := it.hT (posB r h f i k); have h3 := it.hT (posA r h f i); simp [h2, h3]) (fun k hk => by rw [objsIn_append, Bool.and_eq_true]; exact ⟨objsIn_mono (by have := it.hT (posA r h f i); simp; omega) (it.hin _ (sp.posB_le hi hk)), by simp [objsIn, AObj.inB]⟩) (fun x hx => rngA_pure hx) rfl rfl ?_ ?_
    ·intro q3 j y e4 hj hy he4 hlp2 hce2
     obtain ⟨hd2, rfl⟩ := rngA_get hy
     have hc1 := chs_le gB h f 1 (r.bl + (j : Int))
     have hjm : j < (mB r h f (nB r)).length := by rw [mB_len]; exact hd2
     have hmj := mB_get hjm
     have hmd := gB.mends
     have hbb := gB.b
     have hbl := rng_len r.bl r.bh
     refine nz ?_
     refine wz 0 ?_
     refine aw_draw 20 mo (by kernel_rfl) ?_
     refine dz 8 ?_
     refine dr_ev rfl (ev_index_map (k := j) (xs := mB r h f (nB r)) (f := fun x => [I x]) (n := r.bl + (j : Int) - r.bl) sl28.h (less_own _ _ _) jz (by omega) hjm) ?_
     refine dz 7 ?_
     refine dsz 49 (fun g10_15 g10_15' => ?_) (fun g10_15 g10_15' => ?_)
     ·have hfy : fitB r h f ⟨r.al + i, r.bl + j⟩ = true := by unfold fitB; rw [← hmj]; exact g10_15
      refine dz 4 ?_
      refine sq_yield_yes rfl rfl (less_b g10_15) ((hle.trans hce).trans hce2) rfl jz jz (it.hy _ _ (sp.lt hi hj hfy) (rtsA_at (fit_at (Nat.lt_of_lt_of_le hi sp.mo_le) (Nat.lt_of_lt_of_le hj sp.mi_le) hfy)) _) ?_
      refine wz 2 ?_
      refine iz (fun c_56 c_56' => ?_) (fun c_56 c_56' => ?_)
      ·have hE : posB r h f i (j + 1) = posB r h f i j + 1 := posB_yes (Nat.lt_of_lt_of_le hj sp.mi_le) hfy
       have hJ : (li st i0 i && decide (j + 1 = mi r st i0 j0 i)) = true := by rw [← sp.at_ hi hj hfy]; unfold goes at c_56; simpa using c_56
       refine wz 0 ?_
       exact ⟨⟨[], by rw [hE]; exact (List.append_nil _).symm⟩, rfl, je_yes hJ⟩
      have hE : posB r h f i (j + 1) = posB r h f i j + 1 := posB_yes (Nat.lt_of_lt_of_le hj sp.mi_le) hfy
      have hJ : (li st i0 i && decide (j + 1 = mi r st i0 j0 i)) = false := by rw [← sp.at_ hi hj hfy]; unfold goes at c_56; simpa using c_56
      refine wz 0 ?_
      exact ⟨⟨[], by rw [hE]; exact (List.append_nil _).symm⟩, rfl, je_no hJ⟩
     have hfn : fitB r h f ⟨r.al + i, r.bl + j⟩ = false := by unfold fitB; rw [← hmj]; exact g10_15
     have hE : posB r h f i (j + 1) = posB r h f i j := posB_no (Nat.lt_of_lt_of_le hj sp.mi_le) hfn
     have hJ := sp.not hj hfn
     refine dz 4 ?_
     refine wz 4 ?_
     exact ⟨⟨[], by rw [hE]; exact (List.append_nil _).symm⟩, rfl, je_no hJ⟩
    ·intro ax hax
     have hTi : (if i + 1 < mOut r st i0 then T (posA r h f (i + 1)) else T m) = T (posB r h f i (mi r st i0 j0 i)) := by rw [sp.inner hi]; exact ite_T.symm
     rcases Bool.eq_false_or_eq_true (li st i0 i) with hli | hli
     ·obtain rfl := je_ret hli hax
      exact ⟨⟨[.dead], by rw [hTi]; simp⟩, rfl, je_yes (by rw [← sp.li_last hi]; exact hli)⟩
     ·obtain rfl := je_nor hli hax
      refine nz ?_
      exact ⟨⟨[.dead], by rw [hTi]; simp⟩, rfl, je_no (by rw [← sp.li_last hi]; exact hli)⟩
   ·intro ax hax
    rcases Bool.eq_false_or_eq_true st with hst | hst
    ·obtain rfl := je_ret hst hax
     refine ⟨T m ++ [.dead, .dead, .tok ((mB r h f (nB r)).map fun x => [I x]).length, .raw (.deferred none), .raw (.deferred none)], .tup [], ?_, rfl, rfl, _, rfl⟩
     show takeMarks (((if _ then _ else _) ++ _) ++ _) _ = _
     rw [if_neg (Nat.lt_irrefl _)]
     exact take2 (it.hT m) (by simp) (by simp)
    ·obtain rfl := je_nor hst hax
     refine nz ?_
     refine ⟨T m ++ [.dead, .dead, .tok ((mB r h f (nB r)).map fun x => [I x]).length, .raw (.deferred none), .raw (.deferred none)], .tup [], ?_, rfl, rfl, _, rfl⟩
     show takeMarks (((if _ then _ else _) ++ _) ++ _) _ = _
     rw [if_neg (Nat.lt_irrefl _)]
     exact take2 (it.hT m) (by simp) (by simp)
/-- **The rates that fit**, in order. -/
theorem fitting_iter {r : Rg} (gB : RgB r) {h : Nat} {f : List Int} (hh : h < r.hides.length) (hf : f.length = r.kinds.length) : AIter2 Tryz.prog 143 [] [.iptr (fdC r h f)] (rtsA (fit r h f)) := by
  intro m st hm h1 h2 l T e vs hT hin ok hH hs hy
  have hl : (rtsA (fit r h f)).length = (fit r h f).length := by simp
  obtain ⟨i0, j0, sp⟩ := stop_ex (r := r) (h := h) (f := f) (m := m) (st := st) (by omega) (fun q => by rw [h1 q, hl]) h2
  refine (fitting_call gB hh hf ⟨⟨hT, hm, h1, h2, fun i a hi ha X => hy i a hi ha X⟩, hin⟩ sp e vs (.refl e) ok hH hs).mono ?_
  rintro y w' ⟨ax, e', rfl, ok', fr, ⟨rfl, hX⟩, u, rfl, hu⟩
  exact ⟨u, e', rfl, rfl, ok', fr, hX⟩
theorem rtsA_get {l : List Rt} {k : Nat} {x : AV} (h : (rtsA l)[k]? = some x) : ∃ hk : k < l.length, x = rtA l[k] := by
  rw [List.getElem?_map] at h
  cases hy : l[k]? with
  | none => rw [hy] at h; cases h
  | some y =>
    rw [hy] at h
    have hk := lt_of_get? hy
    rw [List.getElem?_eq_getElem hk] at hy
    exact ⟨hk, by rw [Option.some.inj hy]; exact (Option.some.inj h).symm⟩
theorem rtsA_pure {l : List Rt} {x : AV} (h : x ∈ rtsA l) : x.pureB = true := by
  obtain ⟨n, _, rfl⟩ := List.mem_map.1 h; rfl
def clOf : AV → List AV
  | .agg l => l
  | _ => []
theorem rtsA_cl {l : List Rt} {x : AV} (n : Nat) (h : x ∈ rtsA l) : x.cells = some (clOf x) ∧ (clOf x).length = 2 ∧ AV.inL n (clOf x) = true := by
  obtain ⟨t, _, rfl⟩ := List.mem_map.1 h; exact ⟨rfl, rfl, by simp [clOf, AV.inL, AV.inB]⟩
theorem fitting_pure (r : Rg) (h : Int) (f : List Int) : APure Tryz.prog 89 [fdA r h f] (.fn (.func 143) [] [.iptr (fdC r h f)]) := by
  refine ap Tryz.func89 (fun e0 he0 => ?_)
  refine vz 2 ?_
  refine sq_nil ?_
  refine aw_seq ?_
  refine aw_sub (sub_iptrK [0, 2] 1 (j := 0) (l := fdC r h f) rfl rfl) ?_
  refine wz 2 ?_
  exact retQ_pure (v := .fn _ _ _) rfl rfl jz
theorem appseq_pure {l : List Rt} (hl : l.length ≤ 1000000) {F : FuncId} {caps : List AV} (en : Ent Tryz.prog F) (hit : AIter2 Tryz.prog F [] caps (rtsA l)) (hp : AV.pureL caps = true) : APure Tryz.prog 168 [.raw (.slice none 0 0), .fn (.func F) [] caps] (.sl 2 (l.map rtC)) := by
  refine apure_of_marks (rs := [.tmp 4]) Tryz.func168 rfl rfl (Nat.le_of_ble_eq_true rfl) (by simp [AV.pureL, AV.pureB, hp]) (by simp [AV.pureB]) fun e0 he0 => ?_
  refine vz 3 ?_
  refine sq_nil ?_
  refine aw_block ?_
  refine aw_sub (sub_token_box 0 2 rfl) ?_
  refine nz ?_
  refine aw_rangeFuncQ [2] (xs := rtsA l) (cl := clOf) (fun k => [.cells [.own 1 2 ((l.take k).map rtC)], .tok ((l.take k).map rtC).length]) ((rtsA l).length) (none) (Nat.le_refl _) (fun _ => rfl) (fun h => absurd rfl h) rfl (enters_outer rfl) dd_in jz en (hit) (rfl) (fun _ => rfl) (fun k hk => by simp [objsIn, AObj.inB, AV.inB, AV.inL, inE_rts, -List.map_take]) (fun x hx => rtsA_pure hx) rfl rfl (by decide) rfl rfl z120.h rfl ty120.h (fun x hx => rtsA_cl _ hx) (by decide) (rfl) ?_ ?_
  ·intro q i x e2 hi hx he2 hlp hce
   obtain ⟨hk, rfl⟩ := rtsA_get hx
   have eS : ((l.take (i + 1)).map rtC) = ((l.take i).map rtC) ++ [rtC l[i]] := by rw [List.take_succ_eq_append_getElem hk, List.map_append]; rfl
   refine nz ?_
   refine wz 2 ?_
   refine sq_ev rfl (ev_buildSlice (es := [[_, _]]) sf142.h rfl rfl rfl rfl) ?_
   first | refine sq_append rfl sf142.h Tryz.underlying142 rfl rfl jz (Nat.succ_pos _) (by simp; omega) (by simp; omega) ?_ | refine sq_append rfl sf142.h Tryz.underlying142 rfl rfl (less_slx _ _) (Nat.succ_pos _) (by simp; omega) (by simp; omega) ?_
   refine wz 1 ?_
   exact ⟨⟨[], (congrArg (fun L => [AObj.cells [.own 1 2 L], .tok L.length]) eS.symm).trans (List.append_nil _).symm⟩, rfl, by split <;> rfl⟩
  ·rintro _ rfl
   have hfull : (rtsA l).length = l.length := by simp
   rw [hfull, List.take_length]
   refine nz ?_
   refine wz 2 ?_
   exact retQM_pure (v := .own _ _ _) rfl rfl (less_own _ _ _)
theorem collect_pure {l : List Rt} (hl : l.length ≤ 1000000) {F : FuncId} {caps : List AV} (en : Ent Tryz.prog F) (hit : AIter2 Tryz.prog F [] caps (rtsA l)) (hp : AV.pureL caps = true) : APure Tryz.prog 147 [.fn (.func F) [] caps] (.sl 2 (l.map rtC)) := by
  refine ap Tryz.func147 (fun e0 he0 => ?_) (hp := by simp [AV.pureL, AV.pureB, hp])
  refine wz 2 ?_
  refine kz az (appseq_pure hl en hit hp) ?_
  refine wz 1 ?_
  exact retQ_pure (v := .sl _ _) rfl rfl jz
end Go.Proofs.YtjpokekbjmdgmaaGreatDoor
namespace Go.Proofs.YtjpokekbjmdgmaaGreatDoor
open Go Go.Ab Ni Hd
instance bi115 : BdI Tryz.prog 115 [.raw (.slice none 0 0), .raw (.slice none 0 0), .raw (.int .i64 0), .raw (.int .i64 0), .raw (.int .i64 0), .raw (.int .i64 0), .raw (.int .i64 0), .raw (.int .i64 0), .raw (.int .i64 0), .raw (.slice none 0 0)] true [(0, 8), (8, 1), (9, 1)] 0 := ⟨by kernel_rfl⟩
instance en145 : EnT Tryz.prog 145 := ⟨Ent.of Tryz.func145 (by kernel_rfl) rfl⟩
instance en78 : EnT Tryz.prog 78 := ⟨Ent.of Tryz.func78 (by kernel_rfl) rfl⟩
instance en79 : EnT Tryz.prog 79 := ⟨Ent.of Tryz.func79 (by kernel_rfl) rfl⟩
instance en80 : EnT Tryz.prog 80 := ⟨Ent.of Tryz.func80 (by kernel_rfl) rfl⟩
instance en84 : EnT Tryz.prog 84 := ⟨Ent.of Tryz.func84 (by kernel_rfl) rfl⟩
instance en85 : EnT Tryz.prog 85 := ⟨Ent.of Tryz.func85 (by kernel_rfl) rfl⟩
instance en91 : EnT Tryz.prog 91 := ⟨Ent.of Tryz.func91 (by kernel_rfl) rfl⟩
instance en92 : EnT Tryz.prog 92 := ⟨Ent.of Tryz.func92 (by kernel_rfl) rfl⟩
instance en96 : EnT Tryz.prog 96 := ⟨Ent.of Tryz.func96 (by kernel_rfl) rfl⟩
instance fo131_1 : FoF Tryz.prog 131 1 2 28 := ⟨by kernel_rfl⟩
instance sf36 : SlS Tryz.prog 36 25 2 16 := ⟨SlFact.of (by kernel_rfl)⟩
instance sl126 : SlE Tryz.prog 126 131 3 := ⟨by kernel_rfl⟩
instance ty131 : TyF Tryz.prog 131 true 3 := ⟨by kernel_rfl⟩
instance ty30 : TyF Tryz.prog 30 true 2 := ⟨by kernel_rfl⟩
instance ud36 : UnD Tryz.prog 36 (.slice 25) := ⟨Tryz.underlying36⟩
instance z115 : ZeO Tryz.prog 115 [.raw (.slice none 0 0), .raw (.slice none 0 0), .raw (.int .i64 0), .raw (.int .i64 0), .raw (.int .i64 0), .raw (.int .i64 0), .raw (.int .i64 0), .raw (.int .i64 0), .raw (.int .i64 0), .raw (.slice none 0 0)] := ⟨by kernel_rfl⟩
instance z131 : ZeO Tryz.prog 131 [.raw (.int .i64 0), .raw (.int .i64 0), .raw (.slice none 0 0)] := ⟨by kernel_rfl⟩
abbrev nmC (c : Rt → List Int) (x : Rt) : List AV := [I x.a, I x.b, ints (c x)]
abbrev nms (c : Rt → List Int) (l : List Rt) : AV := .sl 3 (l.map (nmC c))
@[simp] theorem inE_nms (n : Nat) (c : Rt → List Int) (l : List Rt) : AV.inE n (l.map (nmC c)) = true := inE_map fun x _ => by simp [AV.inL, AV.inB]
@[simp] theorem pureE_nms (c : Rt → List Int) (l : List Rt) : AV.pureE (l.map (nmC c)) = true := pureE_map fun x _ => by simp [AV.pureL, AV.pureB]
@[simp] theorem inE_nmst (n : Nat) (c : Rt → List Int) (l : List Rt) : AV.inE n (l.map (nmC c)).tail = true := by rw [← List.map_tail]; exact inE_nms n c _
def rdF (r : Rg) (m : Nat) : FuncId := if kd r m = 1 then 108 else 109
theorem rd_at {r : Rg} (gB : RgB r) {m : Nat} (hm : m < r.kinds.length) : ([AV.fn (.func 108) [] [], .fn (.func 109) [] []] : List AV)[kp r m * 1]? = some (.fn (.func (rdF r m)) [] []) := by
  unfold rdF
  rcases kp_cases gB hm with ⟨e1, e2⟩ | ⟨e1, e2⟩ <;> rw [e1, e2] <;> rfl
theorem rd_ent (r : Rg) (m : Nat) : Ent Tryz.prog (rdF r m) := by unfold rdF; split; exact en108.h; exact en109.h
theorem rd_call (r : Rg) (m : Nat) (x : Rt) : APure Tryz.prog (rdF r m) [rtA x] (I (rm r x m)) := by unfold rdF rm; split; exact along_pure x; exact across_pure x
theorem kd_kp {r : Rg} (gB : RgB r) {m : Nat} (hm : m < r.kinds.length) : r.kinds[m] - 1 = (kp r m : Int) ∧ kp r m < 2 := by
  rw [← kd_at hm]
  rcases kp_cases gB hm with ⟨e1, e2⟩ | ⟨e1, e2⟩ <;> rw [e1, e2] <;> simp
theorem check_pure (r : Rg) (hk : r.kinds.length ≤ 1000000) (hh : r.hides.length ≤ 1000000) (hw : ∀ h ∈ r.hides, h.length ≤ 1000000) : APure Tryz.prog 57 [rgA r] (I (er (rgOK r))) := by
  refine ap Tryz.func57 (fun e0 he0 => ?_)
  refine wz 3 ?_
  refine kz az (isregister_pure r hk hh hw) ?_
  refine wz 1 ?_
  refine iz (fun c_5 c_5' => ?_) (fun c_5 c_5' => ?_)
  ·refine wz 1 ?_
   exact rz rfl (Less.eq (by simp [er, *]))
  refine wz 1 ?_
  exact rz rfl (Less.eq (by simp [er, *]))
theorem warped_ok {r : Rg} {h : Nat} {x : Rt} (hk : r.kinds.length ≤ 1000000) (hh : r.hides.length ≤ 1000000) (hw : ∀ h ∈ r.hides, h.length ≤ 1000000) (ho : okW r h x = true) : APure Tryz.prog 26 [rgA r, I h, rtA x] (.tup [spans (warpOf r h x), I 0]) := by
  refine ap Tryz.func26 (fun e0 he0 => ?_)
  refine vz 4 ?_
  refine sq_nil ?_
  refine aw_seq ?_
  refine aw_seq ?_
  obtain ⟨gB, ⟨k0, hk0, hhl⟩, hx⟩ := okW_facts ho
  obtain rfl : h = k0 := by omega
  refine wz 1 ?_
  refine kz az (isregister_pure r hk hh hw) ?_
  refine wz 2 ?_
  refine sz 14 (fun g1_3 g1_3' => ?_) (fun g1_3 g1_3' => ?_)
  ·exfalso
   revert ho
   unfold okW
   simp_all
  refine wz 2 ?_
  refine ky az (ishide_pure r h hh) ?_
  refine wz 3 ?_
  refine sz 20 (fun g1_9 g1_9' => ?_) (fun g1_9 g1_9' => ?_)
  ·exfalso
   revert ho
   unfold okW
   simp_all
  refine wz 2 ?_
  refine ky az (israted_pure r x) ?_
  refine wz 2 ?_
  refine iz (fun c_25 c_25' => ?_) (fun c_25 c_25' => ?_)
  ·exfalso
   revert ho
   unfold okW
   simp_all
  refine vz 10 ?_
  refine sq_nil ?_
  refine aw_block ?_
  refine aw_sub (sub_token 9 2 jz) ?_
  refine aw_loopk (ι := { k : Nat // k ≤ r.kinds.length }) [3, 5, 8, 31] (fun i => [(32, I i.1), (9, .own 3 2 ((warpK r h x i.1).map fun s => [I s.1, I s.2]))]) (fun H i => H.set 3 (.tok ((warpK r h x i.1).map fun s => [I s.1, I s.2]).length)) (fun i => r.kinds.length - i.1) (⟨0, Nat.zero_le _⟩) ⟨jz, jz, jz, jz, jz, jz, trivial⟩ rfl ?_
  rintro ⟨m, hm⟩
  refine nz ?_
  have hwl := warpK_len r h x m
  have hnk := gB.nk
  refine wz 1 ?_
  refine iz (fun c_33 c_33' => ?_) (fun c_33 c_33' => ?_)
  ·have hml : m < r.kinds.length := by omega
   have eS : ((warpK r h x (m + 1)).map fun s => [I s.1, I s.2]) = ((warpK r h x m).map fun s => [I s.1, I s.2]) ++ [[I (lom r h m x), I (him r h m x)]] := by rw [warpK_succ, List.map_append]; rfl
   refine wz 2 ?_
   refine aw_draw 15 mo (by kernel_rfl) ?_
   refine dz 3 ?_
   refine dkz az (reading_pure) ?_
   refine dz 5 ?_
   refine dkz az (kind_pure _ (by have := gB.kd m hml; rw [kd_at hml] at this; omega)) ?_
   refine dr_ev rfl (ev_indexv (k := kp r m) ar117.h ty116.h jz jz (kd_kp gB hml).1 (kd_kp gB hml).2 (rd_at gB hml)) ?_
   refine dz 1 ?_
   refine dr_ev rfl (ev_call (rd_ent r m) jz (rd_call r m _) ⟨jz, trivial⟩) ?_
   refine dr_ev rfl (ev_call en81.h jz (unchanged_pure (f := []) gB hhl hml (rm_bd gB hx m)) ⟨less_agg ⟨jz, jz, jz, jz, jz, jz, jz, jz, jz, less_nil 1, trivial⟩, jz, jz, trivial⟩) ?_
   refine dr_ev rfl (ev_buildSlice (es := [[_, _]]) sf36.h rfl rfl rfl rfl) ?_
   refine dr_end ?_
   first | refine sq_append rfl sf36.h Tryz.underlying36 rfl rfl jz (Nat.succ_pos _) (by simp; omega) (by simp; omega) ?_ | refine sq_append rfl sf36.h Tryz.underlying36 rfl rfl (less_slx _ _) (Nat.succ_pos _) (by simp; omega) (by simp; omega) ?_
   refine wz 3 ?_
   exact ⟨⟨m + 1, by omega⟩, by simp only; omega, sb 4 ⟨jz, Less.eq (by rw [eS] <;> rfl), jz, jz, jz, jz, trivial⟩ (hH := (congrArg (fun n => [_, _, _, AObj.tok n]) (congrArg List.length eS.symm)))⟩
  obtain rfl : m = r.kinds.length := by omega
  refine wz 3 ?_
  exact retQ_pure (v := .tup [.own _ _ _, .raw _]) rfl rfl (less_tup ⟨less_own _ _ _, jz, trivial⟩)
theorem finding_pure (r : Rg) (n : Int) (f : List Int) (hk : r.kinds.length ≤ 1000000) (hh : r.hides.length ≤ 1000000) (hw : ∀ h ∈ r.hides, h.length ≤ 1000000) (hl : f.length ≤ 1000000) : APure Tryz.prog 84 [rgA r, I n, ints f] (.tup [fdA r n f, B (okF r n f)]) := by
  refine ap Tryz.func84 (fun e0 he0 => ?_) (hr := by simp [AV.pureL, AV.pureB])
  refine wz 3 ?_
  refine aw_drawc [] [16] _ mo (by kernel_rfl) (HSub.mask [1] 0 _) ?_
  first | refine dc_ev rfl (ev_load_agg jz rfl ty27.h rfl) ?_ | refine dc_ev rfl (ev_load_agg_i jz ty27.h (by exact Nat.le_of_ble_eq_true rfl)) ?_
  refine dc_ev rfl (ev_mv (v := .raw _) jz) ?_
  first | refine dc_ev rfl (ev_mv (v := .sl _ _) jz) ?_ | refine dc_ev rfl (ev_mv (v := .own _ _ _) jz) ?_ | refine dc_ev rfl (ev_mv (v := .raw _) jz) ?_ | refine dc_ev rfl (ev_mv (v := .slx _ _) jz) ?_ | refine dc_ev rfl (ev_mv (v := .msl _ _ _ _) jz) ?_
  refine dc_ev rfl (ev_build bi115.h rfl) ?_
  first | refine dc_ev rfl (ev_load_agg jz rfl ty27.h rfl) ?_ | refine dc_ev rfl (ev_load_agg_i jz ty27.h (by exact Nat.le_of_ble_eq_true rfl)) ?_
  refine dc_ev rfl (ev_call en78.h jz (isregister_pure r hk hh hw) ⟨jz, trivial⟩) ?_
  refine dc_ev rfl (ev_mv (v := .raw _) jz) ?_
  refine dc_split 14 jz (fun g1_6 => ?_) (fun g1_6 => ?_)
  ·have g1_6' := g1_6
   try simp only [decide_eq_true_eq, decide_eq_false_iff_not, Bool.not_eq_true', Bool.not_eq_false', Bool.and_eq_true, Bool.or_eq_true, Bool.and_eq_false_iff, Bool.or_eq_false_iff, Bool.not_true, Bool.not_false, List.length_map, ne_eq, Decidable.not_not] at g1_6'
   first | refine dc_yes rfl rfl (less_b g1_6) rfl (ev_load_agg jz rfl ty27.h rfl) ?_ | refine dc_yes rfl rfl (less_b g1_6) rfl (ev_load_agg_i jz ty27.h (by exact Nat.le_of_ble_eq_true rfl)) ?_
   refine dc_yes rfl rfl (less_b g1_6) rfl (ev_mv (v := .raw _) jz) ?_
   refine dc_yes rfl rfl (less_b g1_6) rfl (ev_call en79.h jz (ishide_pure r n hh) ⟨jz, jz, trivial⟩) ?_
   refine dc_ev rfl (ev_pickT (v := .raw _) (less_b g1_6) jz) ?_
   refine dc_ev rfl (ev_mv (v := .raw _) jz) ?_
   refine dc_split 19 jz (fun g1_11 => ?_) (fun g1_11 => ?_)
   ·have g1_11' := g1_11
    try simp only [decide_eq_true_eq, decide_eq_false_iff_not, Bool.not_eq_true', Bool.not_eq_false', Bool.and_eq_true, Bool.or_eq_true, Bool.and_eq_false_iff, Bool.or_eq_false_iff, Bool.not_true, Bool.not_false, List.length_map, ne_eq, Decidable.not_not] at g1_11'
    first | refine dc_yes rfl rfl (less_b g1_11) rfl (ev_load_agg jz rfl ty27.h rfl) ?_ | refine dc_yes rfl rfl (less_b g1_11) rfl (ev_load_agg_i jz ty27.h (by exact Nat.le_of_ble_eq_true rfl)) ?_
    first | refine dc_yes rfl rfl (less_b g1_11) rfl (ev_mv (v := .sl _ _) jz) ?_ | refine dc_yes rfl rfl (less_b g1_11) rfl (ev_mv (v := .own _ _ _) jz) ?_ | refine dc_yes rfl rfl (less_b g1_11) rfl (ev_mv (v := .raw _) jz) ?_ | refine dc_yes rfl rfl (less_b g1_11) rfl (ev_mv (v := .slx _ _) jz) ?_ | refine dc_yes rfl rfl (less_b g1_11) rfl (ev_mv (v := .msl _ _ _ _) jz) ?_
    refine dc_yes rfl rfl (less_b g1_11) rfl (ev_call en96.h jz (isfind_pure r f hl) ⟨jz, jz, trivial⟩) ?_
    refine dc_ev rfl (ev_pickT (v := .raw _) (less_b g1_11) jz) ?_
    refine dc_eff rfl rfl (eff_store rfl jz jz rfl rfl ty115.h rfl rfl) (by apply HL.sub; repeat' (first | exact HL.nil _ | apply HL.same | apply HL.tok)) ?_
    refine dc_ev rfl (ev_as (v := .raw _) jz) ?_
    refine dc_nil ?_
    refine wz 0 ?_
    exact retQ_res (vs := [.agg _, .raw _]) rfl rfl ⟨resVar_cell rfl rfl ty115.h rfl, resVar_tmp _ _ _, trivial⟩ (less_tup ⟨jz, (by exact less_b (by unfold okF; simp [*])), trivial⟩)
   have g1_11' := g1_11
   try simp only [decide_eq_true_eq, decide_eq_false_iff_not, Bool.not_eq_true', Bool.not_eq_false', Bool.and_eq_true, Bool.or_eq_true, Bool.and_eq_false_iff, Bool.or_eq_false_iff, Bool.not_true, Bool.not_false, List.length_map, ne_eq, Decidable.not_not] at g1_11'
   refine dc_no rfl rfl (less_b g1_11) rfl rfl ?_
   refine dc_no rfl rfl (less_b g1_11) rfl rfl ?_
   refine dc_no rfl rfl (less_b g1_11) rfl rfl ?_
   refine dc_ev rfl (ev_pickF (v := .raw _) (less_b g1_11) jz) ?_
   refine dc_eff rfl rfl (eff_store rfl jz jz rfl rfl ty115.h rfl rfl) (by apply HL.sub; repeat' (first | exact HL.nil _ | apply HL.same | apply HL.tok)) ?_
   refine dc_ev rfl (ev_as (v := .raw _) jz) ?_
   refine dc_nil ?_
   refine wz 0 ?_
   exact retQ_res (vs := [.agg _, .raw _]) rfl rfl ⟨resVar_cell rfl rfl ty115.h rfl, resVar_tmp _ _ _, trivial⟩ (less_tup ⟨jz, (by exact less_b (by unfold okF; simp [*])), trivial⟩)
  have g1_6' := g1_6
  try simp only [decide_eq_true_eq, decide_eq_false_iff_not, Bool.not_eq_true', Bool.not_eq_false', Bool.and_eq_true, Bool.or_eq_true, Bool.and_eq_false_iff, Bool.or_eq_false_iff, Bool.not_true, Bool.not_false, List.length_map, ne_eq, Decidable.not_not] at g1_6'
  refine dc_no rfl rfl (less_b g1_6) rfl rfl ?_
  refine dc_no rfl rfl (less_b g1_6) rfl rfl ?_
  refine dc_no rfl rfl (less_b g1_6) rfl rfl ?_
  refine dc_ev rfl (ev_pickF (v := .raw _) (less_b g1_6) jz) ?_
  refine dc_ev rfl (ev_mv (v := .raw _) jz) ?_
  refine dc_no rfl rfl jz rfl rfl ?_
  refine dc_no rfl rfl jz rfl rfl ?_
  refine dc_no rfl rfl jz rfl rfl ?_
  refine dc_ev rfl (ev_pickF (v := .raw _) jz jz) ?_
  refine dc_eff rfl rfl (eff_store rfl jz jz rfl rfl ty115.h rfl rfl) (by apply HL.sub; repeat' (first | exact HL.nil _ | apply HL.same | apply HL.tok)) ?_
  refine dc_ev rfl (ev_as (v := .raw _) jz) ?_
  refine dc_nil ?_
  refine wz 0 ?_
  exact retQ_res (vs := [.agg _, .raw _]) rfl rfl ⟨resVar_cell rfl rfl ty115.h rfl, resVar_tmp _ _ _, trivial⟩ (less_tup ⟨jz, (by exact less_b (by unfold okF; simp [*])), trivial⟩)
theorem changes_ok {r : Rg} {h : Nat} {f : List Int} (hk : r.kinds.length ≤ 1000000) (hh : r.hides.length ≤ 1000000) (hw : ∀ h ∈ r.hides, h.length ≤ 1000000) (hl : f.length ≤ 1000000) {x : Rt} (ho : okC r h f x = true) : APure Tryz.prog 27 [rgA r, I h, ints f, rtA x] (.tup [ints (chA r h f x), I 0]) := by
  refine ap Tryz.func27 (fun e0 he0 => ?_)
  refine vz 4 ?_
  refine sq_nil ?_
  refine aw_seq ?_
  obtain ⟨ho1, hx⟩ : okF r h f = true ∧ rtOK r x = true := by simpa [okC] using ho
  obtain ⟨gB, ⟨k0, hk0, hhl⟩, hfl, hrg, hfd⟩ := okF_facts ho1
  obtain rfl : h = k0 := by omega
  refine wz 3 ?_
  refine kz az (finding_pure r h f hk hh hw hl) ?_
  refine wz 9 ?_
  refine sz 21 (fun g2_2 g2_2' => ?_) (fun g2_2 g2_2' => ?_)
  ·exfalso
   revert ho
   unfold okC
   simp_all
  refine wz 2 ?_
  refine ky az (israted_pure r x) ?_
  refine wz 2 ?_
  refine iz (fun c_26 c_26' => ?_) (fun c_26 c_26' => ?_)
  ·exfalso
   revert ho
   unfold okC
   simp_all
  refine wz 2 ?_
  refine kz az (all_pure gB hhl hx hfl) ?_
  refine wz 2 ?_
  exact retQ_pure (v := .tup [.sl _ _, .raw _]) rfl rfl (less_tup ⟨jz, jz, trivial⟩)
theorem fewest_ok {r : Rg} {h : Nat} {f : List Int} (hk : r.kinds.length ≤ 1000000) (hh : r.hides.length ≤ 1000000) (hw : ∀ h ∈ r.hides, h.length ≤ 1000000) (hl : f.length ≤ 1000000) (ho : okF r h f = true) : APure Tryz.prog 31 [rgA r, I h, ints f] (.tup [I (fews r h f), I 0]) := by
  refine ap Tryz.func31 (fun e0 he0 => ?_)
  refine vz 3 ?_
  refine sq_nil ?_
  refine aw_seq ?_
  obtain ⟨gB, ⟨k0, hk0, hhl⟩, hfl, hrg, hfd⟩ := okF_facts ho
  obtain rfl : h = k0 := by omega
  refine wz 3 ?_
  refine kz az (finding_pure r h f hk hh hw hl) ?_
  refine wz 8 ?_
  refine iz (fun c_18 c_18' => ?_) (fun c_18 c_18' => ?_)
  ·exfalso
   simp_all
  refine wz 1 ?_
  refine kz az (least_pure gB hhl hfl) ?_
  refine wz 2 ?_
  exact retQ_pure (v := .tup [.raw _, .raw _]) rfl rfl (less_tup ⟨jz, jz, trivial⟩)
theorem ccmp_pure (x y : Int) : APure Tryz.prog 145 [I x, I y] (I (if x < y then -1 else if y < x then 1 else 0)) := by
  refine ap Tryz.func145 (fun e0 he0 => ?_)
  refine wz 2 ?_
  refine kz az (isnan_pure _) ?_
  refine wz 2 ?_
  refine kz az (isnan_pure _) ?_
  refine wz 8 ?_
  refine iz (fun c_16 c_16' => ?_) (fun c_16 c_16' => ?_)
  ·refine wz 1 ?_
   exact rz rfl (Less.eq (by first | (rw [if_pos (by omega)]; done) | (rw [if_neg (by omega), if_pos (by omega)]; done) | (rw [if_neg (by omega), if_neg (by omega)]; done)))
  refine wz 3 ?_
  refine iz (fun c_19 c_19' => ?_) (fun c_19 c_19' => ?_)
  ·refine wz 1 ?_
   exact rz rfl (Less.eq (by first | (rw [if_pos (by omega)]; done) | (rw [if_neg (by omega), if_pos (by omega)]; done) | (rw [if_neg (by omega), if_neg (by omega)]; done)))
  refine wz 1 ?_
  exact rz rfl (Less.eq (by first | (rw [if_pos (by omega)]; done) | (rw [if_neg (by omega), if_pos (by omega)]; done) | (rw [if_neg (by omega), if_neg (by omega)]; done)))
theorem compare_pure (a b : List Int) (hab : a.length = b.length) (hl : a.length ≤ 1000000) : APure Tryz.prog 92 [ints a, ints b] (I (cmpZ a b)) := by
  refine ap Tryz.func92 (fun e0 he0 => ?_)
  refine wz 4 ?_
  refine aw_loopk (ι := { k : Nat // k ≤ a.length ∧ ∀ i, (h1 : i < a.length) → (h2 : i < b.length) → i < k → a[i] = b[i] }) [0, 1, 9, 10] (fun i => [(11, I i.1)]) (fun H i => H) (fun i => a.length - i.1) (⟨0, Nat.zero_le _, by omega⟩) ⟨jz, jz, jz, jz, jz, trivial⟩ rfl ?_
  rintro ⟨k, hk, hok⟩
  refine nz ?_
  refine wz 1 ?_
  refine iz (fun c_12 c_12' => ?_) (fun c_12 c_12' => ?_)
  ·have hka : k < a.length := by omega
   have hkb : k < b.length := by omega
   refine wz 9 ?_
   refine iz (fun c_19 c_19' => ?_) (fun c_19 c_19' => ?_)
   ·exfalso
    omega
   refine wz 7 ?_
   refine kz az (ccmp_pure _ _) ?_
   refine wz 3 ?_
   refine iz (fun c_28 c_28' => ?_) (fun c_28 c_28' => ?_)
   ·have hne : a[k] ≠ b[k] := fun e => by rw [e] at c_28'; simp at c_28'
    refine wz 2 ?_
    exact rz rfl (Less.eq (by rw [cmpZ_diff hka hkb (fun i hi => hok i (by omega) (by omega) hi) hne]; by_cases q : a[k] < b[k]; (simp [q]); (have q2 : b[k] < a[k] := (by omega); simp [q, q2])))
   have heq : a[k] = b[k] := by rcases Int.lt_trichotomy a[k] b[k] with q | q | q <;> first | exact q | (exfalso; rw [if_pos q] at c_28'; simp at c_28'; done) | (exfalso; rw [if_neg (by omega), if_pos q] at c_28'; simp at c_28'; done)
   refine wz 2 ?_
   exact ⟨⟨k + 1, by omega, fun i h1 h2 hi => (by by_cases e : i = k; (subst e; exact heq); exact hok i h1 h2 (by omega))⟩, by simp only; omega, Sub.slots ⟨jz, jz, jz, jz, jz, trivial⟩⟩
  have hall : a = b := List.ext_getElem hab fun i h1 h2 => hok i h1 h2 (by omega)
  refine wz 5 ?_
  refine iz (fun c_35 c_35' => ?_) (fun c_35 c_35' => ?_)
  ·exfalso
   omega
  refine wz 1 ?_
  exact rz rfl (Less.eq (by subst hall; rw [cmpZ_same]))
theorem named1_pure (c : Rt → List Int) (x y : Rt) (hx : (c x).length ≤ 1000000) (hy : (c y).length ≤ 1000000) : APure Tryz.prog 91 [.agg (nmC c x), .agg (nmC c y)] (B (soon (c x) (c y))) := by
  refine ap Tryz.func91 (fun e0 he0 => ?_)
  refine wz 11 ?_
  refine sz 12 (fun g1_7 g1_7' => ?_) (fun g1_7 g1_7' => ?_)
  ·have k1 : (c x).length < (c y).length := by omega
   refine wz 17 ?_
   exact rz rfl (Less.eq (by unfold soon; first | (simp [*]; done) | (rw [cmpZ_lt]; simp [*])))
  have k1 : ¬ (c x).length < (c y).length := by omega
  refine wz 8 ?_
  refine sz 20 (fun g1_15 g1_15' => ?_) (fun g1_15 g1_15' => ?_)
  ·have k2 : (c x).length = (c y).length := by omega
   refine wz 4 ?_
   refine sq_yes rfl rfl (less_b g1_15) rfl (ev_call en92.h jz (compare_pure (c x) (c y) (by omega) hx) ⟨jz, jz, trivial⟩) ?_
   refine wz 4 ?_
   exact rz rfl (Less.eq (by unfold soon; first | (simp [*]; done) | (rw [cmpZ_lt]; simp [*])))
  have k2 : ¬ (c x).length = (c y).length := by omega
  refine wz 9 ?_
  exact rz rfl (Less.eq (by unfold soon; first | (simp [*]; done) | (rw [cmpZ_lt]; simp [*])))
theorem bestn_pure (c : Rt → List Int) (l : List Rt) (h0 : 0 < l.length) (hm : l.length ≤ 1000000) (hc : ∀ x ∈ l, (c x).length ≤ 1000000) : APure Tryz.prog 90 [nms c l, .fn (.func 91) [] []] (.agg (nmC c (bestL c l))) := by
  refine ap Tryz.func90 (fun e0 he0 => ?_)
  refine wz 2 ?_
  refine sq_ev rfl (ev_index_map (k := 0) sl126.h jz jz rfl h0) ?_
  refine wz 4 ?_
  refine sq_ev rfl (ev_less (ev_slice (lo := 1) (hi := l.length) sl126.h jz jz (by simp) (by omega) (by simp)) (Less.eq (b := nms c (l.drop 1)) (by rw [List.take_of_length_le (by simp)]; simp only [nms, List.map_drop]))) ?_
  refine wz 2 ?_
  refine aw_loopk (ι := { k : Nat // k + 1 ≤ l.length ∧ bstK c l k ∈ l }) [1, 4, 5, 12, 13] (fun i => [(14, I i.1)]) (fun H i => H.set 1 (.cells (nmC c (bstK c l i.1)))) (fun i => l.length - i.1) (⟨0, by omega, by rw [bstK_0 h0]; exact List.getElem_mem h0⟩) ⟨jz, jz, jz, jz, jz, jz, trivial⟩ (by rw [bstK_0 h0]; rfl) ?_
  rintro ⟨k, hk, hkm⟩
  refine nz ?_
  refine wz 1 ?_
  refine iz (fun c_15 c_15' => ?_) (fun c_15 c_15' => ?_)
  ·have hkl : k + 1 < l.length := by simp at c_15'; omega
   refine wz 0 ?_
   refine sq_ev rfl (ev_less (ev_index_map (k := k) (xs := l.drop 1) sl126.h jz jz rfl (by simp; omega)) (Less.eq (b := .iptr (nmC c l[k + 1])) (by simp [List.getElem_drop, Nat.add_comm]))) ?_
   refine wz 6 ?_
   refine sq_ev rfl (ev_call en91.h jz (named1_pure c l[k + 1] (bstK c l k) (hc _ (List.getElem_mem hkl)) (hc _ hkm)) ⟨jz, jz, trivial⟩) ?_
   refine wz 0 ?_
   refine iz (fun c_21 c_21' => ?_) (fun c_21 c_21' => ?_)
   ·have hkn := List.getElem_mem hkl
    have eB : bstK c l (k + 1) = l[k + 1] := by rw [bstK_succ hkl]; unfold bst; rw [if_pos c_21]
    refine wz 4 ?_
    exact ⟨⟨k + 1, by omega, by rw [eB]; assumption⟩, by simp only; omega, sb 2 ⟨jz, jz, jz, jz, jz, jz, trivial⟩ (hH := (by rw [eB]; rfl))⟩
   have hkn := hkm
   have eB : bstK c l (k + 1) = bstK c l k := by rw [bstK_succ hkl]; unfold bst; rw [if_neg (by rw [c_21]; simp)]
   refine wz 2 ?_
   exact ⟨⟨k + 1, by omega, by rw [eB]; assumption⟩, by simp only; omega, sb 2 ⟨jz, jz, jz, jz, jz, jz, trivial⟩ (hH := (by rw [eB]; rfl))⟩
  obtain rfl : k = l.length - 1 := by simp at c_15'; omega
  refine wz 2 ?_
  exact retQ_res (vs := [.agg _]) rfl rfl ⟨resVar_cell rfl rfl ty131.h rfl, trivial⟩ (Less.eq (by rw [← bstK_all h0]; rfl))
end Go.Proofs.YtjpokekbjmdgmaaGreatDoor
namespace Go.Proofs.YtjpokekbjmdgmaaGreatDoor
open Go Go.Ab Ni Hd
instance bi131 : BdI Tryz.prog 131 [.raw (.int .i64 0), .raw (.int .i64 0), .raw (.slice none 0 0)] true [(0, 2), (2, 1)] 0 := ⟨by kernel_rfl⟩
instance bi30 : BdI Tryz.prog 30 [.raw (.int .i64 0), .raw (.int .i64 0)] true [(0, 1), (1, 1)] 0 := ⟨by kernel_rfl⟩
instance en102 : EnT Tryz.prog 102 := ⟨Ent.of Tryz.func102 (by kernel_rfl) rfl⟩
instance en103 : EnT Tryz.prog 103 := ⟨Ent.of Tryz.func103 (by kernel_rfl) rfl⟩
instance en143 : EnT Tryz.prog 143 := ⟨Ent.of Tryz.func143 (by kernel_rfl) rfl⟩
instance en147 : EnT Tryz.prog 147 := ⟨Ent.of Tryz.func147 (by kernel_rfl) rfl⟩
instance en89 : EnT Tryz.prog 89 := ⟨Ent.of Tryz.func89 (by kernel_rfl) rfl⟩
instance en90 : EnT Tryz.prog 90 := ⟨Ent.of Tryz.func90 (by kernel_rfl) rfl⟩
instance fo131_0 : FoF Tryz.prog 131 0 0 120 := ⟨by kernel_rfl⟩
instance sf126 : SlS Tryz.prog 126 131 3 40 := ⟨SlFact.of (by kernel_rfl)⟩
instance ty126 : TyF Tryz.prog 126 false 1 := ⟨by kernel_rfl⟩
instance ud126 : UnD Tryz.prog 126 (.slice 131) := ⟨Tryz.underlying126⟩
instance z126 : ZeO Tryz.prog 126 [.raw (.slice none 0 0)] := ⟨by kernel_rfl⟩
instance z30 : ZeO Tryz.prog 30 [.raw (.int .i64 0), .raw (.int .i64 0)] := ⟨by kernel_rfl⟩
section
theorem retQM_res {P : Program} {rs : List ResultVar} {res : AV} {vs : List AV} {s : St} {H' : List AObj} (hm : takeMarks s.H s.df = some H') (hlen : Nat.ble rs.length 3 = true) (hv : ResL P { s with H := H' } rs vs) (hl : Less (resTup vs) res) :
    retQM P rs (fun x _ => ∃ v, x = .ret v ∧ Less v res) .ret s := retQM_pure hm (resAV_of (Nat.le_of_ble_eq_true hlen) hv) hl
end
theorem chA_le {r : Rg} (gB : RgB r) (h : Nat) (f : List Int) (x : Rt) : (chA r h f x).length ≤ 1000000 := by
  have h1 := nums_len (fun m => chB r h f (rm r x m) m) r.kinds.length
  have := gB.nk
  have : (chA r h f x).length ≤ r.kinds.length := h1
  omega
def mnK (l : List Int) (k : Nat) : Int := ((l.take k).drop 1).foldl min (l.headD 0)
def mxK (l : List Int) (k : Nat) : Int := ((l.take k).drop 1).foldl max (l.headD 0)
theorem mnK_1 {l : List Int} (h : 0 < l.length) : mnK l 1 = l[0] := by cases l with
  | nil => simp at h
  | cons a l => simp [mnK]
theorem mxK_1 {l : List Int} (h : 0 < l.length) : mxK l 1 = l[0] := by cases l with
  | nil => simp at h
  | cons a l => simp [mxK]
theorem mnK_succ {l : List Int} {k : Nat} (h1 : 1 ≤ k) (h : k < l.length) : mnK l (k + 1) = min (mnK l k) l[k] := by
  unfold mnK; rw [List.take_succ_eq_append_getElem h, List.drop_append_of_le_length (by rw [List.length_take]; omega), List.foldl_append]; rfl
theorem mxK_succ {l : List Int} {k : Nat} (h1 : 1 ≤ k) (h : k < l.length) : mxK l (k + 1) = max (mxK l k) l[k] := by
  unfold mxK; rw [List.take_succ_eq_append_getElem h, List.drop_append_of_le_length (by rw [List.length_take]; omega), List.foldl_append]; rfl
theorem mnK_all (l : List Int) : mnK l l.length = mnL l := by cases l <;> simp [mnK, mnL]
theorem mxK_all (l : List Int) : mxK l l.length = mxL l := by cases l <;> simp [mxK, mxL]
theorem named_bad (r : Rg) (n : Int) (f : List Int) (hk : r.kinds.length ≤ 1000000) (hh : r.hides.length ≤ 1000000) (hw : ∀ h ∈ r.hides, h.length ≤ 1000000) (hl : f.length ≤ 1000000) (ho : okF r n f = false) : APure Tryz.prog 32 [rgA r, I n, ints f] (.tup [ints [], rtA ⟨0, 0⟩, I 2]) := by
  refine ap Tryz.func32 (fun e0 he0 => ?_)
  refine wz 7 ?_
  refine kz az (finding_pure r n f hk hh hw hl) ?_
  refine wz 8 ?_
  refine iz (fun c_23 c_23' => ?_) (fun c_23 c_23' => ?_)
  ·refine wz 4 ?_
   exact retQ_res (vs := [.raw _, .agg _, .raw _]) rfl rfl ⟨resVar_tmp _ _ _, resVar_cell rfl rfl ty30.h rfl, resVar_tmp _ _ _, trivial⟩ (less_tup ⟨less_nil 1, jz, jz, trivial⟩)
  exfalso
  simp_all
theorem named_no {r : Rg} {h : Nat} {f : List Int} (hk : r.kinds.length ≤ 1000000) (hh : r.hides.length ≤ 1000000) (hw : ∀ h ∈ r.hides, h.length ≤ 1000000) (hl : f.length ≤ 1000000) (ho : okF r h f = true) (hm : may r h f = false) : APure Tryz.prog 32 [rgA r, I h, ints f] (.tup [ints [], rtA ⟨0, 0⟩, I 5]) := by
  refine ap Tryz.func32 (fun e0 he0 => ?_)
  refine vz 4 ?_
  refine sq_nil ?_
  refine aw_seq ?_
  obtain ⟨gB, ⟨k0, hk0, hhl⟩, hfl, hrg, hfd⟩ := okF_facts ho
  obtain rfl : h = k0 := by omega
  refine wz 3 ?_
  refine kz az (finding_pure r h f hk hh hw hl) ?_
  refine wz 8 ?_
  refine iz (fun c_23 c_23' => ?_) (fun c_23 c_23' => ?_)
  ·exfalso
   simp_all
  refine wz 2 ?_
  refine kz az (attmay_pure gB hhl hfl) ?_
  refine wz 3 ?_
  refine iz (fun c_29 c_29' => ?_) (fun c_29 c_29' => ?_)
  ·refine wz 5 ?_
   exact retQ_res (vs := [.raw _, .agg _, .raw _]) rfl rfl ⟨resVar_tmp _ _ _, resVar_cell rfl rfl ty30.h rfl, resVar_tmp _ _ _, trivial⟩ (less_tup ⟨less_nil 1, jz, Less.eq (by rw [hm]; rfl), trivial⟩)
  exfalso
  simp_all
theorem named_ok {r : Rg} {h : Nat} {f : List Int} (hk : r.kinds.length ≤ 1000000) (hh : r.hides.length ≤ 1000000) (hw : ∀ h ∈ r.hides, h.length ≤ 1000000) (hl : f.length ≤ 1000000) (ho : okF r h f = true) (hm : may r h f = true) : APure Tryz.prog 32 [rgA r, I h, ints f] (.tup [ints (namedOf r h f), rtA (bestOfR r h f), I 0]) := by
  refine apure_of_marks (rs := [.tmp 6, .cell 7 30, .tmp 8]) Tryz.func32 rfl rfl (Nat.le_of_ble_eq_true rfl) (by simp [AV.pureL, AV.pureB, AV.pureE, pureE_map]) (by first | rfl | (simp [AV.pureL, AV.pureB, AV.pureE, pureE_map])) fun e0 he0 => ?_
  refine vz 4 ?_
  refine sq_nil ?_
  refine aw_seq ?_
  obtain ⟨gB, ⟨k0, hk0, hhl⟩, hfl, hrg, hfd⟩ := okF_facts ho
  obtain rfl : h = k0 := by omega
  refine wz 3 ?_
  refine kz az (finding_pure r h f hk hh hw hl) ?_
  refine wz 8 ?_
  refine iz (fun c_23 c_23' => ?_) (fun c_23 c_23' => ?_)
  ·exfalso
   simp_all
  refine wz 2 ?_
  refine kz az (attmay_pure gB hhl hfl) ?_
  refine wz 3 ?_
  refine iz (fun c_29 c_29' => ?_) (fun c_29 c_29' => ?_)
  ·exfalso
   simp_all
  refine wz 2 ?_
  refine kz az (fitting_pure r h f) ?_
  refine sq_nil ?_
  refine aw_block ?_
  refine aw_sub (sub_token_box 3 3 rfl) ?_
  refine nz ?_
  refine aw_rangeFuncQ [9, 12] (xs := rtsA (fit r h f)) (cl := clOf) (fun k => [.cells (rgC r), .cells [I 0, I 0], .cells (fdC r h f), .cells [.own 4 3 ((((fit r h f).take k)).map (nmC (chA r h f)))], .tok ((((fit r h f).take k)).map (nmC (chA r h f))).length]) ((rtsA (fit r h f)).length) (none) (Nat.le_refl _) (fun _ => rfl) (fun h => absurd rfl h) rfl (enters_outer rfl) dd_in jz en143.h (fitting_iter gB hhl hfl) (rfl) (fun _ => rfl) (fun k hk => by simp [objsIn, AObj.inB, AV.inB, AV.inL, inE_nms, -List.map_take]) (fun x hx => rtsA_pure hx) rfl rfl (by decide) rfl rfl z120.h rfl ty120.h (fun x hx => rtsA_cl _ hx) (by decide) (rfl) ?_ ?_
  ·intro q i x e2 hi hx he2 hlp hce
   obtain ⟨hk2, rfl⟩ := rtsA_get hx
   have hfn := fit_len gB h f
   have eS : ((((fit r h f).take (i + 1))).map (nmC (chA r h f))) = ((((fit r h f).take i)).map (nmC (chA r h f))) ++ [nmC (chA r h f) (fit r h f)[i]] := by rw [List.take_succ_eq_append_getElem hk2, List.map_append]; rfl
   refine nz ?_
   refine wz 0 ?_
   refine aw_draw 7 mo (by kernel_rfl) ?_
   refine dz 4 ?_
   refine dkz az (all_pure gB hhl ((mem_fit gB).1 (List.getElem_mem hk2)).1 hfl) ?_
   refine dz 1 ?_
   refine dr_ev rfl (ev_buildSlice (es := [[_, _, _]]) sf126.h rfl rfl rfl rfl) ?_
   refine dr_end ?_
   first | refine sq_append rfl sf126.h Tryz.underlying126 rfl rfl jz (Nat.succ_pos _) (by simp; omega) (by simp; omega) ?_ | refine sq_append rfl sf126.h Tryz.underlying126 rfl rfl (less_slx _ _) (Nat.succ_pos _) (by simp; omega) (by simp; omega) ?_
   refine wz 1 ?_
   exact ⟨⟨[], (congrArg (fun L => [AObj.cells (rgC r), .cells [I 0, I 0], .cells (fdC r h f), .cells [.own 4 3 L], .tok L.length]) eS.symm).trans (List.append_nil _).symm⟩, rfl, by split <;> rfl⟩
  ·rintro _ rfl
   have hfull : (rtsA (fit r h f)).length = (fit r h f).length := by simp
   rw [hfull, List.take_length]
   refine nz ?_
   refine wz 1 ?_
   refine sq_ev rfl (ev_call en90.h jz (bestn_pure (chA r h f) (fit r h f) (fit_ne gB hm) (by have := fit_len gB h f; omega) (fun x _ => chA_le gB h f x)) ⟨less_own _ _ _, jz, trivial⟩) ?_
   refine wz 2 ?_
   refine aw_draw 5 mo (by kernel_rfl) ?_
   refine dz 5 ?_
   refine wz 2 ?_
   exact retQM_res (vs := [.sl _ _, .agg _, .raw _]) rfl rfl ⟨resVar_tmp _ _ _, resVar_cell rfl rfl ty30.h rfl, resVar_tmp _ _ _, trivial⟩ (less_tup ⟨Less.eq (by rw [best_fit gB hm]; rfl), Less.eq (by rw [best_fit gB hm] <;> rfl), jz, trivial⟩)
theorem fit_bad (r : Rg) (n : Int) (f : List Int) (hk : r.kinds.length ≤ 1000000) (hh : r.hides.length ≤ 1000000) (hw : ∀ h ∈ r.hides, h.length ≤ 1000000) (hl : f.length ≤ 1000000) (b : Bool) (ho : (okF r n f && b) = false) : APure Tryz.prog 98 [rgA r, I n, ints f, B b] (.tup [fdA r n f, .sl 2 [], I 2]) := by
  refine ap Tryz.func98 (fun e0 he0 => ?_) (hr := by simp [AV.pureL, AV.pureB, AV.pureE])
  refine wz 7 ?_
  refine kz az (finding_pure r n f hk hh hw hl) ?_
  refine wz 9 ?_
  refine sz 23 (fun g2_2 g2_2' => ?_) (fun g2_2 g2_2' => ?_)
  ·refine wz 8 ?_
   exact retQ_res (vs := [.agg _, .raw _, .raw _]) rfl rfl ⟨resVar_cell rfl rfl ty115.h rfl, resVar_tmp _ _ _, resVar_tmp _ _ _, trivial⟩ (less_tup ⟨jz, less_nil 2, jz, trivial⟩)
  refine wz 3 ?_
  refine iz (fun c_26 c_26' => ?_) (fun c_26 c_26' => ?_)
  ·refine wz 4 ?_
   exact retQ_res (vs := [.agg _, .raw _, .raw _]) rfl rfl ⟨resVar_cell rfl rfl ty115.h rfl, resVar_tmp _ _ _, resVar_tmp _ _ _, trivial⟩ (less_tup ⟨jz, less_nil 2, jz, trivial⟩)
  exfalso
  simp_all
theorem fit_no {r : Rg} {h : Nat} {f : List Int} (hk : r.kinds.length ≤ 1000000) (hh : r.hides.length ≤ 1000000) (hw : ∀ h ∈ r.hides, h.length ≤ 1000000) (hl : f.length ≤ 1000000) (ho : okF r h f = true) (hm : may r h f = false) : APure Tryz.prog 98 [rgA r, I h, ints f, B true] (.tup [fdA r h f, .sl 2 [], I 5]) := by
  refine ap Tryz.func98 (fun e0 he0 => ?_) (hr := by simp [AV.pureL, AV.pureB, AV.pureE])
  refine vz 4 ?_
  refine sq_nil ?_
  refine aw_seq ?_
  obtain ⟨gB, ⟨k0, hk0, hhl⟩, hfl, hrg, hfd⟩ := okF_facts ho
  obtain rfl : h = k0 := by omega
  refine wz 3 ?_
  refine kz az (finding_pure r h f hk hh hw hl) ?_
  refine wz 9 ?_
  refine sz 23 (fun g2_2 g2_2' => ?_) (fun g2_2 g2_2' => ?_)
  ·exfalso
   simp_all
  refine wz 3 ?_
  refine iz (fun c_26 c_26' => ?_) (fun c_26 c_26' => ?_)
  ·exfalso
   simp_all
  refine wz 2 ?_
  refine kz az (attmay_pure gB hhl hfl) ?_
  refine wz 3 ?_
  refine iz (fun c_32 c_32' => ?_) (fun c_32 c_32' => ?_)
  ·refine wz 5 ?_
   exact retQ_res (vs := [.agg _, .raw _, .raw _]) rfl rfl ⟨resVar_cell rfl rfl ty115.h rfl, resVar_tmp _ _ _, resVar_tmp _ _ _, trivial⟩ (less_tup ⟨jz, less_nil 2, Less.eq (by rw [hm]; rfl), trivial⟩)
  exfalso
  simp_all
theorem fit_ok {r : Rg} {h : Nat} {f : List Int} (hk : r.kinds.length ≤ 1000000) (hh : r.hides.length ≤ 1000000) (hw : ∀ h ∈ r.hides, h.length ≤ 1000000) (hl : f.length ≤ 1000000) (ho : okF r h f = true) (hm : may r h f = true) : APure Tryz.prog 98 [rgA r, I h, ints f, B true] (.tup [fdA r h f, .sl 2 ((fit r h f).map rtC), I 0]) := by
  refine ap Tryz.func98 (fun e0 he0 => ?_) (hr := by simp [AV.pureL, AV.pureB])
  refine vz 4 ?_
  refine sq_nil ?_
  refine aw_seq ?_
  obtain ⟨gB, ⟨k0, hk0, hhl⟩, hfl, hrg, hfd⟩ := okF_facts ho
  obtain rfl : h = k0 := by omega
  refine wz 3 ?_
  refine kz az (finding_pure r h f hk hh hw hl) ?_
  refine wz 9 ?_
  refine sz 23 (fun g2_2 g2_2' => ?_) (fun g2_2 g2_2' => ?_)
  ·exfalso
   simp_all
  refine wz 3 ?_
  refine iz (fun c_26 c_26' => ?_) (fun c_26 c_26' => ?_)
  ·exfalso
   simp_all
  refine wz 2 ?_
  refine kz az (attmay_pure gB hhl hfl) ?_
  refine wz 3 ?_
  refine iz (fun c_32 c_32' => ?_) (fun c_32 c_32' => ?_)
  ·exfalso
   simp_all
  refine wz 0 ?_
  refine aw_drawc [] [4] _ mo (by kernel_rfl) (HSub.mask [1] 0 _) ?_
  first | refine dc_ev rfl (ev_load_agg jz rfl ty115.h rfl) ?_ | refine dc_ev rfl (ev_load_agg_i jz ty115.h (by exact Nat.le_of_ble_eq_true rfl)) ?_
  first | refine dc_ev rfl (ev_load_agg jz rfl ty115.h rfl) ?_ | refine dc_ev rfl (ev_load_agg_i jz ty115.h (by exact Nat.le_of_ble_eq_true rfl)) ?_
  refine dc_ev rfl (ev_call en89.h jz (fitting_pure r h f) ⟨jz, trivial⟩) ?_
  refine dc_ev rfl (ev_call en147.h jz (collect_pure (by have := fit_len gB h f; omega) en143.h (fitting_iter gB hhl hfl) (by simp [AV.pureL, AV.pureB])) ⟨jz, trivial⟩) ?_
  refine dc_eff rfl rfl (eff_store rfl jz jz rfl rfl ty115.h rfl rfl) (by apply HL.sub; repeat' (first | exact HL.nil _ | apply HL.same | apply HL.tok)) ?_
  first | refine dc_ev rfl (ev_as (v := .sl _ _) jz) ?_ | refine dc_ev rfl (ev_as (v := .own _ _ _) jz) ?_ | refine dc_ev rfl (ev_as (v := .raw _) jz) ?_ | refine dc_ev rfl (ev_as (v := .slx _ _) jz) ?_ | refine dc_ev rfl (ev_as (v := .msl _ _ _ _) jz) ?_
  refine dc_ev rfl (ev_as (v := .raw _) jz) ?_
  refine dc_nil ?_
  refine wz 0 ?_
  exact retQ_res (vs := [.agg _, .sl _ _, .raw _]) rfl rfl ⟨resVar_cell rfl rfl ty115.h rfl, resVar_tmp _ _ _, resVar_tmp _ _ _, trivial⟩ (less_tup ⟨jz, jz, jz, trivial⟩)
theorem smin_pure (l : List Int) (h0 : 0 < l.length) (hl : l.length ≤ 1000000) : APure Tryz.prog 102 [ints l] (I (mnL l)) := by
  refine ap Tryz.func102 (fun e0 he0 => ?_)
  refine wz 4 ?_
  refine iz (fun c_7 c_7' => ?_) (fun c_7 c_7' => ?_)
  ·exfalso
   omega
  refine wz 1 ?_
  refine sq_ev rfl (ev_index_map (k := 0) sl28.h jz jz rfl h0) ?_
  refine wz 3 ?_
  refine aw_loopk (ι := { k : Nat // 1 ≤ k ∧ k ≤ l.length }) [0] (fun i => [(3, I (mnK l i.1)), (4, I i.1)]) (fun H i => H) (fun i => l.length - i.1) (⟨1, by omega, by omega⟩) ⟨Less.eq (by rw [mnK_1 h0] <;> rfl), jz, jz, trivial⟩ rfl ?_
  rintro ⟨k, hk1, hk⟩
  refine nz ?_
  refine wz 4 ?_
  refine iz (fun c_15 c_15' => ?_) (fun c_15 c_15' => ?_)
  ·have hkl : k < l.length := by omega
   refine wz 10 ?_
   exact ⟨⟨k + 1, by omega, by omega⟩, by simp only; omega, Sub.slots ⟨Less.eq (by rw [mnK_succ hk1 hkl] <;> rfl), jz, jz, trivial⟩⟩
  obtain rfl : k = l.length := by omega
  refine wz 2 ?_
  exact rz rfl (Less.eq (by rw [← mnK_all] <;> rfl))
theorem smax_pure (l : List Int) (h0 : 0 < l.length) (hl : l.length ≤ 1000000) : APure Tryz.prog 103 [ints l] (I (mxL l)) := by
  refine ap Tryz.func103 (fun e0 he0 => ?_)
  refine wz 4 ?_
  refine iz (fun c_7 c_7' => ?_) (fun c_7 c_7' => ?_)
  ·exfalso
   omega
  refine wz 1 ?_
  refine sq_ev rfl (ev_index_map (k := 0) sl28.h jz jz rfl h0) ?_
  refine wz 3 ?_
  refine aw_loopk (ι := { k : Nat // 1 ≤ k ∧ k ≤ l.length }) [0] (fun i => [(3, I (mxK l i.1)), (4, I i.1)]) (fun H i => H) (fun i => l.length - i.1) (⟨1, by omega, by omega⟩) ⟨Less.eq (by rw [mxK_1 h0] <;> rfl), jz, jz, trivial⟩ rfl ?_
  rintro ⟨k, hk1, hk⟩
  refine nz ?_
  refine wz 4 ?_
  refine iz (fun c_15 c_15' => ?_) (fun c_15 c_15' => ?_)
  ·have hkl : k < l.length := by omega
   refine wz 10 ?_
   exact ⟨⟨k + 1, by omega, by omega⟩, by simp only; omega, Sub.slots ⟨Less.eq (by rw [mxK_succ hk1 hkl] <;> rfl), jz, jz, trivial⟩⟩
  obtain rfl : k = l.length := by omega
  refine wz 2 ?_
  exact rz rfl (Less.eq (by rw [← mxK_all] <;> rfl))
theorem bound_pure (l : List Int) (h0 : 0 < l.length) (hl : l.length ≤ 1000000) : APure Tryz.prog 99 [ints l] (.agg [I (mnL l), I (mxL l)]) := by
  refine ap Tryz.func99 (fun e0 he0 => ?_)
  refine wz 2 ?_
  refine kz az (smin_pure l h0 hl) ?_
  refine wz 1 ?_
  refine kz az (smax_pure l h0 hl) ?_
  refine wz 2 ?_
  exact retQ_res (vs := [.agg _]) rfl rfl ⟨resVar_cell rfl rfl ty25.h rfl, trivial⟩ jz
end Go.Proofs.YtjpokekbjmdgmaaGreatDoor
namespace Go.Proofs.YtjpokekbjmdgmaaGreatDoor
open Go Go.Ab Ni Hd
instance bi140 : BdI Tryz.prog 140 [] true [] 0 := ⟨by kernel_rfl⟩
instance en97 : EnT Tryz.prog 97 := ⟨Ent.of Tryz.func97 (by kernel_rfl) rfl⟩
theorem it3 : isIntT Tryz.prog 3 = true := by kernel_rfl
theorem mt138 : mapTy Tryz.prog 138 = some (3, 140) := by kernel_rfl
instance sf54 : SlS Tryz.prog 54 60 1 8 := ⟨SlFact.of (by kernel_rfl)⟩
instance ty140 : TyF Tryz.prog 140 true 0 := ⟨by kernel_rfl⟩
instance ud54 : UnD Tryz.prog 54 (.slice 60) := ⟨Tryz.underlying54⟩
instance z140 : ZeO Tryz.prog 140 [] := ⟨by kernel_rfl⟩
def mayK (r : Rg) (f : List Int) (k : Nat) : List Int := nums (fun h => may r h f) k
abbrev hidO (l : List Int) : AObj := .map (imap (setM l))
theorem keysIn_nd : ∀ (l : List Int), l.Nodup → keysIn l = l := by
  have key : ∀ (l acc : List Int), (acc ++ l).Nodup → l.foldl (fun acc n => if n ∈ acc then acc else acc ++ [n]) acc = acc ++ l := by
    intro l
    induction l with
    | nil => intro acc _; simp
    | cons x l ih =>
      intro acc h
      have hx : x ∉ acc := fun hm => by
        rw [List.nodup_append] at h; exact h.2.2 x hm x (by simp) rfl
      rw [List.foldl_cons, if_neg hx, ih (acc ++ [x]) (by simpa using h)]; simp
  intro l h; exact key l [] (by simpa using h)
theorem mayK_len (r : Rg) (f : List Int) : (imap (setM (mayK r f r.hides.length))).length = (mays r f).length := by
  have h : (mayK r f r.hides.length).Nodup := (nums_rising _ _).imp fun h => by omega
  unfold imap setM; rw [keysIn_nd _ h]; simp [mayK, nums, mays]
theorem mayK_mem {r : Rg} {f : List Int} {k : Nat} (hk : k < r.hides.length) : decide ((k : Int) ∈ mayK r f r.hides.length) = may r k f := by
  rw [Bool.eq_iff_iff, decide_eq_true_eq, mayK, mem_nums]
  constructor
  · rintro ⟨m, _, h2, h3⟩; have : k = m := (by omega); subst this; exact h2
  · intro h; exact ⟨k, hk, h, rfl⟩
def okWho (r : Rg) (f : List Int) : Bool := rgOK r && fdOK r f
def whoK (r : Rg) (f : List Int) (k : Nat) : List Int := (List.range k).map (wordOf r f)
theorem whoK_succ (r : Rg) (f : List Int) (k : Nat) : whoK r f (k + 1) = whoK r f k ++ [wordOf r f k] := by unfold whoK; rw [List.range_succ, List.map_append]; rfl
theorem whoK_len (r : Rg) (f : List Int) (k : Nat) : (whoK r f k).length = k := by simp [whoK]
theorem whoF {r : Rg} {f : List Int} (h : okWho r f = true) : RgB r ∧ f.length = r.kinds.length := by
  unfold okWho at h; simp only [Bool.and_eq_true] at h; exact ⟨rgOK_B h.1, (fdOK_iff.1 h.2).1⟩
theorem hides_call {r : Rg} (gB : RgB r) {f : List Int} (hf : f.length = r.kinds.length) (H0 : List AObj) : ACall Tryz.prog 97 [rgA r, ints f] H0 (fun y H' => y = .ret (.mp (H0 ++ [AObj.dead]).length) ∧ H' = (H0 ++ [.dead]) ++ [hidO (mayK r f r.hides.length)]) := by
  refine acall_of (rs := [.tmp 4]) Tryz.func97 rfl rfl (Nat.le_of_ble_eq_true rfl) fun e0 he0 => ?_
  rw [nil_pre H0]
  refine wz 0 ?_
  refine sq_boxP (H0 := H0) (X := []) (a := rgA r) rfl jz rfl ?_
  refine sq_frz (A := H0) (X := []) [1] 2 rfl ?_
  refine wz 1 ?_
  refine sq_makeMap rfl ?_
  refine wz 5 ?_
  refine aw_loopk (ι := { k : Nat // k ≤ r.hides.length }) [1, 2, 5, 10] (fun i => [(11, I i.1)]) (fun H i => (H0 ++ [.dead]) ++ (hidO (mayK r f i.1) :: [])) (fun i => r.hides.length - i.1) (⟨0, Nat.zero_le _⟩) ⟨jz, jz, jz, jz, jz, trivial⟩ rfl ?_
  rintro ⟨k, hk⟩
  refine nz ?_
  have hnh := gB.nh
  refine wz 1 ?_
  refine iz (fun c_12 c_12' => ?_) (fun c_12 c_12' => ?_)
  ·have hhl : k < r.hides.length := by omega
   refine wz 2 ?_
   refine aw_draw 8 mo (by kernel_rfl) ?_
   refine dz 4 ?_
   refine dkz az (least_pure gB hhl hf) ?_
   refine dz 3 ?_
   refine wz 0 ?_
   refine iz (fun c_21 c_21' => ?_) (fun c_21 c_21' => ?_)
   ·have hmy : may r k f = true := by unfold may; exact c_21
    have eY : mayK r f k ++ [(k : Int)] = mayK r f (k + 1) := by unfold mayK; rw [nums_succ, if_pos hmy]
    refine wz 3 ?_
    refine sq_setAdd (A := H0 ++ [AObj.dead]) (Y := []) (l := mayK r f k) (l' := mayK r f (k + 1)) rfl rfl mt138 it3 jz rfl jz less_unit eY ?_
    refine wz 2 ?_
    exact ⟨⟨k + 1, by omega⟩, by simp only; omega, Sub.at ⟨jz, jz, jz, jz, jz, trivial⟩ (by first | rfl | (rw [eN] <;> rfl))⟩
   have hmy : may r k f = false := by unfold may; exact c_21
   have eN : mayK r f (k + 1) = mayK r f k := by unfold mayK; rw [nums_succ, if_neg (by rw [hmy]; simp)]
   refine wz 2 ?_
   exact ⟨⟨k + 1, by omega⟩, by simp only; omega, Sub.at ⟨jz, jz, jz, jz, jz, trivial⟩ (by first | rfl | (rw [eN] <;> rfl))⟩
  obtain rfl : k = r.hides.length := by omega
  refine wz 2 ?_
  exact ⟨rfl, .mp (H0 ++ [AObj.dead]).length, rfl, by rw [List.append_nil], by rw [List.append_nil]; rfl⟩
theorem who_ok {r : Rg} {f : List Int} (hk : r.kinds.length ≤ 1000000) (hh : r.hides.length ≤ 1000000) (hw : ∀ h ∈ r.hides, h.length ≤ 1000000) (hl : f.length ≤ 1000000) (ho : okWho r f = true) (hn : 0 < (mays r f).length) : APure Tryz.prog 39 [rgA r, ints f] (.tup [ints (whoOf r f), I 0]) := by
  refine ap Tryz.func39 (fun e0 he0 => ?_)
  refine vz 3 ?_
  refine sq_nil ?_
  refine aw_seq ?_
  refine aw_seq ?_
  obtain ⟨gB, hfl⟩ := whoF ho
  refine wz 1 ?_
  refine kz az (isregister_pure r hk hh hw) ?_
  refine wz 2 ?_
  refine sz 15 (fun g1_3 g1_3' => ?_) (fun g1_3 g1_3' => ?_)
  ·exfalso
   revert ho
   unfold okWho
   simp_all
  refine wz 2 ?_
  refine ky az (isfind_pure r f hl) ?_
  refine wz 2 ?_
  refine iz (fun c_20 c_20' => ?_) (fun c_20 c_20' => ?_)
  ·exfalso
   revert ho
   unfold okWho
   simp_all
  refine wz 2 ?_
  refine sq_call (first := []) (cap := []) (args := [rgA r, ints f]) rfl en97.h jz ⟨jz, jz, trivial⟩ (hides_call gB hfl _) ?_ (by rintro v H' ⟨h, _⟩; cases h)
  rintro _ _ ⟨h, rfl⟩; cases h
  refine wz 2 ?_
  refine sq_ev rfl (ev_len_mp mt138 jz rfl) ?_
  refine wz 1 ?_
  refine iz (fun c_26 c_26' => ?_) (fun c_26 c_26' => ?_)
  ·exfalso
   rw [mayK_len] at c_26'
   omega
  refine vz 5 ?_
  refine sq_nil ?_
  refine aw_block ?_
  refine aw_sub (sub_token 7 1 jz) ?_
  refine aw_loopk (ι := { k : Nat // k ≤ r.hides.length }) [6, 29] (fun i => [(30, I i.1), (7, .own 3 1 ((whoK r f i.1).map fun x => [I x]))]) (fun H i => H.set 3 (.tok ((whoK r f i.1).map fun x => [I x]).length)) (fun i => r.hides.length - i.1) (⟨0, Nat.zero_le _⟩) ⟨jz, jz, jz, jz, trivial⟩ rfl ?_
  rintro ⟨k, hk⟩
  refine nz ?_
  have hwl := whoK_len r f k
  have hnh := gB.nh
  refine wz 1 ?_
  refine iz (fun c_31 c_31' => ?_) (fun c_31 c_31' => ?_)
  ·have hkl : k < r.hides.length := by omega
   refine wz 5 ?_
   refine sq_ev rfl (ev_lookup_set mt138 it3 z140.h jz jz rfl) ?_
   refine wz 7 ?_
   refine iz (fun c_39 c_39' => ?_) (fun c_39 c_39' => ?_)
   ·have hmy : may r k f = true := by rw [← mayK_mem hkl]; exact c_39
    refine wz 2 ?_
    refine sq_ev rfl (ev_len_mp mt138 jz rfl) ?_
    refine wz 1 ?_
    refine iz (fun c_42 c_42' => ?_) (fun c_42 c_42' => ?_)
    ·have hw : wordOf r f k = 3 := by unfold wordOf; rw [mayK_len] at c_42'; rw [hmy, if_pos rfl, if_pos (by omega)]
     have eS : ((whoK r f (k + 1))).map (fun x => [I x]) = ((whoK r f k)).map (fun x => [I x]) ++ [[I 3]] := by rw [whoK_succ, List.map_append]; simp only [List.map_cons, List.map_nil]; rw [hw]
     refine wz 3 ?_
     refine sq_ev rfl (ev_buildSlice (es := [[_]]) sf54.h rfl rfl rfl rfl) ?_
     first | refine sq_append rfl sf54.h Tryz.underlying54 rfl rfl jz (Nat.succ_pos _) (by simp; omega) (by simp; omega) ?_ | refine sq_append rfl sf54.h Tryz.underlying54 rfl rfl (less_slx _ _) (Nat.succ_pos _) (by simp; omega) (by simp; omega) ?_
     refine wz 3 ?_
     exact ⟨⟨k + 1, by omega⟩, by simp only; omega, sb 4 ⟨jz, Less.eq (b := .own 3 1 ((whoK r f (k + 1)).map fun x => [I x])) (by rw [eS] <;> rfl), jz, jz, trivial⟩ (hH := (congrArg (fun n => [_, _, _, AObj.tok n]) (congrArg List.length eS.symm)))⟩
    have hw : wordOf r f k = 2 := by unfold wordOf; rw [mayK_len] at c_42'; rw [hmy, if_pos rfl, if_neg (by omega)]
    have eS : ((whoK r f (k + 1))).map (fun x => [I x]) = ((whoK r f k)).map (fun x => [I x]) ++ [[I 2]] := by rw [whoK_succ, List.map_append]; simp only [List.map_cons, List.map_nil]; rw [hw]
    refine wz 2 ?_
    refine sq_ev rfl (ev_buildSlice (es := [[_]]) sf54.h rfl rfl rfl rfl) ?_
    first | refine sq_append rfl sf54.h Tryz.underlying54 rfl rfl jz (Nat.succ_pos _) (by simp; omega) (by simp; omega) ?_ | refine sq_append rfl sf54.h Tryz.underlying54 rfl rfl (less_slx _ _) (Nat.succ_pos _) (by simp; omega) (by simp; omega) ?_
    refine wz 3 ?_
    exact ⟨⟨k + 1, by omega⟩, by simp only; omega, sb 4 ⟨jz, Less.eq (b := .own 3 1 ((whoK r f (k + 1)).map fun x => [I x])) (by rw [eS] <;> rfl), jz, jz, trivial⟩ (hH := (congrArg (fun n => [_, _, _, AObj.tok n]) (congrArg List.length eS.symm)))⟩
   have hmy : may r k f = false := by rw [← mayK_mem hkl]; exact c_39
   have hw : wordOf r f k = 1 := by unfold wordOf; rw [hmy]; rfl
   have eS : ((whoK r f (k + 1))).map (fun x => [I x]) = ((whoK r f k)).map (fun x => [I x]) ++ [[I 1]] := by rw [whoK_succ, List.map_append]; simp only [List.map_cons, List.map_nil]; rw [hw]
   refine wz 2 ?_
   refine sq_ev rfl (ev_buildSlice (es := [[_]]) sf54.h rfl rfl rfl rfl) ?_
   first | refine sq_append rfl sf54.h Tryz.underlying54 rfl rfl jz (Nat.succ_pos _) (by simp; omega) (by simp; omega) ?_ | refine sq_append rfl sf54.h Tryz.underlying54 rfl rfl (less_slx _ _) (Nat.succ_pos _) (by simp; omega) (by simp; omega) ?_
   refine wz 3 ?_
   exact ⟨⟨k + 1, by omega⟩, by simp only; omega, sb 4 ⟨jz, Less.eq (b := .own 3 1 ((whoK r f (k + 1)).map fun x => [I x])) (by rw [eS] <;> rfl), jz, jz, trivial⟩ (hH := (congrArg (fun n => [_, _, _, AObj.tok n]) (congrArg List.length eS.symm)))⟩
  obtain rfl : k = r.hides.length := by omega
  refine wz 3 ?_
  exact retQ_pure (v := .tup [.own _ _ _, .raw _]) rfl rfl (less_tup ⟨less_own _ _ _, jz, trivial⟩)
end Go.Proofs.YtjpokekbjmdgmaaGreatDoor
namespace Go.Proofs.YtjpokekbjmdgmaaGreatDoor
open Go Go.Ab Ni Hd
instance ar145 : ArE Tryz.prog 145 2 28 1 := ⟨by kernel_rfl⟩
instance en98 : EnT Tryz.prog 98 := ⟨Ent.of Tryz.func98 (by kernel_rfl) rfl⟩
instance en99 : EnT Tryz.prog 99 := ⟨Ent.of Tryz.func99 (by kernel_rfl) rfl⟩
instance sl142 : SlE Tryz.prog 142 120 2 := ⟨by kernel_rfl⟩
instance z145 : ZeO Tryz.prog 145 [.raw (.slice none 0 0), .raw (.slice none 0 0)] := ⟨by kernel_rfl⟩
def fitE (r : Rg) (n : Int) (f : List Int) (b : Bool) : Int := if (okF r n f && b) = true then (if may r n.toNat f = true then 0 else 5) else 2
def fitL (r : Rg) (n : Int) (f : List Int) (b : Bool) : List Rt := if (okF r n f && b && may r n.toNat f) = true then fit r n.toNat f else []
theorem fit_pure (r : Rg) (n : Int) (f : List Int) (hk : r.kinds.length ≤ 1000000) (hh : r.hides.length ≤ 1000000) (hw : ∀ h ∈ r.hides, h.length ≤ 1000000) (hl : f.length ≤ 1000000) (b : Bool) : APure Tryz.prog 98 [rgA r, I n, ints f, B b] (.tup [fdA r n f, .sl 2 ((fitL r n f b).map rtC), I (fitE r n f b)]) := by
  cases ho : (okF r n f && b) with
  | false =>
    have h := fit_bad r n f hk hh hw hl b ho
    unfold fitL fitE; rw [ho]; exact h
  | true =>
    simp only [Bool.and_eq_true] at ho
    obtain ⟨h1, rfl⟩ := ho
    obtain ⟨_, ⟨k, rfl, _⟩, _⟩ := okF_facts h1
    unfold fitL fitE; rw [h1]
    cases hm : may r k f with
    | false =>
      have h := fit_no hk hh hw hl h1 hm
      simp only [Int.toNat_natCast, hm]; exact h
    | true =>
      have h := fit_ok hk hh hw hl h1 hm
      simp only [Int.toNat_natCast, hm]; exact h
abbrev rtH (r : Rg) (h : Nat) (f : List Int) (A C : List (List AV)) (X : List AObj) : List AObj := .cells (rgC r) :: .cells [I 0, I 0] :: .cells [I 0, I 0] :: .cells (fdC r h f) :: .cells [.own 5 1 A, .own 6 1 C] :: .tok A.length :: .tok C.length :: X
abbrev asK (L : List Rt) (k : Nat) : List (List AV) := (L.take k).map fun x => [I x.a]
abbrev bsK (L : List Rt) (k : Nat) : List (List AV) := (L.take k).map fun x => [I x.b]
theorem asK_succ {L : List Rt} {k : Nat} (h : k < L.length) : asK L (k + 1) = asK L k ++ [[I L[k].a]] := by unfold asK; rw [List.take_succ_eq_append_getElem h, List.map_append]; rfl
theorem bsK_succ {L : List Rt} {k : Nat} (h : k < L.length) : bsK L (k + 1) = bsK L k ++ [[I L[k].b]] := by unfold bsK; rw [List.take_succ_eq_append_getElem h, List.map_append]; rfl
theorem asK_len (L : List Rt) (k : Nat) : (asK L k).length ≤ L.length := by simp [asK]; omega
theorem bsK_len (L : List Rt) (k : Nat) : (bsK L k).length ≤ L.length := by simp [bsK]; omega
@[simp] theorem inE_asK (n : Nat) (L : List Rt) (k : Nat) : AV.inE n (asK L k) = true := inE_map fun x _ => by simp [AV.inL, AV.inB]
@[simp] theorem inE_bsK (n : Nat) (L : List Rt) (k : Nat) : AV.inE n (bsK L k) = true := inE_map fun x _ => by simp [AV.inL, AV.inB]
theorem jointK_succ (r : Rg) (h : Nat) (f : List Int) (k : Nat) : ((List.range (k + 1)).map (jointW r h f)) = ((List.range k).map (jointW r h f)) ++ [jointW r h f k] := by rw [List.range_succ, List.map_append]; rfl
def jntK (r : Rg) (h : Nat) (f : List Int) (k : Nat) : List Int := (List.range k).map (jointW r h f)
theorem jntK_len (r : Rg) (h : Nat) (f : List Int) (k : Nat) : (jntK r h f k).length = k := by simp [jntK]
def cntK (r : Rg) (h : Nat) (f : List Int) (m k : Nat) : Nat := (((fit r h f).take k).filter (chgM r h f m)).length
theorem cntK_succ {r : Rg} {h : Nat} {f : List Int} {m k : Nat} (hk : k < (fit r h f).length) : cntK r h f m (k + 1) = cntK r h f m k + if chgM r h f m (fit r h f)[k] = true then 1 else 0 := by
  unfold cntK; rw [List.take_succ_eq_append_getElem hk, List.filter_append, List.length_append]
  cases hc : chgM r h f m (fit r h f)[k] <;> simp [hc]
theorem cntK_le (r : Rg) (h : Nat) (f : List Int) (m k : Nat) : cntK r h f m k ≤ (fit r h f).length := by
  unfold cntK; have h1 := List.length_filter_le (chgM r h f m) ((fit r h f).take k); rw [List.length_take] at h1; omega
theorem tdiv_abs {n s b : Int} (hs : 1 ≤ s) (h : -b ≤ n ∧ n ≤ b) : -b ≤ n.tdiv s ∧ n.tdiv s ≤ b := by
  rcases Int.lt_or_le n 0 with h0 | h0
  · have h1 : (-n).tdiv s = (-n) / s := Int.tdiv_eq_ediv_of_nonneg (by omega)
    have h2 := Int.ediv_le_self s (show 0 ≤ -n by omega)
    have h3 := Int.ediv_nonneg (show 0 ≤ -n by omega) (show 0 ≤ s by omega)
    rw [Int.neg_tdiv] at h1; omega
  · rw [Int.tdiv_eq_ediv_of_nonneg h0]
    have h2 := Int.ediv_le_self s h0
    have h3 := Int.ediv_nonneg h0 (show 0 ≤ s by omega)
    omega
def okD (near step : Int) : Bool := inn near 0 300 && inn step 1 100
theorem days_bd {rate near step : Int} (hr : 0 ≤ rate ∧ rate ≤ 1300) (hn : 0 ≤ near ∧ near ≤ 300) (hs : 1 ≤ step ∧ step ≤ 100) : 0 ≤ days rate near step ∧ days rate near step ≤ 1000000 := by
  have := tdiv_abs (n := max (rate - 1000) (1000 - rate) - near + step - 1) (s := step) (b := 10000) (by omega) (by omega)
  unfold days; omega
theorem okD_iff {near step : Int} : okD near step = true ↔ (0 ≤ near ∧ near ≤ 300) ∧ (1 ≤ step ∧ step ≤ 100) := by unfold okD inn; simp only [Bool.and_eq_true, decide_eq_true_eq]
theorem rates_bad (r : Rg) (n : Int) (f : List Int) (hk : r.kinds.length ≤ 1000000) (hh : r.hides.length ≤ 1000000) (hw : ∀ h ∈ r.hides, h.length ≤ 1000000) (hl : f.length ≤ 1000000) (he : fitE r n f true ≠ 0) : APure Tryz.prog 43 [rgA r, I n, ints f] (.tup [.agg [I 0, I 0], .agg [I 0, I 0], I (fitE r n f true)]) := by
  refine ap Tryz.func43 (fun e0 he0 => ?_)
  refine wz 7 ?_
  refine kz az (fit_pure r n f hk hh hw hl true) ?_
  refine wz 10 ?_
  refine iz (fun c_26 c_26' => ?_) (fun c_26 c_26' => ?_)
  ·refine wz 6 ?_
   exact retQ_res (vs := [.agg _, .agg _, .raw _]) rfl rfl ⟨resVar_cell rfl rfl ty25.h rfl, resVar_cell rfl rfl ty25.h rfl, resVar_tmp _ _ _, trivial⟩ (less_tup ⟨jz, jz, jz, trivial⟩)
  exfalso
  simp_all
theorem rates_ok {r : Rg} {h : Nat} {f : List Int} (hk : r.kinds.length ≤ 1000000) (hh : r.hides.length ≤ 1000000) (hw : ∀ h ∈ r.hides, h.length ≤ 1000000) (hl : f.length ≤ 1000000) (ho : okF r h f = true) (hm : may r h f = true) : APure Tryz.prog 43 [rgA r, I h, ints f] (.tup [.agg [I (rates4 r h f).1.1, I (rates4 r h f).1.2], .agg [I (rates4 r h f).2.1, I (rates4 r h f).2.2], I 0]) := by
  refine ap Tryz.func43 (fun e0 he0 => ?_)
  refine vz 4 ?_
  refine sq_nil ?_
  refine aw_seq ?_
  obtain ⟨gB, ⟨k0, hk0, hhl⟩, hfl, hrg, hfd⟩ := okF_facts ho
  obtain rfl : h = k0 := by omega
  have hLn := fit_len gB h f
  refine wz 3 ?_
  refine kz az (fit_ok hk hh hw hl ho hm) ?_
  refine wz 10 ?_
  refine iz (fun c_26 c_26' => ?_) (fun c_26 c_26' => ?_)
  ·exfalso
   simp_all
  refine vz 4 ?_
  refine sq_nil ?_
  refine aw_block ?_
  refine aw_sub (sub_token_cell 4 1 [] [.raw (.slice none 0 0)] rfl) ?_
  refine aw_sub (sub_token_cell 4 1 [.own 5 1 []] [] rfl) ?_
  refine aw_loopk (ι := { k : Nat // k ≤ (fit r h f).length }) [6, 7, 12, 30, 31] (fun i => [(32, I i.1)]) (fun H i => rtH r h f (asK (fit r h f) i.1) (bsK (fit r h f) i.1) []) (fun i => (fit r h f).length - i.1) (⟨0, Nat.zero_le _⟩) ⟨jz, jz, jz, jz, jz, jz, trivial⟩ rfl ?_
  rintro ⟨k, hk2⟩
  refine nz ?_
  have hal := asK_len (fit r h f) k
  have hbl := bsK_len (fit r h f) k
  refine wz 1 ?_
  refine iz (fun c_33 c_33' => ?_) (fun c_33 c_33' => ?_)
  ·have hkl : k < (fit r h f).length := by omega
   refine wz 4 ?_
   refine kz az (reading_pure) ?_
   refine wz 1 ?_
   refine aw_loopk (ι := { j : Nat // j ≤ 2 }) [6, 7, 12, 14, 30, 31, 32, 36] (fun i => [(37, I i.1)]) (fun H i => rtH r h f (asK (fit r h f) (if 0 < i.1 then k + 1 else k)) (bsK (fit r h f) (if 1 < i.1 then k + 1 else k)) [.cells (rtC (fit r h f)[k])]) (fun i => 2 - i.1) (⟨0, by omega⟩) ⟨jz, jz, jz, jz, jz, jz, jz, jz, jz, trivial⟩ rfl ?_
   rintro ⟨j, hj⟩
   refine nz ?_
   have hkl : k < (fit r h f).length := by omega
   rcases (show j = 0 ∨ j = 1 ∨ j = 2 by omega) with rfl | rfl | rfl
   ·refine wz 6 ?_
    refine aw_drawc [] [8, 10] _ mo (by kernel_rfl) (HSub.mask [4] 0 _) ?_
    refine dc_ev rfl (ev_mv (v := .raw _) jz) ?_
    refine dc_ev rfl (ev_mv (v := .raw _) jz) ?_
    first | refine dc_ev rfl (ev_index_box ar145.h jz jz rfl (by omega)) ?_ | refine dc_ev rfl (ev_index_box_i ar145.h jz jz rfl (by omega)) ?_
    refine dc_ev0 rfl (by kernel_rfl) (ev_load jz rfl ty28.h rfl) ?_
    first | refine dc_ev rfl (ev_mv (v := .fn _ _ _) jz) ?_ | refine dc_ev rfl (ev_mv (v := .raw _) jz) ?_
    first | refine dc_ev rfl (ev_load_agg jz rfl ty120.h rfl) ?_ | refine dc_ev rfl (ev_load_agg_i jz ty120.h (by exact Nat.le_of_ble_eq_true rfl)) ?_
    refine dc_ev rfl (ev_call en108.h jz (along_pure _) ⟨jz, trivial⟩) ?_
    refine dc_ev rfl (ev_buildSlice (es := [[_]]) sf28.h rfl rfl rfl rfl) ?_
    refine dc_eff rfl rfl (eff_append rfl sf28.h Tryz.underlying28 rfl rfl (less_slx _ _) (by simp; omega) (by simp; omega)) (by apply HL.sub; repeat' (first | exact HL.nil _ | apply HL.same | apply HL.tok)) ?_
    first | refine dc_ev rfl (ev_index_box ar145.h jz jz rfl (by omega)) ?_ | refine dc_ev rfl (ev_index_box_i ar145.h jz jz rfl (by omega)) ?_
    refine dc_eff rfl rfl (eff_store rfl jz jz rfl rfl ty28.h rfl rfl) (by apply HL.sub; repeat' (first | exact HL.nil _ | apply HL.same | apply HL.tok)) ?_
    refine dc_nil ?_
    refine wz 2 ?_
    exact ⟨⟨0 + 1, by omega⟩, by simp only; omega, sb 8 ⟨jz, jz, jz, jz, jz, jz, jz, jz, jz, trivial⟩ (hH := (congrArg (fun A => rtH r h f A (bsK (fit r h f) k) [.cells (rtC (fit r h f)[k])]) (asK_succ hkl).symm))⟩
   ·refine wz 6 ?_
    refine aw_drawc [] [8, 10] _ mo (by kernel_rfl) (HSub.mask [4] 0 _) ?_
    refine dc_ev rfl (ev_mv (v := .raw _) jz) ?_
    refine dc_ev rfl (ev_mv (v := .raw _) jz) ?_
    first | refine dc_ev rfl (ev_index_box ar145.h jz jz rfl (by omega)) ?_ | refine dc_ev rfl (ev_index_box_i ar145.h jz jz rfl (by omega)) ?_
    refine dc_ev0 rfl (by kernel_rfl) (ev_load jz rfl ty28.h rfl) ?_
    first | refine dc_ev rfl (ev_mv (v := .fn _ _ _) jz) ?_ | refine dc_ev rfl (ev_mv (v := .raw _) jz) ?_
    first | refine dc_ev rfl (ev_load_agg jz rfl ty120.h rfl) ?_ | refine dc_ev rfl (ev_load_agg_i jz ty120.h (by exact Nat.le_of_ble_eq_true rfl)) ?_
    refine dc_ev rfl (ev_call en109.h jz (across_pure _) ⟨jz, trivial⟩) ?_
    refine dc_ev rfl (ev_buildSlice (es := [[_]]) sf28.h rfl rfl rfl rfl) ?_
    refine dc_eff rfl rfl (eff_append rfl sf28.h Tryz.underlying28 rfl rfl (less_slx _ _) (by simp; omega) (by simp; omega)) (by apply HL.sub; repeat' (first | exact HL.nil _ | apply HL.same | apply HL.tok)) ?_
    first | refine dc_ev rfl (ev_index_box ar145.h jz jz rfl (by omega)) ?_ | refine dc_ev rfl (ev_index_box_i ar145.h jz jz rfl (by omega)) ?_
    refine dc_eff rfl rfl (eff_store rfl jz jz rfl rfl ty28.h rfl rfl) (by apply HL.sub; repeat' (first | exact HL.nil _ | apply HL.same | apply HL.tok)) ?_
    refine dc_nil ?_
    refine wz 2 ?_
    exact ⟨⟨1 + 1, by omega⟩, by simp only; omega, sb 8 ⟨jz, jz, jz, jz, jz, jz, jz, jz, jz, trivial⟩ (hH := (congrArg (fun A => rtH r h f (asK (fit r h f) (k + 1)) A [.cells (rtC (fit r h f)[k])]) (bsK_succ hkl).symm))⟩
   ·refine wz 4 ?_
    exact ⟨⟨k + 1, by omega⟩, by simp only; omega, sb 7 ⟨jz, jz, jz, jz, jz, jz, trivial⟩ (hH := rfl)⟩
  obtain rfl : k = (fit r h f).length := by omega
  refine wz 0 ?_
  refine aw_draw 6 mo (by kernel_rfl) ?_
  refine dz 2 ?_
  refine dr_ev rfl (ev_call en99.h jz (bound_pure ((fit r h f).map Rt.a) (by simp; exact fit_ne gB hm) (by simp; omega)) ⟨Less.trans (less_own _ _ _) (Less.eq (by simp only [asK, bsK, ints, List.take_length, List.map_map] <;> rfl)), trivial⟩) ?_
  refine dz 2 ?_
  refine dr_ev rfl (ev_call en99.h jz (bound_pure ((fit r h f).map Rt.b) (by simp; exact fit_ne gB hm) (by simp; omega)) ⟨Less.trans (less_own _ _ _) (Less.eq (by simp only [asK, bsK, ints, List.take_length, List.map_map] <;> rfl)), trivial⟩) ?_
  refine dr_end ?_
  refine wz 3 ?_
  exact retQ_res (vs := [.agg _, .agg _, .raw _]) rfl rfl ⟨resVar_cell rfl rfl ty25.h rfl, resVar_cell rfl rfl ty25.h rfl, resVar_tmp _ _ _, trivial⟩ (less_tup ⟨jz, jz, jz, trivial⟩)
end Go.Proofs.YtjpokekbjmdgmaaGreatDoor
