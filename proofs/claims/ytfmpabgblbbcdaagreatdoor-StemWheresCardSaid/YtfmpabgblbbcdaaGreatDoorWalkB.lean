/-
  A part of the proof: conditions: none beyond each theorem's own.
-/
import Derived.Test.YtfmpabgblbbcdaaGreatDoorWalkA
import Derived.Test.YtfmpabgblbbcdaaGreatDoorLogicC
import Derived.Test.YtfmpabgblbbcdaaGreatDoorLogicD
import Derived.KernelRfl
import Derived.Lib.LaidTab
import Derived.Lib.ItoaNum
import Derived.Test.YtfmpabgblbbcdaaGreatDoorShelf
set_option linter.all false
set_option maxRecDepth 100000
set_option maxHeartbeats 8000000
namespace Go.Proofs.YtfmpabgblbbcdaaGreatDoor
open Go Go.Ab Ni St
open Hd hiding sz
instance bi99 : BdI Tryz.prog 99 [.raw (.int .i64 0), .raw (.int .i64 0)] true [(0, 1), (1, 1)] 0 := ⟨by kernel_rfl⟩
instance en105 : EnT Tryz.prog 105 := ⟨Ent.of Tryz.func105 (by kernel_rfl) rfl⟩
instance en137 : EnT Tryz.prog 137 := ⟨Ent.of Tryz.func137 (by kernel_rfl) rfl⟩
instance en150 : EnT Tryz.prog 150 := ⟨Ent.of Tryz.func150 (by kernel_rfl) rfl⟩
instance en165 : EnT Tryz.prog 165 := ⟨Ent.of Tryz.func165 (by kernel_rfl) rfl⟩
instance en171 : EnT Tryz.prog 171 := ⟨Ent.of Tryz.func171 (by kernel_rfl) rfl⟩
instance en98 : EnT Tryz.prog 98 := ⟨Ent.of Tryz.func98 (by kernel_rfl) rfl⟩
instance ni181 : NiF Tryz.prog 181 := ⟨by kernel_rfl⟩
instance ni99 : NiF Tryz.prog 99 := ⟨by kernel_rfl⟩
instance ty181 : TyF Tryz.prog 181 true 1 := ⟨by kernel_rfl⟩
instance ty30 : TyF Tryz.prog 30 false 1 := ⟨by kernel_rfl⟩
instance ty4 : TyF Tryz.prog 4 false 1 := ⟨by kernel_rfl⟩
instance ty99 : TyF Tryz.prog 99 true 2 := ⟨by kernel_rfl⟩
theorem un20 : Tryz.prog.underlying 20 = some (.interface #[]) := by kernel_rfl
instance z181 : ZeO Tryz.prog 181 [.raw (.string ByteArray.empty)] := ⟨by kernel_rfl⟩
instance z30 : ZeO Tryz.prog 30 [.raw (.int .i64 0)] := ⟨by kernel_rfl⟩
instance z4 : ZeO Tryz.prog 4 [.raw (.bool false)] := ⟨by kernel_rfl⟩
instance z99 : ZeO Tryz.prog 99 [.raw (.int .i64 0), .raw (.int .i64 0)] := ⟨by kernel_rfl⟩
theorem retQM_res {P : Program} {rs : List ResultVar} {res : AV} {vs : List AV} {s : St} {H' : List AObj} (hm : takeMarks s.H s.df = some H') (hlen : Nat.ble rs.length 3 = true) (hv : ResL P { s with H := H' } rs vs) (hl : Less (resTup vs) res) :
    retQM P rs (fun x _ => ∃ v, x = .ret v ∧ Less v res) .ret s := retQM_pure hm (resAV_of (Nat.le_of_ble_eq_true hlen) hv) hl
theorem aw_rangeFunc0 {c : Ctx} {Q : AExit → St → Prop} {s : St} {g : Operand} {p : Nat} {body : Code} {f : FuncId} {first caps xs : List AV} (T : Nat → List AObj) (m : Nat) (jump : Option Code)
    (hm : m ≤ xs.length) (hj : jump = none → m = xs.length) (hj' : jump ≠ none → 0 < m) (hjo : jumpOK jump = true) {DD : List AObj} {DM : List ADef} (hen : Ab.Enters c s p .skip body DD DM) (hDD : ∀ k, objsIn k DD = true)
    (hg : Less (s.op g) (.fn (.func f) first caps)) (he : Ent c.P f) (hit : AIter2 c.P f first caps xs)
    (hT0 : T 0 = s.H) (hlen : ∀ i, (T i).length = s.H.length) (hin : ∀ i, i ≤ m → objsIn s.H.length (T i) = true) (hpx : ∀ x ∈ xs, x.pureB = true) (hp : Nat.blt p c.nt = true)
    (hb : ∀ l i x e0, i < m → xs[i]? = some x → e0.H = T i → LoopAt e0 l → c.e0.Le e0 → AWP ⟨c.P, some l, c.nt, e0⟩ body (fun ax s' => (∃ Y, s'.H = T (i + 1) ++ Y) ∧ s'.df = [] ∧ jumpEx (if i + 1 = m then jump else none) ax) ⟨(p, x) :: s.sl, T i, []⟩)
    (k : ∀ ax, jumpEx jump ax → Q ax ⟨s.sl, T m ++ DD, DM ++ s.df⟩) : AWP c (.rangeFunc g #[p] .skip body) Q s :=
  aw_rangeFuncG T m jump (fun _ x => (p, x) :: s.sl) hm hj hj' hjo hen hDD hg he hit hT0 hlen hin hpx hp (fun l i x e0 hi hx he0 => aw_skip ⟨rfl, rfl⟩) hb k
theorem some_yes {F : FuncId} {caps xs : List AV} {a : AV} (en : Ent Tryz.prog F) (hit : AIter2 Tryz.prog F [] caps (a :: xs)) (hpx : ∀ x ∈ a :: xs, x.pureB = true) (hp : AV.pureL caps = true) : APure Tryz.prog 165 [.fn (.func F) [] caps] (B true) := by
  refine apure_of_marks (rs := [.cell 2 4]) Tryz.func165 rfl rfl (Nat.le_of_ble_eq_true rfl) (by simp [AV.pureL, AV.pureB, hp]) rfl fun e0 he0 => ?_
  refine vz 2 ?_
  refine sq_nil ?_
  refine aw_block ?_
  refine nz ?_
  refine aw_rangeFunc0 (xs := a :: xs) (fun k => [.cells [B (decide (0 < k))]]) 1 (some .ret) (by simp) (fun h => by cases h) (fun _ => Nat.one_pos) rfl (enters_outer rfl) dd_in jz en hit rfl (fun _ => rfl) (fun i hi => rfl) hpx rfl ?_ ?_
  · intro q i x e1 hi hx he1 hlp hce
    obtain rfl : i = 0 := by omega
    refine nz ?_
    refine wz 1 ?_
    exact ⟨⟨[], rfl⟩, rfl, rfl⟩
  · rintro _ rfl
    refine nz ?_
    exact retQM_res (vs := [B true]) rfl rfl ⟨resVar_cell1 rfl rfl ty4.h rfl, trivial⟩ jz
theorem some_no {F : FuncId} {caps : List AV} (en : Ent Tryz.prog F) (hit : AIter2 Tryz.prog F [] caps []) (hp : AV.pureL caps = true) : APure Tryz.prog 165 [.fn (.func F) [] caps] (B false) := by
  refine apure_of_marks (rs := [.cell 2 4]) Tryz.func165 rfl rfl (Nat.le_of_ble_eq_true rfl) (by simp [AV.pureL, AV.pureB, hp]) rfl fun e0 he0 => ?_
  refine vz 2 ?_
  refine sq_nil ?_
  refine aw_block ?_
  refine nz ?_
  refine aw_rangeFunc0 (xs := []) (fun _ => [.cells [B false]]) 0 none (Nat.le_refl _) (fun _ => rfl) (fun h => absurd rfl h) rfl (enters_outer rfl) dd_in jz en hit rfl (fun _ => rfl) (fun i hi => rfl) (fun x hx => by cases hx) rfl ?_ ?_
  · intro q i x e1 hi hx he1 hlp hce
    exact absurd hi (Nat.not_lt_zero _)
  · rintro _ rfl
    refine nz ?_
    refine wz 1 ?_
    exact retQM_res (vs := [B false]) rfl rfl ⟨resVar_cell1 rfl rfl ty4.h rfl, trivial⟩ jz
theorem some_pure {F : FuncId} {caps xs : List AV} (en : Ent Tryz.prog F) (hit : AIter2 Tryz.prog F [] caps xs) (hpx : ∀ x ∈ xs, x.pureB = true) (hp : AV.pureL caps = true) : APure Tryz.prog 165 [.fn (.func F) [] caps] (B (!xs.isEmpty)) := by
  cases xs with
  | nil => exact some_no en hit hp
  | cons a xs => exact some_yes en hit hpx hp
theorem someL_pure {p : Ply} (gP : PlB p) {x : Scn} (gX : ScB p x) (b : Bool) : APure Tryz.prog 165 [.fn (.func 171) [] [.iptr (stC p x), .iptr [I (many b : Nat)]]] (B (!(arr b p x).isEmpty)) := by
  have h := some_pure en171.h (lists_iter gP gX b) (fun x hx => hdA_pure hx) (by simp [AV.pureL, AV.pureB])
  rwa [show ((arr b p x).map ints).isEmpty = (arr b p x).isEmpty by cases arr b p x <;> rfl] at h
theorem adefer_none (i j : Nat) (H : List AObj) : ADefer Tryz.prog 150 [.ptr i 0, .ptr j 0] H none (fun H' => H' = H) := by
  refine adefer_of Tryz.func150 rfl rfl (Nat.le_of_ble_eq_true rfl) rfl fun e0 he0 => ?_
  refine aw_block ?_
  refine aw_seq ?_
  refine aw_region (sq_ev rfl (ev_nil_nil un20 jz jz) ?_)
  refine sq_nil ?_
  refine aw_true jz ?_
  refine aw_region (sq_ev rfl (ev_as (v := .raw _) jz) ?_)
  refine sq_nil ?_
  exact ⟨.inl rfl, rfl, rfl⟩
theorem adefer_lack (H : List AObj) (i j : Nat) (n k : Int) {c1 c2 c3 : AV} (hi : H[i]? = some (.cells [c1, c2])) (hj : H[j]? = some (.cells [c3])) (hij : i ≠ j) :
    ADefer Tryz.prog 150 [.ptr i 0, .ptr j 0] H (some (.ifc 99 (.agg [I n, I k]))) (fun H' => ∃ X, H' = (H.set i (.cells [I n, I k])).set j (.cells [I 7]) ++ X) := by
  refine adefer_of Tryz.func150 rfl rfl (Nat.le_of_ble_eq_true rfl) rfl fun e0 he0 => ?_
  rw [nil_pre H]
  refine aw_block ?_
  refine aw_seq ?_
  refine aw_region (sq_ev rfl (ev_ifc_eqnil un20 jz jz) ?_)
  refine sq_nil ?_
  refine aw_false jz ?_
  refine aw_seq ?_
  refine aw_region (sq_ev rfl (ev_assert_yes ni99.h jz) ?_)
  refine sq_ev rfl (ev_extract jz rfl) ?_
  refine sq_ev rfl (ev_extract jz rfl) ?_
  refine sq_nil ?_
  refine aw_true jz ?_
  refine aw_seq ?_
  refine aw_region ?_
  refine sq_allocP (H0 := H) (X := []) rfl z99.h ?_
  refine sq_storeP (H0 := H) (j := 0) rfl jz jz rfl rfl ty99.h rfl rfl ?_
  refine sq_nil ?_
  refine aw_region (sq_ev rfl (ev_load_agg jz (lookP (H0 := H) (m := 0) rfl) ty99.h rfl) ?_)
  refine sq_storeL (H0 := H) (a := .agg [I n, I k]) rfl jz jz rfl hi ty99.h rfl rfl ?_
  refine sq_storeL (H0 := H.set i (.cells [I n, I k])) rfl jz jz rfl (by rw [List.getElem?_set_ne hij]; exact hj) ty30.h rfl rfl ?_
  refine sq_nil ?_
  exact ⟨.inl rfl, rfl, [.cells [I n, I k]], by simp only [List.append_nil]; rfl⟩
theorem adefer_text (H : List AObj) (i j : Nat) (w : AV) {c3 : AV} (hj : H[j]? = some (.cells [c3])) (hw : w.cells = some [w]) :
    ADefer Tryz.prog 150 [.ptr i 0, .ptr j 0] H (some (.ifc 181 (.agg [w]))) (fun H' => ∃ X, H' = H.set j (.cells [I 4]) ++ X) := by
  refine adefer_of Tryz.func150 rfl rfl (Nat.le_of_ble_eq_true rfl) rfl fun e0 he0 => ?_
  rw [nil_pre H]
  refine aw_block ?_
  refine aw_seq ?_
  refine aw_region (sq_ev rfl (ev_ifc_eqnil un20 jz jz) ?_)
  refine sq_nil ?_
  refine aw_false jz ?_
  refine aw_seq ?_
  refine aw_region (sq_ev rfl (ev_assert_no ni99.h z99.h rfl jz) ?_)
  refine sq_ev rfl (ev_extract jz rfl) ?_
  refine sq_ev rfl (ev_extract jz rfl) ?_
  refine sq_nil ?_
  refine aw_false jz ?_
  refine aw_seq ?_
  refine aw_region (sq_ev rfl (ev_assert_yes ni181.h jz) ?_)
  refine sq_ev rfl (ev_extract jz rfl) ?_
  refine sq_ev rfl (ev_extract jz rfl) ?_
  refine sq_nil ?_
  refine aw_true jz ?_
  refine aw_seq ?_
  refine aw_region ?_
  refine sq_allocP (H0 := H) (X := []) rfl z181.h ?_
  refine sq_storeP (H0 := H) (j := 0) rfl jz jz rfl rfl ty181.h rfl rfl ?_
  refine sq_nil ?_
  refine aw_region ?_
  refine sq_storeL (H0 := H) rfl jz jz rfl hj ty30.h rfl rfl ?_
  refine sq_nil ?_
  exact ⟨.inl rfl, rfl, [.cells [w]], by simp only [List.append_nil]; rfl⟩
inductive Gave : ARes → AV → Prop
  | ret (v : AV) : Gave (.ret v) (.tup [.agg [I 0, I 0], I 0])
  | lack (n k : Int) : Gave (.pan (.ifc 99 (.agg [I n, I k]))) (.tup [.agg [I n, I k], I 7])
  | text (w : AV) (hw : w.cells = some [w]) : Gave (.pan (.ifc 181 (.agg [w]))) (.tup [.agg [I 0, I 0], I 4])
theorem attempt_call {f : FuncId} {first caps : List AV} {H : List AObj} {Rd : ARes → List AObj → Prop} (he : Ent Tryz.prog f)
    (hdo : ACall Tryz.prog f (first ++ caps) (H ++ [.cells [I 0, I 0], .cells [I 0]]) fun x H' => ∃ H1 X, H' = H1 ++ ([.cells [I 0, I 0], .cells [I 0]] ++ X) ∧ H1.length = H.length ∧ Rd x H1 ∧ ∃ v, Gave x v) :
    ACall Tryz.prog 105 [.fn (.func f) first caps] H fun x H' => ∃ y v H1 X, x = .ret v ∧ Gave y v ∧ Rd y H1 ∧ H' = H1 ++ X := by
  refine acall_of_defer (rs := [.cell 2 99, .cell 3 30]) Tryz.func105 rfl rfl (Nat.le_of_ble_eq_true rfl) en150.h fun e0 he0 => ?_
  rw [nil_pre H] at he0 ⊢
  refine aw_seq ?_
  refine aw_region ?_
  refine sq_allocP (H0 := H) (X := []) rfl z99.h ?_
  refine sq_allocP (H0 := H) (X := [.cells [I 0, I 0]]) rfl z30.h ?_
  refine sq_nil ?_
  refine aw_seq ?_
  refine aw_region (sq_ev rfl ev_makeFunc ?_)
  refine sq_defer rfl rfl jz ?_
  refine sq_nil ?_
  refine aw_seq ?_
  refine aw_region (sq_ev rfl (ev_mv (v := .fn _ _ _) jz) ?_)
  refine sq_call (f := f) (first := first) (cap := caps) (args := first ++ caps) rfl he jz (by simpa using LessL.rfl' (first ++ caps)) hdo ?_ ?_
  · rintro v _ ⟨H1, X, rfl, hl, hRd, hg⟩
    refine sq_nil ?_
    refine aw_seq ?_
    refine aw_region (sq_ev rfl (ev_build bi99.h rfl) ?_)
    refine sq_storeP (H0 := H1) (j := 0) rfl (Less.eq (by rw [hl]; rfl)) jz rfl rfl ty99.h rfl rfl ?_
    refine sq_storeP (H0 := H1) (j := 1) rfl (Less.eq (by rw [hl]; rfl)) jz rfl rfl ty30.h rfl rfl ?_
    refine sq_nil (aw_ret ?_)
    refine ⟨_, _, rfl, adefer_none _ _ _, ?_⟩
    rintro _ rfl
    refine ⟨.tup [.agg [I 0, I 0], I 0], ?_, _, _, H1, _, rfl, Gave.ret v, hRd, rfl⟩
    refine resAV_of (vs := [.agg [I 0, I 0], I 0]) (Nat.le_of_ble_eq_true rfl) ?_
    refine ⟨resVar_cell (i := H1.length + 0) (off := 0) (l := [I 0, I 0]) ?_ (lookP (H0 := H1) rfl) ty99.h rfl, resVar_cell1 (i := H1.length + 1) (off := 0) ?_ (lookP (H0 := H1) rfl) ty30.h rfl, trivial⟩
    · rw [hl]; rfl
    · rw [hl]; rfl
  · rintro v _ ⟨H1, X, rfl, hl, hRd, u, hg⟩
    have hi : (H1 ++ ([AObj.cells [I 0, I 0], AObj.cells [I 0]] ++ X))[H.length + 0]? = some (.cells [I 0, I 0]) := by rw [← hl]; exact lookP (by rfl)
    have hj : (H1 ++ ([AObj.cells [I 0, I 0], AObj.cells [I 0]] ++ X))[H.length + 1]? = some (.cells [I 0]) := by rw [← hl]; exact lookP (by rfl)
    cases hg with
    | lack n k =>
      refine ⟨_, _, rfl, adefer_lack _ (H.length + 0) (H.length + 1) n k hi hj (by omega), ?_⟩
      rintro _ ⟨Y, rfl⟩
      have e1 : ((H1 ++ ([AObj.cells [I 0, I 0], AObj.cells [I 0]] ++ X)).set (H.length + 0) (.cells [I n, I k])).set (H.length + 1) (.cells [I 7]) ++ Y = H1 ++ ([.cells [I n, I k], .cells [I 7]] ++ (X ++ Y)) := by
        rw [← hl, setP, setP]; simp
      rw [e1]
      refine ⟨.tup [.agg [I n, I k], I 7], ?_, _, _, H1, _, rfl, Gave.lack n k, hRd, rfl⟩
      refine resAV_of (vs := [.agg [I n, I k], I 7]) (Nat.le_of_ble_eq_true rfl) ?_
      refine ⟨resVar_cell (i := H1.length + 0) (off := 0) (l := [I n, I k]) ?_ (lookP (H0 := H1) rfl) ty99.h rfl, resVar_cell1 (i := H1.length + 1) (off := 0) ?_ (lookP (H0 := H1) rfl) ty30.h rfl, trivial⟩
      · rw [hl]; rfl
      · rw [hl]; rfl
    | text w hw =>
      refine ⟨_, _, rfl, adefer_text _ (H.length + 0) (H.length + 1) w hj hw, ?_⟩
      rintro _ ⟨Y, rfl⟩
      have e1 : (H1 ++ ([AObj.cells [I 0, I 0], AObj.cells [I 0]] ++ X)).set (H.length + 1) (.cells [I 4]) ++ Y = H1 ++ ([.cells [I 0, I 0], .cells [I 4]] ++ (X ++ Y)) := by
        rw [← hl, setP]; simp
      rw [e1]
      refine ⟨.tup [.agg [I 0, I 0], I 4], ?_, _, _, H1, _, rfl, Gave.text w hw, hRd, rfl⟩
      refine resAV_of (vs := [.agg [I 0, I 0], I 4]) (Nat.le_of_ble_eq_true rfl) ?_
      refine ⟨resVar_cell (i := H1.length + 0) (off := 0) (l := [I 0, I 0]) ?_ (lookP (H0 := H1) rfl) ty99.h rfl, resVar_cell1 (i := H1.length + 1) (off := 0) ?_ (lookP (H0 := H1) rfl) ty30.h rfl, trivial⟩
      · rw [hl]; rfl
      · rw [hl]; rfl
end Go.Proofs.YtfmpabgblbbcdaaGreatDoor
namespace Go.Proofs.YtfmpabgblbbcdaaGreatDoor
open Go Go.Ab Ni St
open Hd hiding sz
instance en117 : EnT Tryz.prog 117 := ⟨Ent.of Tryz.func117 (by kernel_rfl) rfl⟩
instance en136 : EnT Tryz.prog 136 := ⟨Ent.of Tryz.func136 (by kernel_rfl) rfl⟩
instance en147 : EnT Tryz.prog 147 := ⟨Ent.of Tryz.func147 (by kernel_rfl) rfl⟩
instance en99 : EnT Tryz.prog 99 := ⟨Ent.of Tryz.func99 (by kernel_rfl) rfl⟩
def playR (p : Ply) (n : Nat) (x : ARes) : Prop := (St.can p (sc p n) = true ∧ x = .ret (.tup [])) ∨ (St.can p (sc p n) = false ∧ x = .pan (.ifc 99 (.agg [I n, I (lacks p (sc p n))])))
theorem can_hands {p : Ply} {x : Scn} (h : 2 < hands p x) : St.can p x = false ∧ lacks p x = 1 := by
  unfold St.can lacks; rw [if_pos h, decide_eq_false (by omega)]; exact ⟨rfl, rfl⟩
theorem can_first {p : Ply} {x : Scn} (h : ¬ 2 < hands p x) (h2 : (!(arr false p x).isEmpty) = false) : St.can p x = false ∧ lacks p x = 2 := by
  have h3 : arr false p x = [] := by simpa using h2
  unfold St.can lacks; rw [if_neg h, if_pos h3, arr_weak h3]; simp
theorem can_all {p : Ply} {x : Scn} (h : ¬ 2 < hands p x) (h2 : (!(arr false p x).isEmpty) = true) (h3 : (!(arr true p x).isEmpty) = false) : St.can p x = false ∧ lacks p x = 3 := by
  have h4 : ¬ arr false p x = [] := by simpa using h2
  unfold St.can lacks; rw [if_neg h, if_neg h4, h3]; simp
theorem can_yes {p : Ply} {x : Scn} (h : ¬ 2 < hands p x) (h3 : (!(arr true p x).isEmpty) = true) : St.can p x = true := by
  unfold St.can; rw [h3, decide_eq_true (by omega)]; rfl
theorem play_call {p : Ply} (gP : PlB p) {n : Nat} (hn : n < p.scs.length) (H : List AObj) : ACall Tryz.prog 137 [plA p, I n] H (fun x H' => (∃ X, H' = H ++ X) ∧ playR p n x) := by
  refine acall_of (rs := []) Tryz.func137 rfl rfl (Nat.le_of_ble_eq_true rfl) fun e0 he0 => ?_
  refine aw_seq ?_
  rw [nil_pre H]
  refine wz 0 ?_
  refine sq_boxP (H0 := H) (X := []) rfl jz rfl ?_
  refine sq_frz (A := H) (X := []) [1] 2 rfl ?_
  refine wz 2 ?_
  refine kz az (stage_pure hn (by have := gP.ns; omega)) ?_
  refine sq_allocP (H0 := H) (X := [.dead]) rfl z127.h ?_
  refine sq_storeE (A := H) (X := [.dead]) rfl rfl jz jz rfl ty127.h rfl rfl ?_
  refine sq_frz (A := H) (X := [.dead]) [1] 4 rfl ?_
  refine wz 1 ?_
  refine kz az (hands_pure gP (sc_B gP hn)) ?_
  refine wz 2 ?_
  refine iz (fun c_8 c_8' => ?_) (fun c_8 c_8' => ?_)
  ·refine wz 3 ?_
   refine sq_panic jz ?_
   have hc := can_hands (by simpa using c_8)
   exact ⟨rfl, ⟨[.dead, .dead], (by show H ++ ([AObj.dead] ++ [AObj.dead]) = H ++ [] ++ [AObj.dead, AObj.dead]; simp)⟩, .inr ⟨hc.1, by rw [hc.2]; rfl⟩⟩
  refine wz 1 ?_
  refine kz az (lists_pure p (sc p n) false) ?_
  refine kz az (someL_pure gP (sc_B gP hn) false) ?_
  refine wz 2 ?_
  refine iz (fun c_15 c_15' => ?_) (fun c_15 c_15' => ?_)
  ·refine wz 3 ?_
   refine sq_panic jz ?_
   have hc := can_first (by simpa using c_8) (by simpa using c_15)
   exact ⟨rfl, ⟨[.dead, .dead], (by show H ++ ([AObj.dead] ++ [AObj.dead]) = H ++ [] ++ [AObj.dead, AObj.dead]; simp)⟩, .inr ⟨hc.1, by rw [hc.2]; rfl⟩⟩
  refine wz 1 ?_
  refine kz az (arrs_pure p (sc p n)) ?_
  refine kz az (someL_pure gP (sc_B gP hn) true) ?_
  refine wz 2 ?_
  refine iz (fun c_23 c_23' => ?_) (fun c_23 c_23' => ?_)
  ·refine wz 3 ?_
   refine sq_panic jz ?_
   have hc := can_all (by simpa using c_8) (by simpa using c_15) (by simpa using c_23)
   exact ⟨rfl, ⟨[.dead, .dead], (by show H ++ ([AObj.dead] ++ [AObj.dead]) = H ++ [] ++ [AObj.dead, AObj.dead]; simp)⟩, .inr ⟨hc.1, by rw [hc.2]; rfl⟩⟩
  refine wz 0 ?_
  exact ⟨rfl, .tup [], rfl, ⟨[.dead, .dead], (by show H ++ ([AObj.dead] ++ [AObj.dead]) = H ++ [] ++ [AObj.dead, AObj.dead]; simp)⟩, .inl ⟨can_yes (by simpa using c_8) (by simpa using c_23), rfl⟩⟩
theorem playD {p : Ply} (gP : PlB p) {n : Nat} (hn : n < p.scs.length) {H : List AObj} (hin : objsIn H.length H = true) : ACall Tryz.prog 137 [plA p, I n] H (fun x H' => H' = H ∧ playR p n x) :=
  ACall.drop (R := playR p n) (play_call gP hn H) (Nat.le_refl _) hin (fun x hx => by rcases hx with ⟨_, rfl⟩ | ⟨_, rfl⟩ <;> rfl)
def lackE (p : Ply) (o : Option Nat) : AV := match o with
  | none => .tup [.agg [I 0, I 0], I 0]
  | some n => .tup [.agg [I n, I (lacks p (sc p n))], I 7]
def failR (p : Ply) (x : ARes) : Prop := match failsAt p with
  | none => x = .ret (.tup [])
  | some n => x = .pan (.ifc 99 (.agg [I n, I (lacks p (sc p n))]))
theorem lackE_pure (p : Ply) (o : Option Nat) : (lackE p o).pureB = true := by unfold lackE; split <;> rfl
theorem can1_call {p : Ply} (gP : PlB p) {n : Nat} (hn : n < p.scs.length) {H : List AObj} (hin : objsIn H.length H = true) : ACall Tryz.prog 147 [.iptr (plC p), .iptr [I n]] H (fun x H' => H' = H ∧ playR p n x) := by
  refine acall_of (rs := []) Tryz.func147 rfl rfl (Nat.le_of_ble_eq_true rfl) fun e0 he0 => ?_
  refine wz 2 ?_
  refine sq_call (first := []) (cap := []) (args := [plA p, I n]) rfl en137.h jz ⟨jz, jz, trivial⟩ (playD gP hn hin) ?_ (by rintro v H' ⟨rfl, hR⟩; rcases hR with ⟨_, h⟩ | ⟨hc, h⟩ <;> cases h; exact ⟨rfl, rfl, .inr ⟨hc, rfl⟩⟩)
  rintro _ _ ⟨rfl, hR⟩
  obtain ⟨hc, h⟩ | ⟨_, h⟩ := hR <;> cases h
  refine wz 0 ?_
  exact ⟨rfl, .tup [], rfl, rfl, .inl ⟨hc, rfl⟩⟩
theorem attcan_pure {p : Ply} (gP : PlB p) {n : Nat} (hn : n < p.scs.length) : APure Tryz.prog 105 [.fn (.func 147) [] [.iptr (plC p), .iptr [I n]]] (lackE p (if St.can p (sc p n) = true then none else some n)) := by
  refine APure.of_acall (by simp [AV.pureL, AV.pureB]) (lackE_pure _ _) ?_
  refine (attempt_call (H := []) (first := []) (caps := [.iptr (plC p), .iptr [I n]]) (Rd := fun x H1 => playR p n x) en147.h ((can1_call gP hn rfl).mono ?_)).mono ?_
  · rintro x _ ⟨rfl, hx⟩
    refine ⟨[], [], by simp, rfl, hx, ?_⟩
    rcases hx with ⟨_, rfl⟩ | ⟨_, rfl⟩
    · exact ⟨_, Gave.ret _⟩
    · exact ⟨_, Gave.lack _ _⟩
  · rintro x H' ⟨y, v, H1, X, rfl, hg, hx, rfl⟩
    refine ⟨v, rfl, ?_⟩
    rcases hx with ⟨hm, rfl⟩ | ⟨hm, rfl⟩
    · cases hg; rw [if_pos hm]; exact jz
    · cases hg; rw [if_neg (by rw [hm]; simp)]; exact jz
theorem fails1_call {p : Ply} (gP : PlB p) {H : List AObj} (hin : objsIn H.length H = true) : ACall Tryz.prog 136 [.iptr (plC p)] H (fun x H' => H' = H ∧ failR p x) := by
  refine acall_of (rs := []) Tryz.func136 rfl rfl (Nat.le_of_ble_eq_true rfl) fun e0 he0 => ?_
  refine aw_seq ?_
  have hns := gP.ns
  refine wz 4 ?_
  refine aw_loopk (ι := { k : Nat // k ≤ p.scs.length ∧ ∀ j, j < k → St.can p (sc p j) = true }) [0, 4] (fun k => [(5, I (k.1 : Nat))]) (fun H k => H) (fun k => p.scs.length - k.1) (⟨0, Nat.zero_le _, by omega⟩) ⟨jz, jz, jz, trivial⟩ rfl ?_
  rintro ⟨k, hk, hok⟩
  refine nz ?_
  refine wz 1 ?_
  refine iz (fun c_6 c_6' => ?_) (fun c_6 c_6' => ?_)
  ·have hkl : k < p.scs.length := by omega
   refine wz 4 ?_
   refine sq_call (first := []) (cap := []) (args := [plA p, I (k : Nat)]) rfl en137.h jz ⟨jz, jz, trivial⟩ (playD gP hkl hin) ?_ (by rintro v H' ⟨rfl, hR⟩; rcases hR with ⟨_, h⟩ | ⟨hc, h⟩ <;> cases h; exact ⟨rfl, rfl, by unfold failR; rw [fails_is hkl hc hok]⟩)
   rintro _ _ ⟨rfl, hR⟩
   obtain ⟨hc, h⟩ | ⟨_, h⟩ := hR <;> cases h
   refine wz 2 ?_
   exact ⟨⟨k + 1, by omega, fun j hj => by rcases Nat.lt_or_ge j k with z | z; exact hok j z; (obtain rfl : j = k := by omega); exact hc⟩, by simp only; omega, Sub.slots ⟨jz, jz, jz, trivial⟩⟩
  obtain rfl : k = p.scs.length := by omega
  refine wz 0 ?_
  exact ⟨rfl, .tup [], rfl, rfl, by unfold failR; rw [fails_no hok]⟩
theorem attfails_pure {p : Ply} (gP : PlB p) : APure Tryz.prog 105 [.fn (.func 136) [] [.iptr (plC p)]] (lackE p (failsAt p)) := by
  refine APure.of_acall (by simp [AV.pureL, AV.pureB]) (lackE_pure _ _) ?_
  refine (attempt_call (H := []) (first := []) (caps := [.iptr (plC p)]) (Rd := fun x H1 => failR p x) en136.h ((fails1_call gP rfl).mono ?_)).mono ?_
  · rintro x _ ⟨rfl, hx⟩
    refine ⟨[], [], by simp, rfl, hx, ?_⟩
    unfold failR at hx
    cases h : failsAt p with
    | none => rw [h] at hx; cases hx; exact ⟨_, Gave.ret _⟩
    | some n => rw [h] at hx; cases hx; exact ⟨_, Gave.lack _ _⟩
  · rintro x H' ⟨y, v, H1, X, rfl, hg, hx, rfl⟩
    refine ⟨v, rfl, ?_⟩
    unfold failR at hx
    cases h : failsAt p with
    | none => rw [h] at hx; cases hx; cases hg; exact jz
    | some n => rw [h] at hx; cases hx; cases hg; exact jz
theorem can_y {p : Ply} (gP : PlB p) {n : Nat} (hn : n < p.scs.length) (hc : St.can p (sc p n) = true) : APure Tryz.prog 102 [plA p, I n] (B true) := by
  refine ap Tryz.func102 (fun e0 he0 => ?_)
  refine vz 3 ?_
  refine sq_nil ?_
  refine aw_seq ?_
  refine aw_sub (sub_iptrK [3, 4] 2 (j := 0) (l := plC p) rfl rfl) ?_
  refine aw_sub (sub_iptrK [2, 4] 3 (j := 1) (l := [I n]) rfl rfl) ?_
  have ha := attcan_pure gP hn
  rw [hc] at ha
  simp only [if_true, Bool.false_eq_true, if_false] at ha
  refine wz 1 ?_
  refine kz az (ha) ?_
  refine sq_ev rfl (ev_mv (v := .tup _) jz) ?_
  refine wz 8 ?_
  exact rz rfl jz
theorem can_n {p : Ply} (gP : PlB p) {n : Nat} (hn : n < p.scs.length) (hc : St.can p (sc p n) = false) : APure Tryz.prog 102 [plA p, I n] (B false) := by
  refine ap Tryz.func102 (fun e0 he0 => ?_)
  refine vz 3 ?_
  refine sq_nil ?_
  refine aw_seq ?_
  refine aw_sub (sub_iptrK [3, 4] 2 (j := 0) (l := plC p) rfl rfl) ?_
  refine aw_sub (sub_iptrK [2, 4] 3 (j := 1) (l := [I n]) rfl rfl) ?_
  have ha := attcan_pure gP hn
  rw [hc] at ha
  simp only [if_true, Bool.false_eq_true, if_false] at ha
  refine wz 1 ?_
  refine kz az (ha) ?_
  refine sq_ev rfl (ev_mv (v := .tup _) jz) ?_
  refine wz 8 ?_
  exact rz rfl jz
theorem can_pure {p : Ply} (gP : PlB p) {n : Nat} (hn : n < p.scs.length) : APure Tryz.prog 102 [plA p, I n] (B (St.can p (sc p n))) := by
  cases h : St.can p (sc p n) with
  | true => exact can_y gP hn h
  | false => exact can_n gP hn h
theorem fails_y {p : Ply} (gP : PlB p) (hc : failsAt p = none) : APure Tryz.prog 76 [plA p] (lackE p (none)) := by
  refine ap Tryz.func76 (fun e0 he0 => ?_) (hr := lackE_pure _ _)
  refine vz 3 ?_
  refine sq_nil ?_
  refine aw_seq ?_
  refine aw_sub (sub_iptrK [2, 3] 1 (j := 0) (l := plC p) rfl rfl) ?_
  have ha := attfails_pure gP
  rw [hc] at ha
  refine wz 1 ?_
  refine kz az (ha) ?_
  refine wz 4 ?_
  exact retQ_res (vs := [.agg _, .raw _]) rfl rfl ⟨resVar_cell rfl rfl ty99.h rfl, resVar_tmp _ _ _, trivial⟩ jz
theorem fails_n {p : Ply} (gP : PlB p) {n : Nat} (hc : failsAt p = some n) : APure Tryz.prog 76 [plA p] (lackE p (some n)) := by
  refine ap Tryz.func76 (fun e0 he0 => ?_) (hr := lackE_pure _ _)
  refine vz 3 ?_
  refine sq_nil ?_
  refine aw_seq ?_
  refine aw_sub (sub_iptrK [2, 3] 1 (j := 0) (l := plC p) rfl rfl) ?_
  have ha := attfails_pure gP
  rw [hc] at ha
  refine wz 1 ?_
  refine kz az (ha) ?_
  refine wz 4 ?_
  exact retQ_res (vs := [.agg _, .raw _]) rfl rfl ⟨resVar_cell rfl rfl ty99.h rfl, resVar_tmp _ _ _, trivial⟩ jz
end Go.Proofs.YtfmpabgblbbcdaaGreatDoor
namespace Go.Proofs.YtfmpabgblbbcdaaGreatDoor
open Go Go.Ab Ni St
open Hd hiding sz
instance en102 : EnT Tryz.prog 102 := ⟨Ent.of Tryz.func102 (by kernel_rfl) rfl⟩
instance en119 : EnT Tryz.prog 119 := ⟨Ent.of Tryz.func119 (by kernel_rfl) rfl⟩
instance en120 : EnT Tryz.prog 120 := ⟨Ent.of Tryz.func120 (by kernel_rfl) rfl⟩
instance en160 : EnT Tryz.prog 160 := ⟨Ent.of Tryz.func160 (by kernel_rfl) rfl⟩
instance en75 : EnT Tryz.prog 75 := ⟨Ent.of Tryz.func75 (by kernel_rfl) rfl⟩
instance en76 : EnT Tryz.prog 76 := ⟨Ent.of Tryz.func76 (by kernel_rfl) rfl⟩
instance en81 : EnT Tryz.prog 81 := ⟨Ent.of Tryz.func81 (by kernel_rfl) rfl⟩
instance en97 : EnT Tryz.prog 97 := ⟨Ent.of Tryz.func97 (by kernel_rfl) rfl⟩
theorem okL_take {b : Bool} {p : Ply} {x : Scn} {l : List Int} {k : Nat} (h : k < l.length) : okL b p x (l.take (k + 1)) = okI b p x l k := by
  have e : (l.take (k + 1)).length - 1 = k := by rw [List.length_take]; omega
  unfold okL; rw [e, okI_take (by omega)]
theorem scIn_iff {p : Ply} {n : Int} : scIn p n = true ↔ ∃ k : Nat, n = k ∧ k < p.scs.length := by
  unfold scIn inn
  rw [Bool.and_eq_true, decide_eq_true_eq, decide_eq_true_eq]
  constructor
  · intro h; exact ⟨n.toNat, by omega, by omega⟩
  · rintro ⟨k, rfl, h⟩; omega
theorem scIn_nat {p : Ply} {k : Nat} (h : k < p.scs.length) : scIn p k = true := scIn_iff.2 ⟨k, rfl, h⟩
end Go.Proofs.YtfmpabgblbbcdaaGreatDoor
namespace Go.Proofs.YtfmpabgblbbcdaaGreatDoor
open Go Go.Ab Ni St
open Hd hiding sz
instance fo99_0 : FoF Tryz.prog 99 0 0 3 := ⟨by kernel_rfl⟩
instance fo99_1 : FoF Tryz.prog 99 1 1 29 := ⟨by kernel_rfl⟩
instance sl61 : SlE Tryz.prog 61 22 1 := ⟨by kernel_rfl⟩
instance ty29 : TyF Tryz.prog 29 false 1 := ⟨by kernel_rfl⟩
theorem xhands_ok {p : Ply} (hh : p.hts.length ≤ 1000000) (hf : p.figs.length ≤ 1000000) (hs : p.scs.length ≤ 1000000) (hx : ∀ x ∈ p.scs, x.moved.length ≤ 1000000 ∧ x.rest.length ≤ 1000000 ∧ x.taken.length ≤ 1000000) {k : Nat} (hk : k < p.scs.length) (h1 : plOK p = true) : APure Tryz.prog 56 [plA p, I k] (.tup [I (hands p (sc p k)), I 0]) := by
  refine ap Tryz.func56 (fun e0 he0 => ?_)
  refine vz 3 ?_
  refine sq_nil ?_
  refine aw_seq ?_
  refine aw_seq ?_
  have hpl := isplay_pure p hh hf hs hx
  rw [h1] at hpl
  have hsc := isscene_pure p (k : Int) hs
  rw [scIn_nat hk] at hsc
  have gP := plOK_B h1
  have gX := sc_B gP hk
  refine wz 1 ?_
  refine kz az (hpl) ?_
  refine wz 4 ?_
  refine ky az (hsc) ?_
  refine wz 5 ?_
  refine kz az (stage_pure hk hs) ?_
  refine kz az (hands_pure gP gX) ?_
  refine wz 2 ?_
  exact retQ_pure (v := .tup [.raw _, .raw _]) rfl rfl (less_tup ⟨jz, jz, trivial⟩)
theorem xfails_ok {p : Ply} (hh : p.hts.length ≤ 1000000) (hf : p.figs.length ≤ 1000000) (hs : p.scs.length ≤ 1000000) (hx : ∀ x ∈ p.scs, x.moved.length ≤ 1000000 ∧ x.rest.length ≤ 1000000 ∧ x.taken.length ≤ 1000000) (h1 : plOK p = true) {n : Nat} (h2 : failsAt p = some n) : APure Tryz.prog 21 [plA p] (.tup [I n, I (lacks p (sc p n)), I 0]) := by
  refine ap Tryz.func21 (fun e0 he0 => ?_)
  refine vz 4 ?_
  refine sq_nil ?_
  refine aw_seq ?_
  refine aw_seq ?_
  have hpl := isplay_pure p hh hf hs hx
  rw [h1] at hpl
  have gP := plOK_B h1
  refine wz 1 ?_
  refine kz az (hpl) ?_
  refine wz 3 ?_
  refine kz az (fails_n gP h2) ?_
  refine sq_ev rfl (ev_mv (v := .tup [.agg [I n, I (lacks p (sc p n))], I 7]) jz) ?_
  refine wz 8 ?_
  refine aw_draw 7 mo (by kernel_rfl) ?_
  refine dz 7 ?_
  refine wz 0 ?_
  exact retQ_pure (v := .tup [.raw _, .raw _, .raw _]) rfl rfl (less_tup ⟨jz, jz, jz, trivial⟩)
end Go.Proofs.YtfmpabgblbbcdaaGreatDoor
namespace Go.Proofs.YtfmpabgblbbcdaaGreatDoor
open Go Go.Ab Ni St
open Hd hiding sz
def fstN (A : List (List Int)) : Nat := if A.isEmpty then 0 else 1
theorem fstN_le (A : List (List Int)) : fstN A ≤ A.length := by unfold fstN; cases A <;> simp
theorem fstN_yes {A : List (List Int)} (h : (!A.isEmpty) = true) : fstN A = 1 := by unfold fstN; cases A <;> simp_all
theorem fstN_no {A : List (List Int)} (h : (!A.isEmpty) = false) : fstN A = 0 ∧ A = [] := by unfold fstN; cases A <;> simp_all
theorem fst_hd {A : List (List Int)} (h : 0 < A.length) : A[0] = A.headD [] := by
  cases A with
  | nil => exact absurd h (Nat.lt_irrefl _)
  | cons a l => rfl
theorem fst_none {A : List (List Int)} (h : (if (!A.isEmpty) = true then some Code.ret else none) = none) : (!A.isEmpty) = false := by cases h2 : (!A.isEmpty) <;> simp_all
theorem fst_some {A : List (List Int)} (h : (if (!A.isEmpty) = true then some Code.ret else none) ≠ none) : (!A.isEmpty) = true := by cases h2 : (!A.isEmpty) <;> simp_all
theorem xfirst_ok {p : Ply} (hh : p.hts.length ≤ 1000000) (hf : p.figs.length ≤ 1000000) (hs : p.scs.length ≤ 1000000) (hx : ∀ x ∈ p.scs, x.moved.length ≤ 1000000 ∧ x.rest.length ≤ 1000000 ∧ x.taken.length ≤ 1000000) {k : Nat} (hk : k < p.scs.length) (h1 : plOK p = true) : APure Tryz.prog 44 [plA p, I k] (.tup [ints ((arr true p (sc p k)).headD []), I (if (arr true p (sc p k)) = [] then 5 else 0)]) := by
  refine apure_of_marks (rs := [.cell 4 22, .cell 5 30]) Tryz.func44 rfl rfl (Nat.le_of_ble_eq_true rfl) (by simp [AV.pureL, AV.pureB, AV.pureE, pureE_map]) (by first | rfl | (simp [AV.pureL, AV.pureB, AV.pureE, pureE_map])) fun e0 he0 => ?_
  refine vz 3 ?_
  refine sq_nil ?_
  refine aw_seq ?_
  refine aw_seq ?_
  have hpl := isplay_pure p hh hf hs hx
  rw [h1] at hpl
  have hsc := isscene_pure p (k : Int) hs
  rw [scIn_nat hk] at hsc
  have gP := plOK_B h1
  have gX := sc_B gP hk
  refine wz 1 ?_
  refine kz az (hpl) ?_
  refine wz 4 ?_
  refine ky az (hsc) ?_
  refine wz 5 ?_
  refine kz az (stage_pure hk hs) ?_
  refine kz az (arrs_pure p (sc p k)) ?_
  refine sq_nil ?_
  refine aw_block ?_
  refine nz ?_
  refine aw_rangeFuncP (xs := hdA (arr true p (sc p k))) (fun k1 => [.cells (plC p), .cells [if k1 = 0 then .raw (.slice none 0 0) else ints ((arr true p (sc p k)).headD [])], .cells [I 0]]) (fstN (arr true p (sc p k))) (if (!(arr true p (sc p k)).isEmpty) = true then some .ret else none) (by rw [List.length_map]; exact fstN_le _) (fun h => by rw [List.length_map, (fstN_no (fst_none h)).1, (fstN_no (fst_none h)).2]; rfl) (fun h => by rw [fstN_yes (fst_some h)]; exact Nat.one_pos) (jo_ret _) (enters_outer rfl) dd_in jz en171.h (lists_iter gP gX true) (rfl) (fun _ => rfl) (fun k hk => by split <;> simp [objsIn, AObj.inB, AV.inB, AV.inL]) (fun x hx => hdA_pure hx) rfl rfl ?_ ?_
  ·intro q i x e2 hi hx he2 hlp hce
   obtain ⟨hk2, rfl⟩ := hdA_get hx
   obtain rfl : i = 0 := by unfold fstN at hi; split at hi <;> omega
   have hst : (!(arr true p (sc p k)).isEmpty) = true := by cases h : (!(arr true p (sc p k)).isEmpty) with | true => rfl | false => (rw [(fstN_no h).1] at hi; exact absurd hi (Nat.not_lt_zero _))
   refine nz ?_
   refine wz 3 ?_
   exact ⟨⟨[], by rw [← fst_hd hk2]; rfl⟩, rfl, je_yes (by rw [hst, fstN_yes hst]; rfl)⟩
  ·intro ax hax
   rcases Bool.eq_false_or_eq_true (!(arr true p (sc p k)).isEmpty) with hst | hst
   ·obtain rfl := je_ret hst hax
    have hne : ¬ (arr true p (sc p k)) = [] := by simpa using hst
    rw [fstN_yes hst, if_neg hne]
    refine nz ?_
    exact retQM_res (vs := [ints ((arr true p (sc p k)).headD []), I 0]) rfl rfl ⟨resVar_cell1 rfl rfl ty22.h rfl, resVar_cell1 rfl rfl ty30.h rfl, trivial⟩ jz
   ·obtain rfl := je_nor hst hax
    obtain ⟨h0, hA⟩ := fstN_no hst
    rw [h0, hA]
    refine nz ?_
    refine wz 2 ?_
    exact retQM_res (vs := [.raw (.slice none 0 0), I 5]) rfl rfl ⟨resVar_cell1 rfl rfl ty22.h rfl, resVar_cell1 rfl rfl ty30.h rfl, trivial⟩ (less_tup ⟨less_nil 1, jz, trivial⟩)
end Go.Proofs.YtfmpabgblbbcdaaGreatDoor
namespace Go.Proofs.YtfmpabgblbbcdaaGreatDoor
open Go Go.Ab Ni St
open Hd hiding sz
instance en100 : EnT Tryz.prog 100 := ⟨Ent.of Tryz.func100 (by kernel_rfl) rfl⟩
instance en101 : EnT Tryz.prog 101 := ⟨Ent.of Tryz.func101 (by kernel_rfl) rfl⟩
instance z3 : ZeO Tryz.prog 3 [.raw (.int .i64 0)] := ⟨by kernel_rfl⟩
def valsOf (p : Ply) (x : Scn) (i : Nat) : List Int := (arr true p x).map fun l => l.getD i 0
def srtOf (l : List Int) : List Int := l.mergeSort fun x y => decide (x ≤ y)
theorem srt_len (l : List Int) : (srtOf l).length = l.length := by unfold srtOf; simp
theorem sort_world {l : List Int} (hl : l.length ≤ 1000000) (b cap : Nat) (w : World) (_ : l.length ≤ cap) (hH : Go.Sort.Holds (Value.int .i64) w b 0 l.toArray) (hb : b < w.heap.size) :
    Calls Tryz.prog 100 #[.slice (some ⟨b, 0, none⟩) l.length cap] w fun x w' => x = .returned (.tuple #[]) ∧ ∃ n os, w' = Go.Sort.grow (Go.Sort.putRow (Value.int .i64) (Go.Sort.ahead w n) b 0 (srtOf l).toArray) os :=
  (Tryz.slices_Sort_int b 0 cap l w hH hb (by omega)).mono fun _ _ h => h
abbrev cmpZ (l : List Int) : List Int := Lib.compact l ++ List.replicate (l.length - (Lib.compact l).length) 0
theorem cmpZ_len (l : List Int) : (cmpZ l).length = l.length := by
  have := Lib.compact_length_le l
  unfold cmpZ; rw [List.length_append, List.length_replicate]; omega
theorem compact_world {l : List Int} (hl : l.length ≤ 1000000) (b cap : Nat) (w : World) (hc : l.length ≤ cap) (hH : Go.Sort.Holds (Value.int .i64) w b 0 l.toArray) (hb : b < w.heap.size) :
    Calls Tryz.prog 101 #[.slice (some ⟨b, 0, none⟩) l.length cap] w fun x w' => x = .returned (.slice (some ⟨b, 0, none⟩) (Lib.compact l).length cap) ∧ ∃ n os, w' = Go.Sort.grow (Go.Sort.putRow (Value.int .i64) (Go.Sort.ahead w n) b 0 (cmpZ l).toArray) os :=
  (Tryz.slices_Compact_int b 0 cap l w hH (by omega) hc).mono fun _ _ ⟨h, q, hw⟩ => ⟨h, q, #[], by rw [Go.Sort.grow_empty]; exact hw⟩
theorem compact_rep {l : List Int} (e : Env) (b cap : Nat) (hc : l.length ≤ cap) (h : ElemsAt e (numE (cmpZ l)) b 0) : Rep e (ints (Lib.compact l)) (.slice (some ⟨b, 0, none⟩) (Lib.compact l).length cap) := by
  have h1 := Lib.compact_length_le l
  have h2 := ElemsAt.take (Lib.compact l).length h
  have e1 : (numE (cmpZ l)).take (Lib.compact l).length = numE (Lib.compact l) := by
    unfold numE cmpZ; rw [← List.map_take, List.take_left' rfl]
  rw [e1] at h2
  rw [Rep]
  exact ⟨_, _, _, rfl, by simp, by omega, (fun h => by cases h), numE_sz, fun ad had => by cases had; exact ⟨fun _ => rfl, h2⟩⟩
theorem sort_rep {e : Env} : Rep e (.tup []) (.tuple #[]) := by rw [Rep]; exact ⟨#[], rfl, RepL.nil⟩
def placesOf (p : Ply) (x : Scn) (i : Nat) : List Int := Lib.compact (srtOf (valsOf p x i))
theorem placesOf_nil {p : Ply} {x : Scn} {i : Nat} (h : arr true p x = []) : placesOf p x i = [] := by
  unfold placesOf valsOf srtOf; rw [h, List.map_nil, List.mergeSort_nil]; rfl
theorem valsOf_len (p : Ply) (x : Scn) (i : Nat) : (valsOf p x i).length = (arr true p x).length := by unfold valsOf; simp
theorem vals_take {p : Ply} {x : Scn} {i m : Nat} (h : m < (arr true p x).length) : (valsOf p x i).take (m + 1) = (valsOf p x i).take m ++ [(arr true p x)[m].getD i 0] := by
  rw [List.take_succ_eq_append_getElem (by rw [valsOf_len]; exact h)]
  unfold valsOf; simp
theorem xplaces_ok {p : Ply} (hh : p.hts.length ≤ 1000000) (hf : p.figs.length ≤ 1000000) (hs : p.scs.length ≤ 1000000) (hx : ∀ x ∈ p.scs, x.moved.length ≤ 1000000 ∧ x.rest.length ≤ 1000000 ∧ x.taken.length ≤ 1000000) {k : Nat} (hk : k < p.scs.length) (h1 : plOK p = true) {g : Int} {i : Nat} (hi : i < (sc p k).rest.length) (h3 : ixQ (fun x => decide (g = x)) (sc p k).rest = (i : Int)) : APure Tryz.prog 45 [plA p, I k, I g] (.tup [ints (placesOf p (sc p k) i), I (if (arr true p (sc p k)) = [] then 7 else 0)]) := by
  refine apure_of_marks (rs := [.tmp 6, .tmp 7]) Tryz.func45 rfl rfl (Nat.le_of_ble_eq_true rfl) (by simp [AV.pureL, AV.pureB, AV.pureE, pureE_map]) (by first | rfl | (simp [AV.pureL, AV.pureB, AV.pureE, pureE_map])) fun e0 he0 => ?_
  refine vz 3 ?_
  refine sq_nil ?_
  refine aw_seq ?_
  refine aw_seq ?_
  have hpl := isplay_pure p hh hf hs hx
  rw [h1] at hpl
  have hsc := isscene_pure p (k : Int) hs
  rw [scIn_nat hk] at hsc
  have gP := plOK_B h1
  have gX := sc_B gP hk
  have hr4 := gX.r4
  have esc := sc_at hk
  have hix := index_pure (sc p k).rest g (by omega)
  rw [h3] at hix
  have hal := arr_len gP gX true
  have hvl := valsOf_len p (sc p k) i
  refine wz 1 ?_
  refine kz az (hpl) ?_
  refine wz 4 ?_
  refine ky az (hsc) ?_
  refine wz 6 ?_
  refine sq_ev rfl (ev_less (ev_index_map (k := k) (xs := p.scs) sl24.h jz jz rfl hk) (Less.eq (b := .iptr (scC (sc p k))) (by rw [esc]))) ?_
  refine wz 3 ?_
  refine kz az (hix) ?_
  refine wz 8 ?_
  refine kz az (stage_pure hk hs) ?_
  refine kz az (arrs_pure p (sc p k)) ?_
  refine sq_nil ?_
  refine aw_block ?_
  refine aw_sub (sub_token_boxb 2 1 3 rfl) ?_
  refine nz ?_
  refine aw_rangeFuncP (xs := hdA (arr true p (sc p k))) (fun m => [.cells (plC p), .cells [I i], .cells [.ownb 3 1 3 (numE ((valsOf p (sc p k) i).take m))], .tok (numE ((valsOf p (sc p k) i).take m)).length]) ((hdA (arr true p (sc p k))).length) (none) (Nat.le_refl _) (fun _ => rfl) (fun h => absurd rfl h) rfl (enters_outer rfl) dd_in jz en171.h (lists_iter gP gX true) (rfl) (fun _ => rfl) (fun k hk => by simp [objsIn, AObj.inB, AV.inB, AV.inL, inE_ints, -List.map_take]) (fun x hx => hdA_pure hx) rfl rfl ?_ ?_
  ·intro q m x e2 hm hx he2 hlp hce
   obtain ⟨hk2, rfl⟩ := hdA_get hx
   have hml : ((arr true p (sc p k))[m]).length = (sc p k).rest.length := (mem_arr.1 (List.getElem_mem hk2)).1
   have eS : (numE ((valsOf p (sc p k) i).take (m + 1))) = (numE ((valsOf p (sc p k) i).take m)) ++ [[I (((arr true p (sc p k))[m]).getD i 0)]] := by rw [vals_take hk2]; exact List.map_append
   refine nz ?_
   refine wz 0 ?_
   refine aw_draw 6 mo (by kernel_rfl) ?_
   refine dz 3 ?_
   refine dr_ev rfl (ev_index_map (k := i) (xs := (arr true p (sc p k))[m]) (f := fun x => [I x]) sl22.h jz jz rfl (by omega)) ?_
   refine dr_ev rfl (ev_load_i (v := I (((arr true p (sc p k))[m]).getD i 0)) jz ty3.h (by rw [Hd.getD_at (by omega)]; rfl)) ?_
   refine dr_ev rfl (ev_buildSlice (es := [[_]]) sf22.h rfl rfl rfl rfl) ?_
   refine dr_end ?_
   refine sq_append_b (j := 3) rfl sf22.h Tryz.underlying22 rfl rfl (less_slx _ _) (by simp) (by simp; omega) (by simp; omega) ?_
   refine wz 1 ?_
   exact ⟨⟨[], (congrArg (fun L => [AObj.cells (plC p), .cells [I i], .cells [.ownb 3 1 3 L], .tok L.length]) eS.symm).trans (List.append_nil _).symm⟩, rfl, by split <;> rfl⟩
  ·rintro _ rfl
   have hfull : (hdA (arr true p (sc p k))).length = (valsOf p (sc p k) i).length := by rw [List.length_map, hvl]
   rw [hfull, List.take_length]
   refine nz ?_
   refine wz 1 ?_
   refine sq_ev rfl (ev_len_ownb_map sl22.h jz) ?_
   refine wz 1 ?_
   refine iz (fun c_44 c_44' => ?_) (fun c_44 c_44' => ?_)
   ·have hnil : (arr true p (sc p k)) = [] := List.length_eq_zero_iff.1 (by simpa [hvl] using c_44)
    refine wz 2 ?_
    exact retQM_pure (v := .tup [.raw (.slice none 0 0), .raw _]) rfl rfl (less_tup ⟨Less.trans (less_nil 1) (Less.eq (by rw [placesOf_nil hnil]; rfl)), Less.eq (by rw [if_pos hnil]), trivial⟩)
   have hne : ¬ (arr true p (sc p k)) = [] := fun h => by rw [h] at hvl; simp [hvl] at c_44
   have hpos : 0 < (arr true p (sc p k)).length := List.length_pos_iff.2 hne
   refine wz 1 ?_
   refine sq_put_b (j := 3) (k := 2) (et := 3) (zs := (valsOf p (sc p k) i)) (ys := srtOf (valsOf p (sc p k) i)) (ax := .tup []) (sl' := [(9, .ptr 2 0)]) (res := fun _ _ => .tuple #[]) rfl en100.h jz rfl (Eq.trans (b := some (.tok (numE (valsOf p (sc p k) i)).length)) rfl (by rw [List.length_map])) rfl (by omega) (srt_len _) he0 (sort_world (by omega)) (fun e b cap _ _ => sort_rep) ⟨⟨rfl, rfl⟩, trivial⟩ rfl ?_
   refine wz 1 ?_
   refine sq_put_b (j := 3) (k := 2) (et := 3) (zs := srtOf (valsOf p (sc p k) i)) (ys := cmpZ (srtOf (valsOf p (sc p k) i))) (ax := ints (placesOf p (sc p k) i)) (sl' := [(9, .ptr 2 0)]) (res := fun b cap => .slice (some ⟨b, 0, none⟩) (Lib.compact (srtOf (valsOf p (sc p k) i))).length cap) rfl en101.h jz rfl (Eq.trans (b := some (.tok (numE (valsOf p (sc p k) i)).length)) rfl (by rw [List.length_map, srt_len])) rfl (by rw [srt_len]; omega) (cmpZ_len _) he0 (compact_world (by rw [srt_len]; omega)) (fun e b cap h1 h2 => compact_rep e b cap h1 h2) ⟨⟨rfl, rfl⟩, trivial⟩ rfl ?_
   refine wz 2 ?_
   exact retQM_pure (v := .tup [.sl _ _, .raw _]) rfl rfl (less_tup ⟨jz, Less.eq (by rw [if_neg hne]), trivial⟩)
end Go.Proofs.YtfmpabgblbbcdaaGreatDoor
namespace Go.Proofs.YtfmpabgblbbcdaaGreatDoor
open Go Go.Ab Ni St
open Hd hiding sz
def mnK (l : List Int) (k : Nat) : Int := ((l.take k).drop 1).foldl min (l.headD 0)
theorem mnK_1 {l : List Int} (h : 0 < l.length) : mnK l 1 = l[0] := by cases l with
  | nil => simp at h
  | cons a l => simp [mnK]
theorem mnK_succ {l : List Int} {k : Nat} (h1 : 1 ≤ k) (h : k < l.length) : mnK l (k + 1) = min (mnK l k) l[k] := by
  unfold mnK; rw [List.take_succ_eq_append_getElem h, List.drop_append_of_le_length (by rw [List.length_take]; omega), List.foldl_append]; rfl
theorem mnK_all (l : List Int) : mnK l l.length = mnL l := by cases l <;> simp [mnK, mnL]
def inB (x y : Scn) (i : Nat) : Int := ixQ (fun z => decide (x.rest.getD i 0 = z)) y.rest
def tn1 (x y : Scn) (a b : List Int) (i : Nat) : Bool := decide (0 ≤ inB x y i) && !decide (a.getD i 0 = b.getD (inB x y i).toNat 0)
def tnK (x y : Scn) (a b : List Int) (m : Nat) : Nat := ((List.range m).filter (tn1 x y a b)).length
def turns (x y : Scn) (a b : List Int) : Int := (tnK x y a b x.rest.length : Nat)
theorem tnK_succ (x y : Scn) (a b : List Int) (m : Nat) : tnK x y a b (m + 1) = tnK x y a b m + (if tn1 x y a b m = true then 1 else 0) := by
  unfold tnK
  rw [List.range_succ, List.filter_append, List.length_append]
  cases h : tn1 x y a b m <;> simp [h]
theorem tnK_le (x y : Scn) (a b : List Int) (m : Nat) : tnK x y a b m ≤ m := by
  unfold tnK
  exact Nat.le_trans (List.length_filter_le _ _) (by rw [List.length_range]; exact Nat.le_refl _)
theorem ixQ_lt {α : Type} {q : α → Bool} {l : List α} (h : 0 ≤ ixQ q l) : ixQ q l = ((ixQ q l).toNat : Int) ∧ (ixQ q l).toNat < l.length := by
  refine ⟨by omega, ?_⟩
  unfold ixQ at *
  cases e : l.findIdx? q with
  | none => rw [e] at h; simp at h
  | some i => have := (List.findIdx?_eq_some_iff_getElem.1 e).1; simpa using this
theorem smin_pure (l : List Int) (h0 : 0 < l.length) (hl : l.length ≤ 1000000) : APure Tryz.prog 84 [ints l] (I (mnL l)) := by
  refine ap Tryz.func84 (fun e0 he0 => ?_)
  refine wz 4 ?_
  refine iz (fun c_7 c_7' => ?_) (fun c_7 c_7' => ?_)
  ·exfalso
   omega
  refine wz 1 ?_
  refine sq_ev rfl (ev_index_map (k := 0) sl22.h jz jz rfl h0) ?_
  refine wz 3 ?_
  refine aw_loopk (ι := { k : Nat // 1 ≤ k ∧ k ≤ l.length }) [0] (fun i => [(3, I (mnK l i.1)), (4, I i.1)]) (fun H i => H) (fun i => l.length - i.1) (⟨1, by omega, by omega⟩) ⟨Less.eq (by rw [mnK_1 h0] <;> rfl), jz, jz, trivial⟩ rfl ?_
  rintro ⟨k, hk1, hk⟩
  refine nz ?_
  refine wz 4 ?_
  refine iz (fun c_15 c_15' => ?_) (fun c_15 c_15' => ?_)
  ·have hkl : k < l.length := by omega
   refine wz 10 ?_
   exact ⟨⟨k + 1, by omega, by omega⟩, by simp only; omega, Sub.slots ⟨Less.eq (by rw [mnK_succ hk1 hkl] <;> rfl), jz, jz, trivial⟩⟩
  obtain rfl : k = l.length := by omega
  refine wz 2 ?_
  exact rz rfl (Less.eq (by rw [← mnK_all] <;> rfl))
theorem turns_pure {p : Ply} (gP : PlB p) {n : Nat} (hn : n + 1 < p.scs.length) {a b : List Int} (ha : a.length = (sc p n).rest.length) (hb : b.length = (sc p (n + 1)).rest.length) : APure Tryz.prog 121 [plA p, I n, ints a, ints b] (I (turns (sc p n) (sc p (n + 1)) a b)) := by
  refine ap Tryz.func121 (fun e0 he0 => ?_)
  refine vz 2 ?_
  refine sq_nil ?_
  refine aw_seq ?_
  have hn0 : n < p.scs.length := by omega
  have hns := gP.ns
  have gX := sc_B gP hn0
  have gY := sc_B gP hn
  have hr4 := gX.r4
  have hr5 := gY.r4
  refine wz 4 ?_
  refine sq_ev rfl (ev_less (ev_index_map (k := n) (xs := p.scs) sl24.h jz jz (by omega) hn0) (Less.eq (b := .iptr (scC (sc p (n)))) (by rw [sc_at hn0]))) ?_
  refine wz 4 ?_
  refine aw_loopk (ι := { m : Nat // m ≤ (sc p n).rest.length }) [1, 2, 3, 4, 18, 19] (fun i => [(9, I (tnK (sc p n) (sc p (n + 1)) a b i.1 : Nat)), (20, I (i.1 : Nat))]) (fun H i => H) (fun i => (sc p n).rest.length - i.1) (⟨0, Nat.zero_le _⟩) ⟨jz, jz, jz, jz, jz, jz, jz, jz, trivial⟩ rfl ?_
  rintro ⟨m, hm⟩
  refine nz ?_
  have htb := tnK_le (sc p n) (sc p (n + 1)) a b m
  refine wz 1 ?_
  refine iz (fun c_21 c_21' => ?_) (fun c_21 c_21' => ?_)
  ·have hml : m < (sc p n).rest.length := by omega
   have hma : m < a.length := by omega
   have hix := index_pure (sc p (n + 1)).rest ((sc p n).rest[m]) (by omega)
   rw [show ixQ (fun x => decide ((sc p n).rest[m] = x)) (sc p (n + 1)).rest = inB (sc p n) (sc p (n + 1)) m by unfold inB; rw [getD_at hml]] at hix
   refine wz 9 ?_
   refine sq_ev rfl (ev_less (ev_index_map (k := n + 1) (xs := p.scs) sl24.h jz jz (by omega) hn) (Less.eq (b := .iptr (scC (sc p (n + 1)))) (by rw [sc_at hn]))) ?_
   refine wz 3 ?_
   refine kz az (hix) ?_
   refine wz 1 ?_
   refine aw_draw 13 mo (by kernel_rfl) ?_
   refine dz 3 ?_
   refine dsz 36 (fun g6_2 g6_2' => ?_) (fun g6_2 g6_2' => ?_)
   ·have hge : 0 ≤ inB (sc p n) (sc p (n + 1)) m := by omega
    obtain ⟨hi1, hi2⟩ := ixQ_lt hge
    have hi2 : (inB (sc p n) (sc p (n + 1)) m).toNat < b.length := by rw [hb]; exact hi2
    refine dz 2 ?_
    refine dr_yes rfl rfl (less_b g6_2) rfl (ev_index_map (k := m) (xs := a) sl22.h jz jz rfl hma) ?_
    refine dz 3 ?_
    refine dr_yes rfl rfl (less_b g6_2) rfl (ev_index_map (k := (inB (sc p n) (sc p (n + 1)) m).toNat) (xs := b) sl22.h jz jz hi1 hi2) ?_
    refine dz 3 ?_
    refine wz 0 ?_
    refine iz (fun c_46 c_46' => ?_) (fun c_46 c_46' => ?_)
    ·have hst : tn1 (sc p n) (sc p (n + 1)) a b m = true := by unfold tn1; rw [decide_eq_true hge, getD_at hma, getD_at hi2]; simpa using c_46
     refine wz 5 ?_
     exact ⟨⟨m + 1, by omega⟩, by simp only; omega, Sub.slots ⟨(by exact less_int (by rw [tnK_succ, hst]; simp)), jz, jz, jz, jz, jz, jz, jz, trivial⟩⟩
    have hst : tn1 (sc p n) (sc p (n + 1)) a b m = false := by unfold tn1; rw [getD_at hma, getD_at hi2]; simp at c_46; simp [c_46]
    refine wz 2 ?_
    exact ⟨⟨m + 1, by omega⟩, by simp only; omega, Sub.slots ⟨(by exact less_int (by rw [tnK_succ, hst]; simp)), jz, jz, jz, jz, jz, jz, jz, trivial⟩⟩
   have hlt : ¬ 0 ≤ inB (sc p n) (sc p (n + 1)) m := by omega
   have hst : tn1 (sc p n) (sc p (n + 1)) a b m = false := by unfold tn1; rw [decide_eq_false hlt]; rfl
   refine dz 10 ?_
   refine wz 3 ?_
   exact ⟨⟨m + 1, by omega⟩, by simp only; omega, Sub.slots ⟨(by exact less_int (by rw [tnK_succ, hst]; simp)), jz, jz, jz, jz, jz, jz, jz, trivial⟩⟩
  obtain rfl : m = (sc p n).rest.length := by omega
  refine wz 2 ?_
  exact rz rfl jz
end Go.Proofs.YtfmpabgblbbcdaaGreatDoor
