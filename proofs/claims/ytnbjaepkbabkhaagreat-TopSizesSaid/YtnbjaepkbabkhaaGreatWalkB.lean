/-
  A part of the proof: conditions: none beyond each theorem's own.
-/
import Derived.Test.YtnbjaepkbabkhaaGreatWalkA
import Derived.Test.YtnbjaepkbabkhaaGreatLogicD
import Derived.Test.YtnbjaepkbabkhaaGreatLogicC
import Derived.KernelRfl
import Derived.Lib.LaidTab
import Derived.Lib.ItoaNum
import Derived.Test.YtnbjaepkbabkhaaGreatSpecA
set_option linter.all false
set_option maxRecDepth 100000
set_option maxHeartbeats 8000000
namespace Go.Proofs.YtnbjaepkbabkhaaGreat
open Go Go.Ab Ni
instance bi172 : BdI Tryz.prog 172 [] true [] 0 := ⟨by kernel_rfl⟩
instance en142 : EnT Tryz.prog 142 := ⟨Ent.of Tryz.func142 (by kernel_rfl) rfl⟩
instance en143 : EnT Tryz.prog 143 := ⟨Ent.of Tryz.func143 (by kernel_rfl) rfl⟩
instance en144 : EnT Tryz.prog 144 := ⟨Ent.of Tryz.func144 (by kernel_rfl) rfl⟩
instance en178 : EnT Tryz.prog 178 := ⟨Ent.of Tryz.func178 (by kernel_rfl) rfl⟩
instance en195 : EnT Tryz.prog 195 := ⟨Ent.of Tryz.func195 (by kernel_rfl) rfl⟩
theorem it3 : isIntT Tryz.prog 3 = true := by kernel_rfl
theorem mt227 : mapTy Tryz.prog 227 = some (3, 172) := by kernel_rfl
instance ni260 : NiF Tryz.prog 260 := ⟨by kernel_rfl⟩
instance ty172 : TyF Tryz.prog 172 true 0 := ⟨by kernel_rfl⟩
instance ty222 : TyF Tryz.prog 222 true 2 := ⟨by kernel_rfl⟩
instance ty260 : TyF Tryz.prog 260 true 1 := ⟨by kernel_rfl⟩
instance ty36 : TyF Tryz.prog 36 false 1 := ⟨by kernel_rfl⟩
theorem un20 : Tryz.prog.underlying 20 = some (.interface #[]) := by kernel_rfl
instance z172 : ZeO Tryz.prog 172 [] := ⟨by kernel_rfl⟩
instance z222 : ZeO Tryz.prog 222 [.raw (.int .i64 0), .raw (.int .i64 0)] := ⟨by kernel_rfl⟩
instance z260 : ZeO Tryz.prog 260 [.raw (.string ByteArray.empty)] := ⟨by kernel_rfl⟩
instance z36 : ZeO Tryz.prog 36 [.raw (.int .i64 0)] := ⟨by kernel_rfl⟩
theorem up_take (l : List Int) {k : Nat} (h : k < l.length) : l.take (k + 1) = l.take k ++ [l[k]] := List.take_succ_eq_append_getElem h
theorem nischoice_pure (p : Pl) (l : List Int) (hp : p.scenes.length ≤ 1000000) (hl : l.length ≤ 1000000) : APure Tryz.prog 93 [plan p, ints l] (B (isCh p l)) := by
  refine ap Tryz.func93 (fun e0 he0 => ?_)
  refine wz 2 ?_
  refine sq_makeMap rfl ?_
  refine wz 4 ?_
  refine aw_loopk (ι := { k : Nat // k ≤ l.length }) [2, 5, 15, 16] (fun i => [(17, I i.1)]) (fun H i => H.set 1 (.map (imap (setM (l.take i.1))))) (fun i => l.length - i.1) (⟨0, Nat.zero_le _⟩) ⟨jz, jz, jz, jz, jz, trivial⟩ rfl ?_
  rintro ⟨k, hk⟩
  refine nz ?_
  refine wz 1 ?_
  refine iz (fun c1 c1' => ?_) (fun c1 c1' => ?_)
  ·have hk' : k < l.length := by omega
   refine wz 6 ?_
   refine sq_mapUpdate rfl mt227 it3 jz jz less_unit rfl (setM_nodup _) ?_
   refine wz 2 ?_
   exact ⟨⟨k + 1, by omega⟩, by simp only; omega, sb 2 ⟨jz, jz, jz, jz, jz, trivial⟩ (hH := (by rw [up_take l hk', ← setM_put]; rfl))⟩
  obtain rfl : k = l.length := by omega
  refine wz 4 ?_
  refine aw_loopk (ι := { k : Nat // k ≤ p.scenes.length ∧ ∀ i, (h : i < p.scenes.length) → i < k → chBad p l i h = false }) [5, 26, 27] (fun i => [(28, I i.1)]) (fun H i => H) (fun i => p.scenes.length - i.1) (⟨0, Nat.zero_le _, by omega⟩) ⟨jz, jz, jz, jz, trivial⟩ rfl ?_
  rintro ⟨k, hk, hok⟩
  refine nz ?_
  refine wz 1 ?_
  refine iz (fun c2 c2' => ?_) (fun c2 c2' => ?_)
  ·refine wz 8 ?_
   refine sq_ev rfl (ev_lookup_set mt227 it3 z172.h jz jz rfl) ?_
   refine wz 9 ?_
   refine sq_ev rfl (ev_lookup_set mt227 it3 z172.h jz jz rfl) ?_
   refine wz 9 ?_
   refine sz 48 (fun g3 g3' => ?_) (fun g3 g3' => ?_)
   ·refine wz 5 ?_
    refine sz 53 (fun g4 g4' => ?_) (fun g4 g4' => ?_)
    ·refine wz 13 ?_
     exact rz rfl (Less.eq (by rw [isCh, okAll_bad (i := k) (by omega) (by first | (simp [chBad, has, *]; done) | (simp_all [chBad, has]; done))]))
    refine wz 2 ?_
    refine sz 55 (fun g5 g5' => ?_) (fun g5 g5' => ?_)
    ·refine wz 5 ?_
     refine sz 60 (fun g6 g6' => ?_) (fun g6 g6' => ?_)
     ·refine wz 4 ?_
      refine iz (fun c7 c7' => ?_) (fun c7 c7' => ?_)
      ·refine wz 1 ?_
       exact rz rfl (Less.eq (by rw [isCh, okAll_bad (i := k) (by omega) (by first | (simp [chBad, has, *]; done) | (simp_all [chBad, has]; done))]))
      refine vz 2 ?_
      refine sq_nil ?_
      have hgood : chBad p l k (by omega) = false := by first | (simp [chBad, has, *]; done) | (simp_all [chBad, has]; done) | (simp_all [chBad, has]; omega)
      exact ⟨⟨k + 1, by omega, fun i h hi => (by by_cases e : i = k; (subst e; exact hgood); exact hok i h (by omega))⟩, by simp only; omega, sb 2 ⟨jz, jz, jz, jz, trivial⟩⟩
     refine vz 7 ?_
     refine sq_nil ?_
     have hgood : chBad p l k (by omega) = false := by first | (simp [chBad, has, *]; done) | (simp_all [chBad, has]; done) | (simp_all [chBad, has]; omega)
     exact ⟨⟨k + 1, by omega, fun i h hi => (by by_cases e : i = k; (subst e; exact hgood); exact hok i h (by omega))⟩, by simp only; omega, sb 2 ⟨jz, jz, jz, jz, trivial⟩⟩
    refine vz 12 ?_
    refine sq_nil ?_
    have hgood : chBad p l k (by omega) = false := by first | (simp [chBad, has, *]; done) | (simp_all [chBad, has]; done) | (simp_all [chBad, has]; omega)
    exact ⟨⟨k + 1, by omega, fun i h hi => (by by_cases e : i = k; (subst e; exact hgood); exact hok i h (by omega))⟩, by simp only; omega, sb 2 ⟨jz, jz, jz, jz, trivial⟩⟩
   refine wz 7 ?_
   refine sz 55 (fun g8 g8' => ?_) (fun g8 g8' => ?_)
   ·refine wz 5 ?_
    refine sz 60 (fun g9 g9' => ?_) (fun g9 g9' => ?_)
    ·refine wz 4 ?_
     refine iz (fun c10 c10' => ?_) (fun c10 c10' => ?_)
     ·refine wz 1 ?_
      exact rz rfl (Less.eq (by rw [isCh, okAll_bad (i := k) (by omega) (by first | (simp [chBad, has, *]; done) | (simp_all [chBad, has]; done))]))
     refine vz 2 ?_
     refine sq_nil ?_
     have hgood : chBad p l k (by omega) = false := by first | (simp [chBad, has, *]; done) | (simp_all [chBad, has]; done) | (simp_all [chBad, has]; omega)
     exact ⟨⟨k + 1, by omega, fun i h hi => (by by_cases e : i = k; (subst e; exact hgood); exact hok i h (by omega))⟩, by simp only; omega, sb 2 ⟨jz, jz, jz, jz, trivial⟩⟩
    refine vz 7 ?_
    refine sq_nil ?_
    have hgood : chBad p l k (by omega) = false := by first | (simp [chBad, has, *]; done) | (simp_all [chBad, has]; done) | (simp_all [chBad, has]; omega)
    exact ⟨⟨k + 1, by omega, fun i h hi => (by by_cases e : i = k; (subst e; exact hgood); exact hok i h (by omega))⟩, by simp only; omega, sb 2 ⟨jz, jz, jz, jz, trivial⟩⟩
   refine vz 12 ?_
   refine sq_nil ?_
   have hgood : chBad p l k (by omega) = false := by first | (simp [chBad, has, *]; done) | (simp_all [chBad, has]; done) | (simp_all [chBad, has]; omega)
   exact ⟨⟨k + 1, by omega, fun i h hi => (by by_cases e : i = k; (subst e; exact hgood); exact hok i h (by omega))⟩, by simp only; omega, sb 2 ⟨jz, jz, jz, jz, trivial⟩⟩
  refine wz 1 ?_
  exact rz rfl (Less.eq (by rw [isCh, okAll_end hk c2' hok]))
theorem adefer_none (i j : Nat) (H : List AObj) : ADefer Tryz.prog 178 [.ptr i 0, .ptr j 0] H none (fun H' => H' = H) := by
  refine adefer_of Tryz.func178 rfl rfl (Nat.le_of_ble_eq_true rfl) rfl fun e0 he0 => ?_
  refine aw_block ?_
  refine aw_seq ?_
  refine aw_region (sq_ev rfl (ev_nil_nil un20 (Less.rfl' _) (Less.rfl' _)) ?_)
  refine sq_nil ?_
  refine aw_true (Less.rfl' _) ?_
  refine aw_region (sq_ev rfl (ev_as (v := .raw _) (Less.rfl' _)) ?_)
  refine sq_nil ?_
  exact ⟨.inl rfl, rfl, rfl⟩
theorem adefer_unfit (i j : Nat) (H : List AObj) (k f : Int) {a b c : AV} (hi : H[i]? = some (.cells [a, b])) (hj : H[j]? = some (.cells [c])) (hij : i ≠ j) :
    ADefer Tryz.prog 178 [.ptr i 0, .ptr j 0] H (some (.ifc 222 (.agg [I k, I f]))) (fun H' => ∃ X, H' = (H.set i (.cells [I k, I f])).set j (.cells [I 5]) ++ X) := by
  refine adefer_of Tryz.func178 rfl rfl (Nat.le_of_ble_eq_true rfl) rfl fun e0 he0 => ?_
  rw [nil_pre H]
  refine aw_block ?_
  refine aw_seq ?_
  refine aw_region (sq_ev rfl (ev_ifc_eqnil un20 (Less.rfl' _) (Less.rfl' _)) ?_)
  refine sq_nil ?_
  refine aw_false (Less.rfl' _) ?_
  refine aw_seq ?_
  refine aw_region (sq_ev rfl (ev_assert_yes ni222.h (Less.rfl' _)) ?_)
  refine sq_ev rfl (ev_extract (Less.rfl' _) rfl) ?_
  refine sq_ev rfl (ev_extract (Less.rfl' _) rfl) ?_
  refine sq_nil ?_
  refine aw_true (Less.rfl' _) ?_
  refine aw_seq ?_
  refine aw_region ?_
  refine sq_allocP (H0 := H) (X := []) rfl z222.h ?_
  refine sq_storeP (H0 := H) (j := 0) rfl (Less.rfl' _) (Less.rfl' _) rfl rfl ty222.h rfl rfl ?_
  refine sq_nil ?_
  refine aw_region (sq_ev rfl (ev_load_agg (Less.rfl' _) (lookP (H0 := H) (m := 0) rfl) ty222.h rfl) ?_)
  refine sq_storeL (H0 := H) rfl (Less.rfl' _) (Less.rfl' _) rfl hi ty222.h rfl rfl ?_
  refine sq_storeL (H0 := H.set i _) rfl (Less.rfl' _) (Less.rfl' _) rfl (by rw [List.getElem?_set_ne hij]; exact hj) ty36.h rfl rfl ?_
  refine sq_nil ?_
  exact ⟨.inl rfl, rfl, [.cells [I k, I f]], by simp only [List.append_nil]; rfl⟩
theorem adefer_sheet (i j : Nat) (H : List AObj) (w : AV) {c : AV} (hj : H[j]? = some (.cells [c])) (hw : w.cells = some [w]) :
    ADefer Tryz.prog 178 [.ptr i 0, .ptr j 0] H (some (.ifc 260 (.agg [w]))) (fun H' => ∃ X, H' = H.set j (.cells [I 4]) ++ X) := by
  refine adefer_of Tryz.func178 rfl rfl (Nat.le_of_ble_eq_true rfl) rfl fun e0 he0 => ?_
  rw [nil_pre H]
  refine aw_block ?_
  refine aw_seq ?_
  refine aw_region (sq_ev rfl (ev_ifc_eqnil un20 (Less.rfl' _) (Less.rfl' _)) ?_)
  refine sq_nil ?_
  refine aw_false (Less.rfl' _) ?_
  refine aw_seq ?_
  refine aw_region (sq_ev rfl (ev_assert_no ni222.h z222.h rfl (Less.rfl' _)) ?_)
  refine sq_ev rfl (ev_extract (Less.rfl' _) rfl) ?_
  refine sq_ev rfl (ev_extract (Less.rfl' _) rfl) ?_
  refine sq_nil ?_
  refine aw_false (Less.rfl' _) ?_
  refine aw_seq ?_
  refine aw_region (sq_ev rfl (ev_assert_yes ni260.h (Less.rfl' _)) ?_)
  refine sq_ev rfl (ev_extract (Less.rfl' _) rfl) ?_
  refine sq_ev rfl (ev_extract (Less.rfl' _) rfl) ?_
  refine sq_nil ?_
  refine aw_true (Less.rfl' _) ?_
  refine aw_seq ?_
  refine aw_region ?_
  refine sq_allocP (H0 := H) (X := []) rfl z260.h ?_
  refine sq_storeP (H0 := H) (j := 0) rfl (Less.rfl' _) (Less.rfl' _) rfl rfl ty260.h rfl rfl ?_
  refine sq_nil ?_
  refine aw_region ?_
  refine sq_storeL (H0 := H) rfl (Less.rfl' _) (Less.rfl' _) rfl hj ty36.h rfl rfl ?_
  refine sq_nil ?_
  exact ⟨.inl rfl, rfl, [.cells [w]], by simp only [List.append_nil]; rfl⟩
inductive Gave : ARes → AV → Prop
  | ret (v : AV) : Gave (.ret v) (.tup [.agg [I 0, I 0], I 0])
  | unfit (k f : Int) : Gave (.pan (.ifc 222 (.agg [I k, I f]))) (.tup [.agg [I k, I f], I 5])
  | sheet (w : AV) (hw : w.cells = some [w]) : Gave (.pan (.ifc 260 (.agg [w]))) (.tup [.agg [I 0, I 0], I 4])
theorem nattempt_call {f : FuncId} {caps : List AV} {H : List AObj} {Rd : ARes → List AObj → Prop} (he : Ent Tryz.prog f)
    (hdo : ACall Tryz.prog f caps (H ++ [.cells [I 0, I 0], .cells [I 0]]) fun x H' => ∃ H1 X, H' = H1 ++ ([.cells [I 0, I 0], .cells [I 0]] ++ X) ∧ H1.length = H.length ∧ Rd x H1 ∧ ∃ v, Gave x v) :
    ACall Tryz.prog 142 [.fn (.func f) [] caps] H fun x H' => ∃ y v H1 X, x = .ret v ∧ Gave y v ∧ Rd y H1 ∧ H' = H1 ++ X := by
  refine acall_of_defer (rs := [.cell 2 222, .cell 3 36]) Tryz.func142 rfl rfl (Nat.le_of_ble_eq_true rfl) en178.h fun e0 he0 => ?_
  rw [nil_pre H] at he0 ⊢
  refine aw_seq ?_
  refine aw_region ?_
  refine sq_allocP (H0 := H) (X := []) rfl z222.h ?_
  refine sq_allocP (H0 := H) rfl z36.h ?_
  refine sq_nil ?_
  refine aw_seq ?_
  refine aw_region (sq_ev rfl ev_makeFunc ?_)
  refine sq_defer rfl rfl (Less.rfl' _) ?_
  refine sq_nil ?_
  refine aw_seq ?_
  refine aw_region (sq_ev rfl (ev_mv (v := .fn _ _ _) (Less.rfl' _)) ?_)
  refine sq_call (f := f) (first := []) (cap := caps) (args := caps) rfl he (Less.rfl' _) (by simpa using LessL.rfl' caps) hdo ?_ ?_
  · rintro v _ ⟨H1, X, rfl, hl, hRd, hg⟩
    refine sq_nil ?_
    refine aw_seq ?_
    refine aw_region (sq_ev rfl (ev_build bi222.h rfl) ?_)
    refine sq_storeP (H0 := H1) (j := 0) rfl (Less.eq (by rw [hl]; rfl)) (Less.rfl' _) rfl rfl ty222.h rfl rfl ?_
    refine sq_storeP (H0 := H1) (j := 1) rfl (Less.eq (by rw [hl]; rfl)) (Less.rfl' _) rfl rfl ty36.h rfl rfl ?_
    refine sq_nil (aw_ret ?_)
    refine ⟨_, _, rfl, adefer_none _ _ _, ?_⟩
    rintro _ rfl
    refine ⟨.tup [.agg [I 0, I 0], I 0], ?_, _, _, H1, _, rfl, Gave.ret v, hRd, rfl⟩
    refine resAV_of (vs := [.agg [I 0, I 0], I 0]) (Nat.le_of_ble_eq_true rfl) ?_
    refine ⟨resVar_cell (l := [I 0, I 0]) (i := H1.length + 0) (off := 0) ?_ (lookP (H0 := H1) rfl) ty222.h rfl, resVar_cell1 (i := H1.length + 1) (off := 0) ?_ (lookP (H0 := H1) rfl) ty36.h rfl, trivial⟩
    · rw [hl]; rfl
    · rw [hl]; rfl
  · rintro v _ ⟨H1, X, rfl, hl, hRd, u, hg⟩
    have hi : (H1 ++ ([AObj.cells [I 0, I 0], .cells [I 0]] ++ X))[H.length + 0]? = some (.cells [I 0, I 0]) := by rw [← hl]; exact lookP (by rfl)
    have hj : (H1 ++ ([AObj.cells [I 0, I 0], .cells [I 0]] ++ X))[H.length + 1]? = some (.cells [I 0]) := by rw [← hl]; exact lookP (by rfl)
    cases hg with
    | unfit k f =>
      refine ⟨_, _, rfl, adefer_unfit (H.length + 0) (H.length + 1) _ k f hi hj (by omega), ?_⟩
      rintro _ ⟨Y, rfl⟩
      have e1 : ((H1 ++ ([AObj.cells [I 0, I 0], .cells [I 0]] ++ X)).set (H.length + 0) (.cells [I k, I f])).set (H.length + 1) (.cells [I 5]) ++ Y = H1 ++ ([.cells [I k, I f], .cells [I 5]] ++ (X ++ Y)) := by
        rw [← hl, setP, setP]; simp
      rw [e1]
      refine ⟨.tup [.agg [I k, I f], I 5], ?_, _, _, H1, _, rfl, Gave.unfit k f, hRd, rfl⟩
      refine resAV_of (vs := [.agg [I k, I f], I 5]) (Nat.le_of_ble_eq_true rfl) ?_
      refine ⟨resVar_cell (l := [I k, I f]) (i := H1.length + 0) (off := 0) ?_ (lookP (H0 := H1) rfl) ty222.h rfl, resVar_cell1 (i := H1.length + 1) (off := 0) ?_ (lookP (H0 := H1) rfl) ty36.h rfl, trivial⟩
      · rw [hl]; rfl
      · rw [hl]; rfl
    | sheet w hw =>
      refine ⟨_, _, rfl, adefer_sheet (H.length + 0) (H.length + 1) _ w hj hw, ?_⟩
      rintro _ ⟨Y, rfl⟩
      have e1 : (H1 ++ ([AObj.cells [I 0, I 0], .cells [I 0]] ++ X)).set (H.length + 1) (.cells [I 4]) ++ Y = H1 ++ ([.cells [I 0, I 0], .cells [I 4]] ++ (X ++ Y)) := by
        rw [← hl, setP]; simp
      rw [e1]
      refine ⟨.tup [.agg [I 0, I 0], I 4], ?_, _, _, H1, _, rfl, Gave.sheet w hw, hRd, rfl⟩
      refine resAV_of (vs := [.agg [I 0, I 0], I 4]) (Nat.le_of_ble_eq_true rfl) ?_
      refine ⟨resVar_cell (l := [I 0, I 0]) (i := H1.length + 0) (off := 0) ?_ (lookP (H0 := H1) rfl) ty222.h rfl, resVar_cell1 (i := H1.length + 1) (off := 0) ?_ (lookP (H0 := H1) rfl) ty36.h rfl, trivial⟩
      · rw [hl]; rfl
      · rw [hl]; rfl
def fk (p : Pl) (l : List Nat) : Int := match ffail p l with | none => 0 | some (k, _) => k
def ff (p : Pl) (l : List Nat) : Int := match ffail p l with | none => 0 | some (_, f) => f
def fe (p : Pl) (l : List Nat) : Int := match ffail p l with | none => 0 | some _ => 5
def canP (p : Pl) (l : List Nat) : Bool := (ffail p l).isNone
theorem fe_can (p : Pl) (l : List Nat) : decide (fe p l = 0) = canP p l := by unfold fe canP; cases ffail p l <;> rfl
theorem look_end (H : List AObj) (x : AObj) : (H ++ [x])[H.length]? = some x := by simp
theorem ndo143_call {p : Pl} {l : List Nat} {i : Nat} {H : List AObj} (gp : GP p) (cv : CV p l) (hi : H[i]? = some (.cells (playedC p l))) :
    ACall Tryz.prog 143 [.ptr i 0] H fun x H' => H' = H ∧ ((ffail p l = none ∧ x = .ret (.tup [])) ∨ ∃ (k : Nat) (f : Int), ffail p l = some (k, f) ∧ x = .pan (.ifc 222 (.agg [I k, I f]))) := by
  refine acall_of (rs := []) Tryz.func143 rfl rfl (Nat.le_of_ble_eq_true rfl) fun e0 he0 => ?_
  refine aw_region (sq_ev rfl (ev_load_agg (Less.rfl' _) hi ty130.h rfl) ?_)
  refine sq_call (first := []) (cap := []) (args := [played p l]) rfl en144.h (Less.rfl' _) ⟨Less.rfl' _, trivial⟩ (nforward_pan p l gp cv H) ?_ ?_
  · rintro v _ ⟨rfl, hR⟩
    refine sq_nil ?_
    refine ⟨rfl, .tup [], rfl, rfl, ?_⟩
    unfold fwR at hR
    cases hf : ffail p l with
    | none => exact .inl ⟨rfl, rfl⟩
    | some q => obtain ⟨k, f⟩ := q; rw [hf] at hR; cases hR
  · rintro v _ ⟨rfl, hR⟩
    refine ⟨rfl, rfl, ?_⟩
    unfold fwR at hR
    cases hf : ffail p l with
    | none => rw [hf] at hR; cases hR
    | some q => obtain ⟨k, f⟩ := q; rw [hf] at hR; exact .inr ⟨k, f, rfl, hR⟩
theorem natt143_call {p : Pl} {l : List Nat} {i : Nat} {H : List AObj} (gp : GP p) (cv : CV p l) (hi : H[i]? = some (.cells (playedC p l))) (hin : objsIn H.length H = true) :
    ACall Tryz.prog 142 [.fn (.func 143) [] [.ptr i 0]] H fun x H' => H' = H ∧ x = .ret (.tup [.agg [I (fk p l), I (ff p l)], I (fe p l)]) := by
  refine ACall.drop (R := fun x => x = .ret (.tup [.agg [I (fk p l), I (ff p l)], I (fe p l)])) ?_ (Nat.le_refl _) hin (fun x hx => by subst hx; rfl)
  refine (nattempt_call (Rd := fun x H1 => H1 = H ∧ ((ffail p l = none ∧ x = .ret (.tup [])) ∨ ∃ (k : Nat) (f : Int), ffail p l = some (k, f) ∧ x = .pan (.ifc 222 (.agg [I k, I f])))) en143.h
    ((ndo143_call gp cv (i := i) (lookL hi)).mono ?_)).mono ?_
  · rintro x _ ⟨rfl, h⟩
    refine ⟨H, [], by simp, rfl, ⟨rfl, h⟩, ?_⟩
    rcases h with ⟨_, rfl⟩ | ⟨k, f, _, rfl⟩
    · exact ⟨_, Gave.ret _⟩
    · exact ⟨_, Gave.unfit _ _⟩
  · rintro x H' ⟨y, v, H1, X, rfl, hg, ⟨rfl, hR⟩, rfl⟩
    refine ⟨⟨X, rfl⟩, ?_⟩
    rcases hR with ⟨hf, rfl⟩ | ⟨k, f, hf, rfl⟩
    · cases hg; simp [fk, ff, fe, hf]
    · cases hg; simp [fk, ff, fe, hf]
theorem idx_mem (l : List Int) (v : Int) : (AV.raw (Value.bool (decide ((0 : Int) ≤ (match l.findIdx? (fun x => decide (x = v)) with | some i => (i : Int) | none => -1))))) = B (decide (v ∈ l)) := by
  congr 2
  rw [Bool.eq_iff_iff, decide_eq_true_eq, decide_eq_true_eq]
  cases h : l.findIdx? (fun x => decide (x = v)) with
  | none =>
    rw [List.findIdx?_eq_none_iff] at h
    simp only
    constructor
    · intro k; omega
    · intro k; have := h v k; simp at this
  | some i =>
    rw [List.findIdx?_eq_some_iff_getElem] at h
    obtain ⟨h1, h2, _⟩ := h
    simp only [decide_eq_true_eq] at h2
    simp only
    exact ⟨fun _ => h2 ▸ List.getElem_mem h1, fun _ => by omega⟩
theorem ncan_pure (p : Pl) (l : List Nat) (gp : GP p) (cv : CV p l) : APure Tryz.prog 87 [played p l] (B (canP p l)) := by
  refine ap Tryz.func87 (fun e0 he0 => ?_)
  refine wz 3 ?_
  refine sq_call (args := [.fn (.func 143) [] [.ptr 0 0]]) rfl en142.h jz ⟨jz, trivial⟩ (natt143_call (i := 0) (H := [.cells (playedC p l)]) gp cv rfl (by simp [objsIn, AObj.inB, AV.inB, AV.inL, AV.inE, inE_map, inE_ints, inE_sc, -List.map_append, -List.map_take, -List.map_map])) ?_ (by rintro v H' ⟨_, h⟩; cases h)
  rintro _ _ ⟨rfl, h⟩; cases h
  refine wz 9 ?_
  exact rz rfl (Less.eq (by simp [fe_can]))
theorem nclone_quiet {j n cap : Nat} {es : List Int} {rs : List AV} {H : List AObj} (hj : H[j]? = some (.cells ((es.map fun x => [I x]).flatten ++ rs))) (hn : es.length = n) (hl : es.length ≤ 1000000) :
    AQuiet Tryz.prog 94 [.msl j 0 n cap] H (ints es) := by
  refine aquiet_of Tryz.func94 rfl rfl (Nat.le_of_ble_eq_true rfl) fun e0 he0 => ?_
  refine qw_seq ?_
  refine qw_region ?_
  refine qs_ev rfl (ev_as (v := .raw _) (Less.rfl' _)) ?_
  refine qs_nil ?_
  refine qw_seq ?_
  refine qw_seq ?_
  refine qw_region ?_
  refine qs_ev rfl (ev_mv (v := .msl _ _ _ _) (Less.rfl' _)) ?_
  refine qs_ev rfl (ev_sl_nil_msl sl31.h (Less.rfl' _) (Less.rfl' _)) ?_
  refine qs_nil ?_
  refine qw_cond (b := false) (Less.rfl' _) (fun h => by cases h) (fun _ => ?_)
  refine qw_skip ?_
  refine qw_seq ?_
  refine qw_region ?_
  refine qs_ev rfl (ev_buildSlice (es := []) sf31.h rfl rfl rfl rfl) ?_
  refine qs_ev rfl (ev_mv (v := .msl _ _ _ _) (Less.rfl' _)) ?_
  refine qs_ev rfl (ev_append_msl (xs := es.map fun x => [I x]) (rs := rs) sf31.h Tryz.underlying31 (Less.rfl' _) (Less.rfl' _) (pre_get he0 hj) (by simpa using hn) (by intro q hq; obtain ⟨x, _, rfl⟩ := List.mem_map.1 hq; rfl) (by simp; omega) (by simp; omega)) ?_
  refine qs_ev rfl (ev_as (v := .sl _ _) (Less.rfl' _)) ?_
  refine qs_nil ?_
  refine qw_ret ?_
  exact ⟨.inr rfl, rfl, Less.eq (by simp [sget, St.put])⟩
theorem nindex_pure (l : List Int) (v : Int) (hl : l.length ≤ 1000000) : APure Tryz.prog 195 [ints l, I v] (I (match l.findIdx? (fun x => decide (x = v)) with | some i => (i : Int) | none => -1)) := by
  refine ap Tryz.func195 (fun e0 he0 => ?_)
  refine wz 4 ?_
  refine aw_loopk (ι := { k : Nat // k ≤ l.length ∧ ∀ i, (h : i < l.length) → i < k → ¬ l[i] = v }) [0, 1, 7] (fun i => [(8, I i.1)]) (fun H i => H) (fun i => l.length - i.1) (⟨0, Nat.zero_le _, by omega⟩) ⟨jz, jz, jz, jz, trivial⟩ rfl ?_
  rintro ⟨k, hk, hno⟩
  refine nz ?_
  refine wz 1 ?_
  refine iz (fun c1 c1' => ?_) (fun c1 c1' => ?_)
  ·have hk' : k < l.length := by omega
   refine wz 8 ?_
   refine iz (fun c2 c2' => ?_) (fun c2 c2' => ?_)
   ·refine wz 2 ?_
    exact rz rfl (Less.eq (by rw [List.findIdx?_eq_some_iff_getElem.2 ⟨hk', by simp [c2'], fun j hj => by simpa using hno j (by omega) hj⟩]))
   refine vz 2 ?_
   refine sq_nil ?_
   have hne : ¬ l[k] = v := fun e => c2' e.symm
   exact ⟨⟨k + 1, by omega, fun i h hi => (by by_cases e : i = k; (subst e; exact hne); exact hno i h (by omega))⟩, by simp only; omega, Sub.slots ⟨jz, jz, jz, jz, trivial⟩⟩
  obtain rfl : k = l.length := by omega
  refine wz 1 ?_
  exact rz rfl (Less.eq (by rw [List.findIdx?_eq_none_iff.2 (fun x hx => by obtain ⟨i, hi, rfl⟩ := List.getElem_of_mem hx; simpa using hno i hi hi)]))
theorem ncontains_pure (l : List Int) (v : Int) (hl : l.length ≤ 1000000) : APure Tryz.prog 181 [ints l, I v] (B (decide (v ∈ l))) := by
  refine ap Tryz.func181 (fun e0 he0 => ?_)
  refine wz 3 ?_
  refine kz az (nindex_pure l v hl) ?_
  refine wz 2 ?_
  exact rz rfl (Less.eq (by rw [idx_mem]))
end Go.Proofs.YtnbjaepkbabkhaaGreat
namespace Go.Proofs.YtnbjaepkbabkhaaGreat
open Go Go.Ab Ni
instance en50 : EnT Tryz.prog 50 := ⟨Ent.of Tryz.func50 (by kernel_rfl) rfl⟩
instance en91 : EnT Tryz.prog 91 := ⟨Ent.of Tryz.func91 (by kernel_rfl) rfl⟩
instance en92 : EnT Tryz.prog 92 := ⟨Ent.of Tryz.func92 (by kernel_rfl) rfl⟩
instance en93 : EnT Tryz.prog 93 := ⟨Ent.of Tryz.func93 (by kernel_rfl) rfl⟩
instance en94 : EnT Tryz.prog 94 := ⟨Ent.of Tryz.func94 (by kernel_rfl) rfl⟩
instance ty158 : TyF Tryz.prog 158 false 1 := ⟨by kernel_rfl⟩
instance ty57 : TyF Tryz.prog 57 false 1 := ⟨by kernel_rfl⟩
instance z31 : ZeO Tryz.prog 31 [.raw (.slice none 0 0)] := ⟨by kernel_rfl⟩
instance z57 : ZeO Tryz.prog 57 [.raw .nilFunc] := ⟨by kernel_rfl⟩
def NowIs (N : Nat) (G : List AObj) (a : AV) (now : List Nat) : Prop :=
  (a = .raw (.slice none 0 0) ∧ now = []) ∨ ∃ j cap rs, a = .msl (N + (3 + j)) 0 now.length cap ∧ G[j]? = some (.cells ((now.map fun (x : Nat) => [I x]).flatten ++ rs)) ∧ rs.length = (cap - now.length) * 1 ∧ now.length ≤ cap
abbrev fromV (p : Pl) (N : Nat) : AV := .fn (.func 92) [] [.iptr (planC p), .ptr (N + 1) 0, .ptr (N + 0) 0, .ptr (N + 2) 0]
abbrev locs (p : Pl) (l N : Nat) (a : AV) (G : List AObj) : List AObj := .cells [.fn (.yield l) [] []] :: .cells [a] :: .cells [fromV p N] :: G
def LX (p : Pl) (l N : Nat) (X : List AObj) (now : List Nat) : Prop := ∃ a G, X = locs p l N a G ∧ NowIs N G a now
theorem now_obj {p : Pl} {l N : Nat} {b : AV} {G T : List AObj} {now : List Nat} {j : Nat} {rs : List AV} (hT : T.length = N) (h : G[j]? = some (.cells ((now.map fun (x : Nat) => [I x]).flatten ++ rs))) :
    (T ++ locs p l N b G)[N + (3 + j)]? = some (.cells ((now.map fun (x : Nat) => [I x]).flatten ++ rs)) := by
  subst hT
  refine lookP ?_
  rw [show 3 + j = j + 1 + 1 + 1 by omega]
  simpa using h
theorem sz1 (now : List Nat) : ∀ q ∈ now.map (fun (x : Nat) => [I (x : Int)]), q.length = 1 := fun q hq => by obtain ⟨x, _, rfl⟩ := List.mem_map.1 hq; rfl
theorem up_map (now : List Nat) : (up now).map (fun x => [I x]) = now.map fun (x : Nat) => [I (x : Int)] := by simp [up]
theorem now_isc {p : Pl} {l N : Nat} {a b : AV} {G T : List AObj} {now : List Nat} (gp : GP p) (cv : CV p now) (hT : T.length = N) (h : NowIs N G a now) :
    AQuiet Tryz.prog 93 [plan p, a] (T ++ locs p l N b G) (B (isC p now)) := by
  have hp := gp.len
  have hc := cv.len
  have base : APure Tryz.prog 93 [plan p, nats now] (B (isC p now)) := by
    have := nischoice_pure p (up now) (by omega) (by simp [up]; omega)
    rwa [← nats_ints] at this
  rcases h with ⟨rfl, rfl⟩ | ⟨j, cap, rs, rfl, hj, hrs, hle⟩
  · exact (AQuiet.of_pure base _).less ⟨Less.rfl' _, less_nil 1, trivial⟩
  · exact AQuiet.lend (sz := 1) base rfl (.cons (Fz.same _) (.cons Fz.frozen .nil)) (now_obj hT hj) (by simp) (sz1 now)
theorem nclone_nil (H : List AObj) : AQuiet Tryz.prog 94 [.raw (.slice none 0 0)] H (nats []) := by
  refine aquiet_of Tryz.func94 rfl rfl (Nat.le_of_ble_eq_true rfl) fun e0 he0 => ?_
  refine qw_seq ?_
  refine qw_region ?_
  refine qs_ev rfl (ev_as (v := .raw _) (Less.rfl' _)) ?_
  refine qs_nil ?_
  refine qw_seq ?_
  refine qw_seq ?_
  refine qw_region ?_
  refine qs_ev rfl (ev_mv (v := .raw _) (Less.rfl' _)) ?_
  refine qs_ev rfl (ev_slnil sl31.h (Less.rfl' _) (Less.rfl' _)) ?_
  refine qs_nil ?_
  refine qw_cond (b := true) (Less.rfl' _) (fun _ => ?_) (fun h => by cases h)
  refine qw_seq ?_
  refine qw_region ?_
  refine qs_ev rfl (ev_as (v := .raw _) (Less.rfl' _)) ?_
  refine qs_nil ?_
  refine qw_ret ?_
  exact ⟨.inr rfl, rfl, less_nil 1⟩
theorem now_clone {p : Pl} {l N : Nat} {a b : AV} {G T : List AObj} {now : List Nat} (cv : CV p now) (hT : T.length = N) (h : NowIs N G a now) :
    AQuiet Tryz.prog 94 [a] (T ++ locs p l N b G) (nats now) := by
  have hc := cv.len
  rcases h with ⟨rfl, rfl⟩ | ⟨j, cap, rs, rfl, hj, hrs, hle⟩
  · exact nclone_nil _
  · have := nclone_quiet (j := N + (3 + j)) (n := now.length) (cap := cap) (es := up now) (rs := rs) (H := T ++ locs p l N b G) (by rw [up_map]; exact now_obj hT hj) (by simp [up]) (by simp [up]; omega)
    rwa [← nats_ints] at this
section app
variable {c : Ctx} {ops : Array Oper} {Q : AExit → St → Prop} {rest : List Oper} {i : Nat} {sl : List (Nat × AV)} {df : List ADef}
variable {d : Option Tmp} {t : TypeId} {pp : String} {af : Array Edge}
theorem sq_now_append {p : Pl} {l N : Nat} {a b : AV} {G T : List AObj} {now : List Nat} {x y : Operand} {n : Nat} (hP : c.P = Tryz.prog) (hd : dOK c.nt d = true) (cv : CV p now) (hT : T.length = N) (h : NowIs N G a now)
    (hx : Less ((⟨sl, T ++ locs p l N b G, df⟩ : St).op x) a) (hy : Less ((⟨sl, T ++ locs p l N b G, df⟩ : St).op y) (.sl 1 [[I n]]))
    (k : ∀ a' G', NowIs N G' a' (now ++ [n]) → SeqWP c ops Q (i + 1) rest (St.put ⟨sl, T ++ locs p l N b G', df⟩ d a')) :
    SeqWP c ops Q i (⟨d, .call ⟨.builtin .append, #[x, y], #[31, 31]⟩, t, pp, af, none⟩ :: rest) ⟨sl, T ++ locs p l N b G, df⟩ := by
  have hc := cv.len
  have hlen : (T ++ locs p l N b G).length = N + (3 + G.length) := by rw [List.length_append, hT]; simp; omega
  rcases h with ⟨rfl, rfl⟩ | ⟨j, cap, rs, rfl, hj, hrs, hle⟩
  · refine sq_append_msl (xs := [[I n]]) hd (by rw [hP]; exact sf31.h) (by rw [hP]; exact Tryz.underlying31) (hx.trans (less_nilx 1)) hy (by simp) (by simp) (by simp) fun cap hcap => ?_
    rw [hlen]
    have e1 : T ++ locs p l N b G ++ [.cells ([[I (n : Int)]].flatten ++ List.replicate ((cap - [[I (n : Int)]].length) * 1) .any)] = T ++ locs p l N b (G ++ [.cells ([[I (n : Int)]].flatten ++ List.replicate ((cap - [[I (n : Int)]].length) * 1) .any)]) := by simp
    rw [e1]
    refine k _ _ (.inr ⟨G.length, cap, List.replicate ((cap - 1) * 1) .any, rfl, ?_, ?_, ?_⟩)
    · simp
    · simp
    · simpa using hcap
  · have ho := now_obj (p := p) (l := l) (b := b) hT hj
    refine sq_append_m (es := now.map fun (x : Nat) => [I (x : Int)]) (xs := [[I n]]) (rs := rs) hd (by rw [hP]; exact sf31.h) (by rw [hP]; exact Tryz.underlying31) hx ho (by simp) (sz1 now) hrs hy (by simp; omega) (by simp; omega) (fun hfit => ?_) (fun cap' hcap => ?_)
    · have e1 : (T ++ locs p l N b G).set (N + (3 + j)) (.cells ((now.map (fun (x : Nat) => [I (x : Int)]) ++ [[I (n : Int)]]).flatten ++ rs.drop ([[I (n : Int)]].length * 1))) =
          T ++ locs p l N b (G.set j (.cells ((now.map (fun (x : Nat) => [I (x : Int)]) ++ [[I (n : Int)]]).flatten ++ rs.drop ([[I (n : Int)]].length * 1)))) := by
        subst hT
        rw [setP, show 3 + j = j + 1 + 1 + 1 by omega]; rfl
      simp only [e1]
      refine k _ _ (.inr ⟨j, cap, rs.drop 1, ?_, ?_, ?_, ?_⟩)
      · simp
      · rw [List.getElem?_set_self (lt_of_get? hj)]; simp
      · simp only [List.length_drop, List.length_append, List.length_singleton, hrs]; omega
      · simpa using hfit
    · rw [hlen]
      have e1 : T ++ locs p l N b G ++ [.cells ((now.map (fun (x : Nat) => [I (x : Int)]) ++ [[I (n : Int)]]).flatten ++ List.replicate ((cap' - (now.length + [[I (n : Int)]].length)) * 1) .any)] =
          T ++ locs p l N b (G ++ [.cells ((now.map (fun (x : Nat) => [I (x : Int)]) ++ [[I (n : Int)]]).flatten ++ List.replicate ((cap' - (now.length + [[I (n : Int)]].length)) * 1) .any)]) := by simp
      rw [e1]
      refine k _ _ (.inr ⟨G.length, cap', List.replicate ((cap' - (now.length + 1)) * 1) .any, ?_, ?_, ?_, ?_⟩)
      · simp
      · simp
      · simp
      · simpa using hcap
end app
theorem box0 {p : Pl} {l N : Nat} {a : AV} {G T : List AObj} (hT : T.length = N) : (T ++ locs p l N a G)[N + 0]? = some (.cells [.fn (.yield l) [] []]) := by subst hT; exact lookP rfl
theorem box1 {p : Pl} {l N : Nat} {a : AV} {G T : List AObj} (hT : T.length = N) : (T ++ locs p l N a G)[N + 1]? = some (.cells [a]) := by subst hT; exact lookP rfl
theorem box2 {p : Pl} {l N : Nat} {a : AV} {G T : List AObj} (hT : T.length = N) : (T ++ locs p l N a G)[N + 2]? = some (.cells [fromV p N]) := by subst hT; exact lookP rfl
theorem now_cells {N : Nat} {G : List AObj} {a : AV} {now : List Nat} (h : NowIs N G a now) : a.cells = some [a] := by
  rcases h with ⟨rfl, _⟩ | ⟨_, _, _, rfl, _⟩ <;> rfl
theorem fm_len_le {α : Type} (f : Nat → List α) {a : Nat} : ∀ {b : Nat}, a ≤ b → (fm a f).length ≤ (fm b f).length
  | 0, h => by have : a = 0 := by omega
               subst this; exact Nat.le_refl _
  | b + 1, h => by
    by_cases e : a = b + 1
    · rw [e]; exact Nat.le_refl _
    · have := fm_len_le f (a := a) (b := b) (by omega)
      rw [fm_succ, List.length_append]; omega
structure ItOK (p : Pl) (e : Env) (l m : Nat) (st : Bool) (T : Nat → List AObj) (N : Nat) (xs : List AV) : Prop where
  gp : GP p
  hT : ∀ i, (T i).length = N
  hm : m ≤ xs.length
  all : st = false → m = xs.length
  hy : ∀ i x, i < m → xs[i]? = some x → ∀ X, AYieldAt e Tryz.prog l x (T i ++ X) (goes m st i) (T (i + 1) ++ X)
def FromR (p : Pl) (l m : Nat) (st : Bool) (T : Nat → List AObj) (N : Nat) (many k : Nat) (now : List Nat) : ARes → List AObj → Prop := fun x H' =>
  ∃ X', if st = true ∧ m ≤ k + (seg p many now).length then x = .ret (B false) ∧ H' = T m ++ X' else x = .ret (B true) ∧ H' = T (k + (seg p many now).length) ++ X' ∧ LX p l N X' now
theorem nfrom_call {p : Pl} {e : Env} {l m : Nat} {st : Bool} {T : Nat → List AObj} {N : Nat} {xs : List AV} (it : ItOK p e l m st T N xs) : ∀ (many : Nat) (now : List Nat) (k : Nat) (X : List AObj), (∀ x ∈ now, x < p.scenes.length) → now.length + many ≤ 16 →
    LX p l N X now → (st = true → k < m) → (∀ i y, (seg p many now)[i]? = some y → xs[k + i]? = some (nats y)) →
    ACallE e Tryz.prog 92 [I (nxt now), I many, .iptr (planC p), .ptr (N + 1) 0, .ptr (N + 0) 0, .ptr (N + 2) 0] (T k ++ X) (FromR p l m st T N many k now) := by
  intro many
  induction many with
  | zero =>
    rintro now k _ hmem hlen ⟨a, G, rfl, hnow⟩ hkm hseg
    have cv : CV p now := mem_cv hmem (by omega)
    refine acallE_of_marks (rs := [.tmp 8]) Tryz.func92 rfl rfl (Nat.le_of_ble_eq_true rfl) fun e0 hle he0 => ?_
    refine aw_seq ?_
    refine aw_region (sq_ev rfl (ev_as (v := .raw _) (Less.rfl' _)) ?_)
    refine sq_nil ?_
    refine aw_seq ?_
    refine aw_seq ?_
    refine aw_region (sq_ev rfl (ev_mv (v := .raw _) (Less.rfl' _)) ?_)
    refine sq_ev rfl (ev_eql (Less.rfl' _) (Less.rfl' _)) ?_
    refine sq_nil ?_
    refine aw_true (less_b (by decide)) ?_
    refine aw_seq ?_
    refine aw_draw 8 mo (by kernel_rfl) ?_
    refine dr_ev rfl (ev_load_agg_i (Less.rfl' _) ty45.h (Nat.le_of_ble_eq_true rfl)) ?_
    refine dr_ev rfl (ev_load (Less.rfl' _) (box1 (it.hT k)) ty31.h rfl) ?_
    refine dr_ev rfl (ev_callQ en93.h (Less.rfl' _) (now_isc it.gp cv (it.hT k) hnow) ⟨Less.rfl' _, Less.rfl' _, trivial⟩) ?_
    refine dr_ev rfl (ev_not (Less.rfl' _)) ?_
    refine dr_ev rfl (ev_mv (v := .raw _) (Less.rfl' _)) ?_
    refine dr_split 16 (Less.rfl' _) (fun g => ?_) (fun g => ?_)
    · have hc : ¬ isC p now = true := by simpa using g
      have hs : seg p 0 now = [] := by rw [seg_zero, if_neg hc]
      refine dr_no rfl rfl (less_b g) rfl rfl ?_
      refine dr_no rfl rfl (less_b g) rfl rfl ?_
      refine dr_no rfl rfl (less_b g) rfl rfl ?_
      refine dr_end (sq_no rfl rfl (less_b g) rfl rfl ?_)
      refine sq_ev rfl (ev_pickT (v := .raw _) (less_b g) (Less.rfl' _)) ?_
      refine sq_ev rfl (ev_as (v := .raw _) (Less.rfl' _)) ?_
      refine sq_nil (aw_ret ?_)
      refine ⟨_, B true, rfl, rfl, locs p l N a G, ?_⟩
      rw [hs]
      rw [if_neg (fun h => by have := hkm h.1; have := h.2; simp only [List.length_nil] at this; omega)]
      exact ⟨rfl, rfl, a, G, rfl, hnow⟩
    · have hc : isC p now = true := by simpa using g
      have hs : seg p 0 now = [now] := by rw [seg_zero, if_pos hc]
      have hx : xs[k]? = some (nats now) := hseg 0 now (by rw [hs]; rfl)
      have hk : k < m := by
        cases hst : st with
        | true => exact hkm hst
        | false => have := it.all hst; have := (List.getElem?_eq_some_iff.1 hx).1; omega
      refine dr_yes rfl rfl (less_b g) rfl (ev_load (Less.rfl' _) (box0 (it.hT k)) ty158.h rfl) ?_
      refine dr_yes rfl rfl (less_b g) rfl (ev_load (Less.rfl' _) (box1 (it.hT k)) ty31.h rfl) ?_
      refine dr_yes rfl rfl (less_b g) rfl (ev_callQ en94.h (Less.rfl' _) (now_clone cv (it.hT k) hnow) ⟨Less.rfl' _, trivial⟩) ?_
      refine dr_end ?_
      refine sq_yield_yes rfl rfl (less_b g) hle rfl (Less.rfl' _) (Less.rfl' _) (it.hy k _ hk hx _) ?_
      refine sq_ev rfl (ev_pickF (v := .raw _) (less_b g) (Less.rfl' _)) ?_
      refine sq_ev rfl (ev_as (v := .raw _) (Less.rfl' _)) ?_
      refine sq_nil (aw_ret ?_)
      refine ⟨_, B (goes m st k), rfl, rfl, locs p l N a G, ?_⟩
      rw [hs]
      by_cases hstop : st = true ∧ m ≤ k + [now].length
      · rw [if_pos hstop]
        have hm : m = k + 1 := by have := hstop.2; simp only [List.length_singleton] at this; omega
        have hg : goes m st k = false := by unfold goes; rw [hstop.1, hm]; simp
        rw [hg, hm]; exact ⟨rfl, rfl⟩
      · rw [if_neg hstop]
        have hg : goes m st k = true := by
          unfold goes
          cases hst : st with
          | false => rfl
          | true =>
            have hne : k + 1 ≠ m := fun h => hstop ⟨hst, by simp only [List.length_singleton]; omega⟩
            have : Nat.beq (k + 1) m = false := by cases hb : Nat.beq (k + 1) m with | false => rfl | true => exact absurd (Nat.eq_of_beq_eq_true hb) hne
            rw [this]; rfl
        rw [hg]; exact ⟨rfl, rfl, a, G, rfl, hnow⟩
  | succ mm ih =>
    rintro now k _ hmem hlen ⟨a, G, rfl, hnow⟩ hkm hseg
    have cv : CV p now := mem_cv hmem (by omega)
    have hnx := nxt_le hmem
    have hgl := it.gp.len
    refine acallE_of_marks (rs := [.tmp 8]) Tryz.func92 rfl rfl (Nat.le_of_ble_eq_true rfl) fun e0 hle he0 => ?_
    refine aw_seq ?_
    refine aw_region (sq_ev rfl (ev_as (v := .raw _) (Less.rfl' _)) ?_)
    refine sq_nil ?_
    refine aw_seq ?_
    refine aw_seq ?_
    refine aw_region (sq_ev rfl (ev_mv (v := .raw _) (Less.rfl' _)) ?_)
    refine sq_ev rfl (ev_eql (Less.rfl' _) (Less.rfl' _)) ?_
    refine sq_nil ?_
    refine aw_false (less_b (by simp; omega)) ?_
    refine aw_skip ?_
    refine aw_seq ?_
    refine aw_seq ?_
    refine aw_region (sq_ev rfl (ev_mv (v := .raw _) (Less.rfl' _)) ?_)
    refine sq_ev rfl (ev_as (v := .raw _) (Less.rfl' _)) ?_
    refine sq_nil ?_
    refine aw_block ?_
    refine aw_loopk (ι := { g : Nat × List AObj // g.1 ≤ p.scenes.length - nxt now ∧ LX p l N g.2 now ∧ (st = true → k + (fm g.1 (segF p mm now)).length < m) }) [1, 2, 3, 5] (fun g => [(9, I (nxt now + g.1.1))])
      (fun _ g => T (k + (fm g.1.1 (segF p mm now)).length) ++ g.1.2) (fun g => p.scenes.length - nxt now - g.1.1) ⟨(0, locs p l N a G), Nat.zero_le _, ⟨a, G, rfl, hnow⟩, fun h => by simpa [fm] using hkm h⟩
      ⟨(by exact less_int (by simp)), Less.rfl' _, Less.rfl' _, Less.rfl' _, Less.rfl' _, trivial⟩ rfl ?_
    clear hnow
    rintro ⟨⟨d, Y⟩, hd, hX, hkd⟩
    dsimp only [keepS, St.put, sget, slotsOf, List.map_cons, List.map_nil, List.cons_append, List.nil_append, List.length_cons, List.length_nil, Nat.reduceBEq, Nat.reduceAdd, cond_true, cond_false]
    dsimp only at hd hX hkd
    obtain ⟨a, G, hY, hnow⟩ := hX
    subst hY
    have hTk := it.hT (k + (fm d (segF p mm now)).length)
    refine aw_seq ?_
    refine aw_seq ?_
    refine aw_region (sq_ev rfl (ev_mv (v := .raw _) (Less.rfl' _)) ?_)
    refine sq_ev rfl (ev_mv (v := .raw _) (Less.rfl' _)) ?_
    refine sq_ev rfl (ev_add (Less.rfl' _) (Less.rfl' _) (wr (by omega) (by omega))) ?_
    refine sq_ev rfl (ev_fieldAddr_i fo45_3.h (Less.rfl' _)) ?_
    refine sq_ev rfl (ev_load_i (Less.rfl' _) ty43.h rfl) ?_
    refine sq_ev rfl (ev_len_map sl43.h (Less.rfl' _)) ?_
    refine sq_ev rfl (ev_leq (Less.rfl' _) (Less.rfl' _)) ?_
    refine sq_nil ?_
    refine aw_cond (Less.rfl' _) (fun c2 => ?_) (fun c2 => ?_)
    · have c2' : nxt now + d + (mm + 1) ≤ p.scenes.length := by simp at c2; omega
      have hdl : d < p.scenes.length - nxt now := by omega
      have hmem' : ∀ x ∈ now ++ [nxt now + d], x < p.scenes.length := fun x hx => by
        rcases List.mem_append.1 hx with h | h
        · exact hmem x h
        · simp at h; omega
      refine aw_skip ?_
      refine aw_seq ?_
      refine aw_block ?_
      refine aw_seq ?_
      refine aw_region (sq_ev rfl (ev_load (Less.rfl' _) (box1 hTk) ty31.h rfl) ?_)
      refine sq_ev rfl (ev_mv (v := .raw _) (Less.rfl' _)) ?_
      refine sq_ev rfl (ev_buildSlice (es := [[_]]) sf31.h rfl rfl rfl rfl) ?_
      refine sq_now_append (n := nxt now + d) rfl rfl cv hTk hnow (Less.rfl' _) ((less_slx 1 [[I ((nxt now : Int) + d)]]).trans (Less.eq (by simp))) fun a' G' hnow' => ?_
      refine sq_storeP (H0 := T (k + (fm d (segF p mm now)).length)) (X := locs p l N a G') (j := 1) rfl (Less.eq (by rw [hTk]; rfl)) (Less.rfl' _) (now_cells hnow') rfl ty31.h rfl rfl ?_
      refine sq_nil ?_
      refine aw_seq ?_
      refine aw_seq ?_
      refine aw_region (sq_ev rfl (ev_load (Less.rfl' _) (box2 (a := a') hTk) ty57.h rfl) ?_)
      refine sq_ev rfl (ev_mv (v := .raw _) (Less.rfl' _)) ?_
      refine sq_ev rfl (ev_add (Less.rfl' _) (Less.rfl' _) (wr (by omega) (by omega))) ?_
      refine sq_ev rfl (ev_mv (v := .raw _) (Less.rfl' _)) ?_
      refine sq_ev rfl (ev_sub (Less.rfl' _) (Less.rfl' _) (wr (by omega) (by omega))) ?_
      refine sq_callE (es := e) hle rfl en92.h (Less.rfl' _) (args := [I (nxt (now ++ [nxt now + d])), I mm, .iptr (planC p), .ptr (N + 1) 0, .ptr (N + 0) 0, .ptr (N + 2) 0])
        ⟨less_int (by rw [nxt_app]; simp), less_int (by omega), Less.rfl' _, Less.rfl' _, Less.rfl' _, Less.rfl' _, trivial⟩
        (ih (now ++ [nxt now + d]) (k + (fm d (segF p mm now)).length) (locs p l N a' G') hmem' (by simp; omega) ⟨a', G', rfl, hnow'⟩ hkd (fun i y hi => by
          have := hseg ((fm d (segF p mm now)).length + i) y (by rw [seg_succ]; exact fm_get _ hdl hi)
          rwa [← Nat.add_assoc] at this)) ?_ (fun v H' ⟨X', h⟩ => by split at h <;> cases h.1)
      rintro v H' ⟨X', hR⟩
      split at hR
      · rename_i hstop
        obtain ⟨h1, rfl⟩ := hR
        cases h1
        refine sq_ev rfl (ev_not (Less.rfl' _)) ?_
        refine sq_nil ?_
        refine aw_true (Less.rfl' _) ?_
        refine aw_seq ?_
        refine aw_region (sq_ev rfl (ev_as (v := .raw _) (Less.rfl' _)) ?_)
        refine sq_nil (aw_ret ?_)
        refine ⟨_, B false, rfl, rfl, X', ?_⟩
        have hle2 := fm_len_le (segF p mm now) (a := d + 1) (b := p.scenes.length - nxt now) (by omega)
        rw [fm_succ, List.length_append] at hle2
        have e1 : (segF p mm now d).length = (seg p mm (now ++ [nxt now + d])).length := rfl
        have hst2 := hstop.2
        rw [if_pos ⟨hstop.1, by rw [seg_succ]; omega⟩]
        exact ⟨rfl, rfl⟩
      · rename_i hstop
        obtain ⟨h1, h2, a2, G2, rfl, hnow2⟩ := hR
        cases h1
        have hq : k + (fm d (segF p mm now)).length + (seg p mm (now ++ [nxt now + d])).length = k + (fm (d + 1) (segF p mm now)).length := by
          rw [fm_succ, List.length_append]; unfold segF; omega
        rw [hq] at h2 hstop
        subst h2
        have hTk2 := it.hT (k + (fm (d + 1) (segF p mm now)).length)
        refine sq_ev rfl (ev_not (Less.rfl' _)) ?_
        refine sq_nil ?_
        refine aw_false (Less.rfl' _) ?_
        refine aw_skip ?_
        rcases hnow2 with ⟨_, h0⟩ | ⟨j, cap, rs, rfl, hj, hrs, hcap⟩
        · simp at h0
        rw [List.length_append, List.length_singleton] at hrs hcap
        refine aw_region (sq_ev rfl (ev_load (Less.rfl' _) (box1 hTk2) ty31.h rfl) ?_)
        refine sq_ev rfl (ev_load (Less.rfl' _) (box1 hTk2) ty31.h rfl) ?_
        refine sq_ev rfl (ev_len_msl sl31.h (Less.rfl' _)) ?_
        refine sq_ev rfl (ev_sub (q := (now.length : Int)) (Less.rfl' _) (Less.rfl' _) (by rw [wr (by simp <;> omega) (by simp <;> omega)]; simp)) ?_
        refine sq_ev rfl (ev_slice_msl (hi := now.length) sl31.h (Less.rfl' _) (Less.rfl' _) (by omega)) ?_
        refine sq_storeP (H0 := T (k + (fm (d + 1) (segF p mm now)).length)) (X := locs p l N _ G2) (j := 1) rfl (Less.eq (by rw [hTk2]; rfl)) (Less.rfl' _) rfl rfl ty31.h rfl rfl ?_
        refine sq_nil ?_
        refine aw_region (sq_ev rfl (ev_mv (v := .raw _) (Less.rfl' _)) ?_)
        refine sq_ev rfl (ev_add (Less.rfl' _) (Less.rfl' _) (wr (by omega) (by omega))) ?_
        refine sq_ev rfl (ev_as (v := .raw _) (Less.rfl' _)) ?_
        refine sq_nil ?_
        refine ⟨⟨(d + 1, locs p l N (.msl (N + (3 + j)) 0 now.length cap) G2), by simp only; omega, ⟨_, G2, rfl, .inr ⟨j, cap, I ((nxt now + d : Nat) : Int) :: rs, rfl, ?_, ?_, by omega⟩⟩, fun h => ?_⟩, by simp only; omega, Sub.slots ⟨(by exact less_int (by simp <;> omega)), Less.rfl' _, Less.rfl' _, Less.rfl' _, Less.rfl' _, trivial⟩⟩
        · rw [hj]; simp
        · simp only [List.length_cons, hrs]; omega
        · simp only
          have : ¬ m ≤ k + (fm (d + 1) (segF p mm now)).length := fun h' => hstop ⟨h, h'⟩
          omega
    · have c2' : p.scenes.length < nxt now + d + (mm + 1) := by simp at c2; omega
      have hsc := seg_cut (p := p) (m := mm) (now := now) hd c2'
      refine aw_exit ?_
      refine aw_seq ?_
      refine aw_region (sq_ev rfl (ev_as (v := .raw _) (Less.rfl' _)) ?_)
      refine sq_nil (aw_ret ?_)
      refine ⟨_, B true, rfl, rfl, locs p l N a G, ?_⟩
      rw [hsc, if_neg (fun h => by have := hkd h.1; have := h.2; omega)]
      exact ⟨rfl, rfl, a, G, rfl, hnow⟩
def segs (p : Pl) (i : Nat) : List (List Nat) := seg p (p.scenes.length - i) []
theorem nchoices_iter {p : Pl} (gp : GP p) : AIter Tryz.prog 91 [] [.iptr (planC p)] ((allC p).map nats) := by
  intro m st hm h1 h2 l T e vs hT ok hH hs hy
  have it : ItOK p e l m st T (T 0).length ((allC p).map nats) := ⟨gp, hT, hm, h1, fun i x hi hx X => hy i x hi hx X⟩
  have hgl := gp.len
  have key : ACallE e Tryz.prog 91 [.fn (.yield l) [] [], .iptr (planC p)] (T 0) (fun x H' => x = .ret (.tup []) ∧ ∃ X, H' = T m ++ X) := by
    refine acallE_of_marks (rs := []) Tryz.func91 rfl rfl (Nat.le_of_ble_eq_true rfl) fun e0 hle he0 => ?_
    rw [nil_pre (T 0)]
    refine aw_seq ?_
    refine aw_region ?_
    refine sq_boxP (H0 := T 0) (X := []) rfl (Less.rfl' _) rfl ?_
    refine sq_nil ?_
    refine aw_seq ?_
    refine aw_region ?_
    refine sq_allocP (H0 := T 0) rfl z31.h ?_
    refine sq_nil ?_
    refine aw_seq ?_
    refine aw_region ?_
    refine sq_allocP (H0 := T 0) rfl z57.h ?_
    refine sq_nil ?_
    refine aw_seq ?_
    refine aw_region (sq_ev rfl ev_makeFunc ?_)
    refine sq_storeP (H0 := T 0) (j := 2) rfl (Less.rfl' _) (Less.rfl' _) rfl rfl ty57.h rfl rfl ?_
    refine sq_nil ?_
    refine aw_seq ?_
    refine aw_region (sq_ev rfl (ev_fieldAddr_i fo45_3.h (Less.rfl' _)) ?_)
    refine sq_ev rfl (ev_load_i (Less.rfl' _) ty43.h rfl) ?_
    refine sq_ev rfl (ev_len_map sl43.h (Less.rfl' _)) ?_
    refine sq_ev rfl (ev_as (v := .raw _) (Less.rfl' _)) ?_
    refine sq_nil ?_
    refine aw_block ?_
    refine aw_loopk (ι := { g : Nat × List AObj // g.1 ≤ p.scenes.length + 1 ∧ LX p l (T 0).length g.2 [] ∧ (st = true → (fm g.1 (segs p)).length < m) }) [4] (fun g => [(5, I (p.scenes.length - g.1.1))])
      (fun _ g => T (fm g.1.1 (segs p)).length ++ g.1.2) (fun g => p.scenes.length + 1 - g.1.1) ⟨(0, locs p l (T 0).length (.raw (.slice none 0 0)) []), Nat.zero_le _, ⟨_, [], rfl, .inl ⟨rfl, rfl⟩⟩, fun h => by simpa [fm] using h2 h⟩
      ⟨(by exact less_int (by simp)), Less.rfl' _, trivial⟩ rfl ?_
    rintro ⟨⟨d, Y⟩, hd, hX, hkd⟩
    dsimp only [keepS, St.put, sget, slotsOf, List.map_cons, List.map_nil, List.cons_append, List.nil_append, List.length_cons, List.length_nil, Nat.reduceBEq, Nat.reduceAdd, cond_true, cond_false]
    dsimp only at hd hX hkd
    obtain ⟨a, G, hY, hnow⟩ := hX
    subst hY
    have hTk := hT (fm d (segs p)).length
    refine aw_seq ?_
    refine aw_seq ?_
    refine aw_region (sq_ev rfl (ev_mv (v := .raw _) (Less.rfl' _)) ?_)
    refine sq_ev rfl (ev_geq (Less.rfl' _) (Less.rfl' _)) ?_
    refine sq_nil ?_
    refine aw_cond (Less.rfl' _) (fun c2 => ?_) (fun c2 => ?_)
    · have c2' : d ≤ p.scenes.length := by simp at c2; omega
      refine aw_skip ?_
      refine aw_seq ?_
      refine aw_block ?_
      refine aw_seq ?_
      refine aw_region (sq_ev rfl (ev_load (Less.rfl' _) (box2 hTk) ty57.h rfl) ?_)
      refine sq_ev rfl (ev_mv (v := .raw _) (Less.rfl' _)) ?_
      refine sq_callE (es := e) hle rfl en92.h (Less.rfl' _) (args := [I (nxt []), I ((p.scenes.length - d : Nat) : Int), .iptr (planC p), .ptr ((T 0).length + 1) 0, .ptr ((T 0).length + 0) 0, .ptr ((T 0).length + 2) 0])
        ⟨Less.rfl' _, less_int (by omega), Less.rfl' _, Less.rfl' _, Less.rfl' _, Less.rfl' _, trivial⟩
        (nfrom_call it (p.scenes.length - d) [] (fm d (segs p)).length (locs p l (T 0).length a G) (by simp) (by simp; omega) ⟨a, G, rfl, hnow⟩ hkd (fun i y hi => by
          have := fm_get (f := segs p) (p.scenes.length + 1) (by omega) hi
          rw [List.getElem?_map, allC_seg]
          have e1 : fm (p.scenes.length + 1) (fun i => seg p (p.scenes.length - i) []) = fm (p.scenes.length + 1) (segs p) := rfl
          rw [e1, this]; rfl)) ?_ (fun v H' ⟨X', h⟩ => by split at h <;> cases h.1)
      rintro v H' ⟨X', hR⟩
      split at hR
      · obtain ⟨h1, rfl⟩ := hR
        cases h1
        refine sq_ev rfl (ev_not (Less.rfl' _)) ?_
        refine sq_nil ?_
        refine aw_true (Less.rfl' _) ?_
        refine aw_ret ?_
        exact ⟨_, .tup [], rfl, rfl, rfl, X', rfl⟩
      · rename_i hstop
        obtain ⟨h1, h2, a2, G2, rfl, hnow2⟩ := hR
        cases h1
        have hq : (fm d (segs p)).length + (seg p (p.scenes.length - d) []).length = (fm (d + 1) (segs p)).length := by
          rw [fm_succ, List.length_append]; rfl
        rw [hq] at h2 hstop
        subst h2
        refine sq_ev rfl (ev_not (Less.rfl' _)) ?_
        refine sq_nil ?_
        refine aw_false (Less.rfl' _) ?_
        refine aw_skip ?_
        refine aw_region (sq_ev rfl (ev_mv (v := .raw _) (Less.rfl' _)) ?_)
        refine sq_ev rfl (ev_sub (Less.rfl' _) (Less.rfl' _) (wr (by omega) (by omega))) ?_
        refine sq_ev rfl (ev_as (v := .raw _) (Less.rfl' _)) ?_
        refine sq_nil ?_
        refine ⟨⟨(d + 1, locs p l (T 0).length a2 G2), by simp only; omega, ⟨a2, G2, rfl, hnow2⟩, fun h => ?_⟩, by simp only; omega, Sub.slots ⟨(by exact less_int (by simp <;> omega)), Less.rfl' _, trivial⟩⟩
        simp only
        have : ¬ m ≤ (fm (d + 1) (segs p)).length := fun h' => hstop ⟨h, h'⟩
        omega
    · have c2' : d = p.scenes.length + 1 := by simp at c2; omega
      subst c2'
      refine aw_exit ?_
      have e1 : (fm (p.scenes.length + 1) (segs p)).length = ((allC p).map nats).length := by rw [List.length_map, allC_seg]; rfl
      have hst : st = false := by
        cases h : st with
        | false => rfl
        | true => have := hkd h; omega
      refine ⟨_, .tup [], rfl, rfl, rfl, locs p l (T 0).length a G, ?_⟩
      rw [h1 hst, ← e1]
      rfl
  refine (key e vs (.refl e) ok hH hs).mono ?_
  rintro x w' ⟨ax, e', rfl, ok', fr, ⟨rfl, hX⟩, u, rfl, hu⟩
  exact ⟨u, e', rfl, rfl, ok', fr, hX⟩
theorem nchoices0_pure (p : Pl) : APure Tryz.prog 50 [plan p] (.fn (.func 91) [] [.iptr (planC p)]) := by
  refine apure_of (rs := [.tmp 2]) Tryz.func50 rfl rfl (Nat.le_of_ble_eq_true rfl) (by simp [AV.pureL, AV.pureB, AV.pureE, pureE_map]) (by simp [AV.pureL, AV.pureB, AV.pureE, pureE_map]) fun e0 he0 => ?_
  refine aw_seq ?_
  refine aw_region (sq_box rfl (Less.rfl' _) rfl ?_)
  refine sq_ev rfl (ev_as (v := .raw _) (Less.rfl' _)) ?_
  refine sq_nil ?_
  refine aw_seq ?_
  refine aw_region (sq_ev rfl ev_makeFunc ?_)
  refine sq_ev rfl (ev_as (v := .fn _ _ _) (Less.rfl' _)) ?_
  refine sq_nil ?_
  refine aw_sub (sub_iptr (j := 0) (l := planC p) (sl' := [(2, .fn (.func 91) [] [.iptr (planC p)])]) (H' := [.dead]) rfl rfl ?_) ?_
  · intro q hq e e' _ key v hv
    obtain rfl := List.mem_singleton.1 hq
    have hv : Rep e (.fn (.func 91) [] [.ptr 0 0]) v := hv
    rw [Rep] at hv ⊢
    obtain ⟨x, y, h1, h2, h3⟩ := hv
    rw [RepL] at h3
    obtain ⟨u, rest, h4, h5, h6⟩ := h3
    rw [RepL] at h6
    refine ⟨x, y, h1, ?_, ?_⟩
    · rw [RepL] at h2 ⊢; exact h2
    · rw [h4, h6]; exact RepL.cons (key _ h5) RepL.nil
  refine aw_ret ?_
  exact retQ_pure (v := .fn _ _ _) rfl rfl (Less.rfl' _)
end Go.Proofs.YtnbjaepkbabkhaaGreat
namespace Go.Proofs.YtnbjaepkbabkhaaGreat
open Go Go.Ab Ni
instance bi130 : BdI Tryz.prog 130 [.raw (.int .i64 0), .raw (.int .i64 0), .raw (.int .i64 0), .raw (.int .i64 0), .raw (.int .i64 0), .raw (.int .i64 0), .raw (.int .i64 0), .raw (.slice none 0 0), .raw (.slice none 0 0)] true [(0, 8), (8, 1)] 0 := ⟨by kernel_rfl⟩
instance en141 : EnT Tryz.prog 141 := ⟨Ent.of Tryz.func141 (by kernel_rfl) rfl⟩
instance en49 : EnT Tryz.prog 49 := ⟨Ent.of Tryz.func49 (by kernel_rfl) rfl⟩
instance en56 : EnT Tryz.prog 56 := ⟨Ent.of Tryz.func56 (by kernel_rfl) rfl⟩
instance en86 : EnT Tryz.prog 86 := ⟨Ent.of Tryz.func86 (by kernel_rfl) rfl⟩
instance en87 : EnT Tryz.prog 87 := ⟨Ent.of Tryz.func87 (by kernel_rfl) rfl⟩
instance sf125 : SlS Tryz.prog 125 130 9 104 := ⟨SlFact.of (by kernel_rfl)⟩
instance sf35 : SlS Tryz.prog 35 31 1 24 := ⟨SlFact.of (by kernel_rfl)⟩
instance sf43 : SlS Tryz.prog 43 108 5 40 := ⟨SlFact.of (by kernel_rfl)⟩
instance sl125 : SlE Tryz.prog 125 130 9 := ⟨by kernel_rfl⟩
instance ty125 : TyF Tryz.prog 125 false 1 := ⟨by kernel_rfl⟩
instance ud125 : UnD Tryz.prog 125 (.slice 130) := ⟨Tryz.underlying125⟩
instance ud35 : UnD Tryz.prog 35 (.slice 31) := ⟨Tryz.underlying35⟩
instance z125 : ZeO Tryz.prog 125 [.raw (.slice none 0 0)] := ⟨by kernel_rfl⟩
instance z130 : ZeO Tryz.prog 130 [.raw (.int .i64 0), .raw (.int .i64 0), .raw (.int .i64 0), .raw (.int .i64 0), .raw (.int .i64 0), .raw (.int .i64 0), .raw (.int .i64 0), .raw (.slice none 0 0), .raw (.slice none 0 0)] := ⟨by kernel_rfl⟩
instance z45 : ZeO Tryz.prog 45 [.raw (.int .i64 0), .raw (.int .i64 0), .raw (.int .i64 0), .raw (.int .i64 0), .raw (.int .i64 0), .raw (.int .i64 0), .raw (.int .i64 0), .raw (.slice none 0 0)] := ⟨by kernel_rfl⟩
theorem flat_len (L : List Sc) : ((L.map sc).flatten).length = L.length * 5 := by
  induction L with
  | nil => rfl
  | cons x L ih => simp only [List.map_cons, List.flatten_cons, List.length_append, ih, List.length_cons]; simp; omega
theorem splice2 (n : Int) : ∀ (L : List Sc) (k : Nat) (h : k < L.length) (R : List AV) (l l1 : List AV), l = (L.map sc).flatten ++ R → l1 = l.take (k * 5 + 1) ++ [I n] ++ l.drop (k * 5 + 1 + 1) →
    l1.take (k * 5 + 2) ++ [I n] ++ l1.drop (k * 5 + 2 + 1) = ((L.set k (fixS L[k] n)).map sc).flatten ++ R
  | x :: L, 0, h, R, l, l1, hl, hl1 => by subst hl; subst hl1; simp [fixS]
  | x :: L, k + 1, h, R, l, l1, hl, hl1 => by
    have ih := splice2 n L k (by simpa using h) R _ _ rfl rfl
    subst hl
    have e1 : (k + 1) * 5 + 1 = k * 5 + 1 + 1 + 1 + 1 + 1 + 1 := by omega
    have e2 : (k + 1) * 5 + 2 = k * 5 + 2 + 1 + 1 + 1 + 1 + 1 := by omega
    rw [e1] at hl1
    rw [e2]
    simp only [List.map_cons, List.flatten_cons, List.cons_append, List.nil_append, List.take_succ_cons, List.drop_succ_cons] at hl1
    subst hl1
    simp only [List.take_succ_cons, List.drop_succ_cons, List.cons_append, List.set_cons_succ, List.map_cons, List.flatten_cons, List.nil_append, List.getElem_cons_succ]
    rw [← ih]
def playl (p : Pl) : List (List Nat) := (allC p).filter (canP p)
abbrev playeds (p : Pl) (L : List (List Nat)) : AV := .sl 9 (L.map (playedC p))
theorem xs_get {L : List (List Nat)} {i : Nat} {x : AV} (h : (L.map nats)[i]? = some x) : ∃ y, L[i]? = some y ∧ x = nats y := by
  rw [List.getElem?_map] at h
  cases hy : L[i]? with
  | none => rw [hy] at h; cases h
  | some y => rw [hy] at h; exact ⟨y, rfl, (Option.some.inj h).symm⟩
theorem get_eq {α : Type} {L : List α} {i : Nat} {y : α} (h : L[i]? = some y) : ∃ hk : i < L.length, L[i] = y := by
  have hk := lt_of_get? h
  exact ⟨hk, by rw [List.getElem?_eq_getElem hk] at h; exact Option.some.inj h⟩
theorem inE_played (n : Nat) (p : Pl) (L : List (List Nat)) : AV.inE n (L.map (playedC p)) = true := inE_map fun x _ => by simp [AV.inL, AV.inB, inE_map]
theorem nplayable_pure (p : Pl) (gp : GP p) : APure Tryz.prog 56 [plan p] (playeds p (playl p)) := by
  refine apure_of_marks (rs := [.tmp 2]) Tryz.func56 rfl rfl (Nat.le_of_ble_eq_true rfl) (by simp [AV.pureL, AV.pureB, AV.pureE, pureE_map]) (by simp [AV.pureL, AV.pureB, AV.pureE, pureE_map]) fun e0 he0 => ?_
  refine wz 4 ?_
  refine kz az (nchoices0_pure p) ?_
  refine sq_nil ?_
  refine aw_block ?_
  refine aw_sub (sub_token_box 1 9 rfl) ?_
  refine aw_rangeFunc1 (xs := (allC p).map nats) (fun k => [.cells (planC p), .cells [.own 2 9 ((((allC p).take k).filter (canP p)).map (playedC p))], .tok ((((allC p).take k).filter (canP p)).map (playedC p)).length]) ((allC p).map nats).length none (Nat.le_refl _) (fun _ => rfl) (fun h => absurd rfl h) rfl rfl jz en91.h (nchoices_iter gp) rfl (fun _ => rfl) (fun k hk => by show objsIn 3 _ = true; simp [objsIn, AObj.inB, AV.inB, AV.inL, AV.inE, inE_map, inE_played, inE_nats, -List.map_take, -List.map_map, -List.map_append]) (fun x hx => by obtain ⟨y, _, rfl⟩ := List.mem_map.1 hx; simp [AV.pureB, AV.pureL, AV.pureE, pureE_map]) rfl rfl ?_ ?_
  ·intro l i x e0 hi hx he0
   obtain ⟨y, hy, rfl⟩ := xs_get hx
   obtain ⟨hk', he'⟩ := get_eq hy
   have cv := allC_mem gp y (List.mem_of_getElem? hy)
   have hft := ft_len (canP p) (allC p) i
   have hal := allC_len gp
   refine nz ?_
   refine wz 6 ?_
   refine kz az (ncan_pure p y gp cv) ?_
   refine wz 0 ?_
   refine iz (fun c1 c1' => ?_) (fun c1 c1' => ?_)
   ·have eS : (((allC p).take (i + 1)).filter (canP p)).map (playedC p) = (((allC p).take i).filter (canP p)).map (playedC p) ++ [playedC p y] := by rw [filter_take_succ _ hk', he', if_pos c1', List.map_append]; rfl
    refine wz 2 ?_
    refine sq_ev rfl (ev_buildSlice (es := [[_, _, _, _, _, _, _, _, _]]) sf125.h rfl rfl rfl rfl) ?_
    first | refine sq_append rfl sf125.h Tryz.underlying125 rfl rfl jz (Nat.succ_pos _) (by simp; omega) (by simp; omega) ?_ | refine sq_append rfl sf125.h Tryz.underlying125 rfl rfl (less_slx _ _) (Nat.succ_pos _) (by simp; omega) (by simp; omega) ?_
    refine wz 1 ?_
    exact ⟨⟨[.cells (playedC p y)], congrArg (fun L => [AObj.cells (planC p), .cells [.own 2 9 L], .tok L.length, .cells (playedC p y)]) eS.symm⟩, rfl, by split <;> rfl⟩
   have eS : (((allC p).take (i + 1)).filter (canP p)).map (playedC p) = (((allC p).take i).filter (canP p)).map (playedC p) := by rw [filter_take_succ _ hk', he', if_neg (by simp [c1']), List.append_nil]
   refine wz 0 ?_
   exact ⟨⟨[.cells (playedC p y)], congrArg (fun L => [AObj.cells (planC p), .cells [.own 2 9 L], .tok L.length, .cells (playedC p y)]) eS.symm⟩, rfl, by split <;> rfl⟩
  ·rintro _ rfl
   refine wz 2 ?_
   exact retQM_pure (v := .own _ _ _) rfl rfl (Less.trans (less_own _ _ _) (Less.eq (by simp [playl])))
theorem canP_can {p : Pl} {l : List Nat} (wp : WP p) (cv : CV p l) : canP p l = can p l := by
  rw [Bool.eq_iff_iff, can_ffail wp cv]; simp [canP]
theorem playl_choices {p : Pl} (gp : GP p) (wp : WP p) : playl p = choicesC p := List.filter_congr fun l hl => canP_can wp (allC_mem gp l hl)
theorem ncanw_pure {p : Pl} {l : List Nat} (gp : GP p) (cv : CV p l) (wp : WP p) : APure Tryz.prog 87 [played p l] (B (can p l)) := by
  rw [← canP_can wp cv]; exact ncan_pure p l gp cv
theorem nplayablew_pure {p : Pl} (gp : GP p) (wp : WP p) : APure Tryz.prog 56 [plan p] (playeds p (choicesC p)) := by
  rw [← playl_choices gp wp]; exact nplayable_pure p gp
theorem choicesC_len {p : Pl} (gp : GP p) : (choicesC p).length ≤ 1114112 := Nat.le_trans (List.length_filter_le _ _) (allC_len gp)
theorem choicesC_mem {p : Pl} (gp : GP p) : ∀ l ∈ choicesC p, CV p l := fun l hl => allC_mem gp l (List.mem_filter.1 hl).1
theorem pS_wp {p : Pl} {l : List Nat} (wp : WP p) : ∀ i, WP (pS p l i)
  | 0 => wp
  | i + 1 => fixP_wp (pS_wp wp i) _ _
theorem nclonesc_call {l : List Sc} {H : List AObj} (hne : 0 < l.length) (hl : l.length ≤ 1000000) : ACall Tryz.prog 141 [.sl 5 (l.map sc)] H fun x H' => ∃ cap, (l.map sc).length ≤ cap ∧ x = .ret (.msl H.length 0 (l.map sc).length cap) ∧
    H' = H ++ [.cells ((l.map sc).flatten ++ List.replicate ((cap - (l.map sc).length) * 5) .any)] := by
  refine acall_of (rs := [.tmp 2]) Tryz.func141 rfl rfl (Nat.le_of_ble_eq_true rfl) fun e0 he0 => ?_
  refine aw_seq ?_
  refine aw_region (sq_ev rfl (ev_as (v := .raw _) (Less.rfl' _)) ?_)
  refine sq_nil ?_
  refine aw_seq ?_
  refine aw_seq ?_
  refine aw_region (sq_ev rfl (ev_mv (v := .sl _ _) (Less.rfl' _)) ?_)
  refine sq_ev rfl (ev_sl_nil_ne sl43.h (Less.rfl' _) (by simp; omega) (Less.rfl' _)) ?_
  refine sq_nil ?_
  refine aw_false (Less.rfl' _) ?_
  refine aw_skip ?_
  refine aw_seq ?_
  refine aw_region (sq_ev rfl (ev_buildSlice (es := []) sf43.h rfl rfl rfl rfl) ?_)
  refine sq_ev rfl (ev_mv (v := .sl _ _) (Less.rfl' _)) ?_
  refine sq_append_msl rfl sf43.h Tryz.underlying43 (Less.rfl' _) (Less.rfl' _) (by simp; omega) (by simp; omega) (by simp; omega) fun cap hcap => ?_
  refine sq_ev rfl (ev_as (v := .msl _ _ _ _) (Less.rfl' _)) ?_
  refine sq_nil (aw_ret ?_)
  exact ⟨rfl, _, rfl, cap, hcap, rfl, rfl⟩
theorem nfixed_pure {p : Pl} {k : Nat} {n : Int} (hk : k < p.scenes.length) (hl : p.scenes.length ≤ 1000000) : APure Tryz.prog 86 [plan p, I k, I n] (plan (fixP p k n)) := by
  refine ap (rs := [.cell 6 45]) Tryz.func86 (fun e0 he0 => ?_) (hr := by simp [AV.pureL, AV.pureB, AV.pureE, pureE_map])
  refine wz 4 ?_
  refine sq_call (first := []) (cap := []) (args := [.sl 5 (p.scenes.map sc)]) rfl en141.h jz ⟨jz, trivial⟩ (nclonesc_call (l := p.scenes) (by omega) hl) ?_ (by rintro v H' ⟨_, _, h, _⟩; cases h)
  rintro _ _ ⟨cap, hcap, h, rfl⟩; cases h
  refine vz 2 ?_
  refine sq_nil ?_
  refine aw_seq ?_
  have hfl := flat_len p.scenes
  have hsp := splice2 n p.scenes k hk (List.replicate ((cap - (p.scenes.map sc).length) * 5) .any) _ _ rfl rfl
  have hle1 : Nat.ble (k * 5 + 1 + 1) ((p.scenes.map sc).flatten ++ List.replicate ((cap - (p.scenes.map sc).length) * 5) AV.any).length = true := Nat.ble_eq_true_of_le (by rw [List.length_append, hfl, List.length_replicate]; omega)
  have hle2 : Nat.ble (k * 5 + 2 + 1) (((p.scenes.map sc).flatten ++ List.replicate ((cap - (p.scenes.map sc).length) * 5) AV.any).take (k * 5 + 1) ++ [I n] ++ ((p.scenes.map sc).flatten ++ List.replicate ((cap - (p.scenes.map sc).length) * 5) AV.any).drop (k * 5 + 1 + 1)).length = true := Nat.ble_eq_true_of_le (by simp only [List.length_append, List.length_take, List.length_drop, hfl, List.length_replicate, List.length_singleton]; omega)
  refine aw_drawc [] [10, 13] _ mo (by kernel_rfl) (HSub.mask [2] 0 _) ?_
  first | refine dc_ev rfl (ev_fieldAddr fo45_3.h jz) ?_ | refine dc_ev rfl (ev_fieldAddr_i fo45_3.h jz) ?_
  first | refine dc_ev rfl (ev_load jz rfl ty43.h rfl) ?_ | refine dc_ev rfl (ev_load_i jz ty43.h rfl) ?_
  refine dc_ev rfl (ev_mv (v := .raw _) jz) ?_
  first | refine dc_ev rfl (ev_fieldAddr fo45_3.h jz) ?_ | refine dc_ev rfl (ev_fieldAddr_i fo45_3.h jz) ?_
  first | refine dc_ev rfl (ev_load jz rfl ty43.h rfl) ?_ | refine dc_ev rfl (ev_load_i jz ty43.h rfl) ?_
  refine dc_ev rfl (ev_mv (v := .raw _) jz) ?_
  refine dc_ev rfl (ev_mv (v := .raw _) jz) ?_
  refine dc_ev rfl (ev_mv (v := .raw _) jz) ?_
  refine dc_ev rfl (ev_less (v' := .ptr 2 (k * 5)) (ev_index_msl sl43.h jz jz rfl (by simp; omega)) (Less.eq (congrArg (AV.ptr 2) (Nat.zero_add (k * 5))))) ?_
  first | refine dc_ev rfl (ev_fieldAddr fo108_1.h jz) ?_ | refine dc_ev rfl (ev_fieldAddr_i fo108_1.h jz) ?_
  refine dc_eff rfl rfl (eff_store rfl jz jz rfl rfl ty3.h rfl hle1) (by apply HL.sub; repeat' (first | exact HL.nil _ | apply HL.same | apply HL.tok)) ?_
  refine dc_ev rfl (ev_less (v' := .ptr 2 (k * 5)) (ev_index_msl sl43.h jz jz rfl (by simp; omega)) (Less.eq (congrArg (AV.ptr 2) (Nat.zero_add (k * 5))))) ?_
  first | refine dc_ev rfl (ev_fieldAddr fo108_2.h jz) ?_ | refine dc_ev rfl (ev_fieldAddr_i fo108_2.h jz) ?_
  refine dc_eff rfl rfl (eff_store rfl jz jz rfl rfl ty3.h rfl hle2) (by apply HL.sub; repeat' (first | exact HL.nil _ | apply HL.same | apply HL.tok)) ?_
  refine dc_nil ?_
  refine vz 2 ?_
  refine sq_nil ?_
  refine aw_sub (sub_freeze (j := 2) (n := (p.scenes.map sc).length) (cap := cap) (sz := 5) (es := (p.scenes.set k (fixS p.scenes[k] n)).map sc) (rest := List.replicate ((cap - (p.scenes.map sc).length) * 5) .any) (sl' := [(6, .ptr 1 0)]) (congrArg (fun l => some (AObj.cells l)) hsp) (by simp) (fun q hq => by obtain ⟨x, _, rfl⟩ := List.mem_map.1 hq; rfl) (fun q hq => by rw [List.mem_singleton] at hq; subst hq; exact Fz.same (AV.ptr 1 0)) (FzH.same _ (by decide) (FzH.cells (by decide) (FzL.cons (Fz.same _) (FzL.cons (Fz.same _) (FzL.cons (Fz.same _) (FzL.cons (Fz.same _) (FzL.cons (Fz.same _) (FzL.cons (Fz.same _) (FzL.cons (Fz.same _) (FzL.cons Fz.frozen FzL.nil)))))))) (FzH.dead _ rfl (FzH.nil _))))) ?_
  refine wz 0 ?_
  exact retQ_res (vs := [.agg _]) rfl rfl ⟨resVar_cell rfl rfl ty45.h rfl, trivial⟩ (Less.eq (by simp [fixP, scn_eq hk]))
theorem nChoices_pure (p : Pl) (hl : p.scenes.length ≤ 1000000) : APure Tryz.prog 18 [plan p] (if PlOK p = true then .tup [natss (choicesC p), I 0] else .tup [.sl 1 [], I 2]) := by
  refine ap Tryz.func18 (fun e0 he0 => ?_) (hr := by split <;> simp [AV.pureL, AV.pureB, AV.pureE, pureE_map])
  refine wz 4 ?_
  refine kz az (isplan_pure p hl) ?_
  refine wz 1 ?_
  refine iz (fun c1 c1' => ?_) (fun c1 c1' => ?_)
  ·refine wz 2 ?_
   exact retQ_pure (v := .tup [.raw _, .raw _]) rfl rfl (Less.trans (b := .tup [.sl 1 [], I 2]) (less_tup ⟨less_nil 1, jz, trivial⟩) (Less.eq (by simp [c1'])))
  obtain ⟨gp, wp⟩ := gp_of_ok c1'
  refine wz 2 ?_
  refine kz az (nplayablew_pure gp wp) ?_
  refine vz 2 ?_
  refine sq_nil ?_
  refine aw_block ?_
  refine aw_sub (sub_token 4 1 jz) ?_
  refine aw_loopk (ι := { k : Nat // k ≤ (choicesC p).length }) [11, 12] (fun i => [(13, I i.1), (4, .own 1 1 (((choicesC p).take i.1).map fun x => [nats x]))]) (fun H i => H.set 1 (.tok (((choicesC p).take i.1).map fun x => [nats x]).length)) (fun i => (choicesC p).length - i.1) (⟨0, Nat.zero_le _⟩) ⟨jz, jz, jz, jz, trivial⟩ rfl ?_
  rintro ⟨k, hk⟩
  refine nz ?_
  have hcl := choicesC_len gp
  refine wz 1 ?_
  refine iz (fun c2 c2' => ?_) (fun c2 c2' => ?_)
  ·have hk' : k < (choicesC p).length := by omega
   have eS : ((choicesC p).take (k + 1)).map (fun x => [nats x]) = ((choicesC p).take k).map (fun x => [nats x]) ++ [[nats (choicesC p)[k]]] := map_take_succ _ hk'
   refine wz 7 ?_
   refine sq_ev rfl (ev_buildSlice (es := [[_]]) sf35.h rfl rfl rfl rfl) ?_
   first | refine sq_append rfl sf35.h Tryz.underlying35 rfl rfl jz (Nat.succ_pos _) (by simp; omega) (by simp; omega) ?_ | refine sq_append rfl sf35.h Tryz.underlying35 rfl rfl (less_slx _ _) (Nat.succ_pos _) (by simp; omega) (by simp; omega) ?_
   refine wz 3 ?_
   exact ⟨⟨k + 1, by omega⟩, by simp only; omega, sb 2 ⟨jz, Less.eq (b := .own 1 1 (((choicesC p).take (k + 1)).map fun x => [nats x])) (by rw [eS] <;> rfl), jz, jz, trivial⟩ (hH := (congrArg (fun n => [_, AObj.tok n]) (congrArg List.length eS.symm))) (h1 := by simp [slotsIn, objsIn, sget, keepS, AObj.inB, AV.inB, AV.inL, AV.inE, inE_map, inE_nats, inE_sc, -List.map_append, -List.map_take, -List.map_map]) (h2 := by simp [slotsIn, objsIn, sget, keepS, AObj.inB, AV.inB, AV.inL, AV.inE, inE_map, inE_nats, inE_sc, -List.map_append, -List.map_take, -List.map_map])⟩
  obtain rfl : k = (choicesC p).length := by omega
  refine wz 3 ?_
  exact retQ_pure (v := .tup [.own _ _ _, .raw _]) rfl rfl (Less.trans (b := .tup [natss (choicesC p), I 0]) (less_tup ⟨Less.trans (less_own _ _ _) (Less.eq (by simp)), jz, trivial⟩) (Less.eq (by simp [c1'])))
def progAV (p : Pl) : AV := if PlOK p = true then (match choicesC p with | [] => .tup [.sl 1 [], .sl 1 [], I 5] | l :: _ => .tup [nats l, ints (firstL p l), I 0]) else .tup [.sl 1 [], .sl 1 [], I 2]
theorem progAV_pure (p : Pl) : (progAV p).pureB = true := by
  unfold progAV; split
  · split <;> simp [AV.pureB, AV.pureL, AV.pureE, pureE_map]
  · rfl
theorem progAV_nil {p : Pl} (h : PlOK p = true) (k : (choicesC p).length = 0) : progAV p = .tup [.sl 1 [], .sl 1 [], I 5] := by
  unfold progAV; rw [if_pos h, List.length_eq_zero_iff.1 k]
theorem progAV_cons {p : Pl} (h : PlOK p = true) (k : 0 < (choicesC p).length) : progAV p = .tup [nats (choicesC p)[0], ints (firstL p (choicesC p)[0]), I 0] := by
  unfold progAV; rw [if_pos h]
  obtain ⟨l, L, hc⟩ : ∃ l L, choicesC p = l :: L := by
    cases hc : choicesC p with
    | nil => rw [hc] at k; simp at k
    | cons l L => exact ⟨l, L, rfl⟩
  have e0 : (choicesC p)[0] = l := by simp [hc]
  rw [e0, hc]
theorem nProgramme_pure (p : Pl) (hl0 : p.scenes.length ≤ 1000000) : APure Tryz.prog 43 [plan p] (progAV p) := by
  refine ap Tryz.func43 (fun e0 he0 => ?_) (hr := progAV_pure p)
  refine wz 5 ?_
  refine kz az (isplan_pure p hl0) ?_
  refine wz 1 ?_
  refine iz (fun c1 c1' => ?_) (fun c1 c1' => ?_)
  ·refine wz 3 ?_
   exact retQ_pure (v := .tup [.raw _, .raw _, .raw _]) rfl rfl (Less.trans (b := .tup [.sl 1 [], .sl 1 [], I 2]) (less_tup ⟨less_nil 1, less_nil 1, jz, trivial⟩) (Less.eq (by simp [progAV, c1'])))
  obtain ⟨gp, wp⟩ := gp_of_ok c1'
  refine wz 1 ?_
  refine kz az (nplayablew_pure gp wp) ?_
  refine wz 4 ?_
  refine iz (fun c2 c2' => ?_) (fun c2 c2' => ?_)
  ·have h0 : (choicesC p).length = 0 := by omega
   refine wz 3 ?_
   exact retQ_pure (v := .tup [.raw _, .raw _, .raw _]) rfl rfl (Less.trans (b := .tup [.sl 1 [], .sl 1 [], I 5]) (less_tup ⟨less_nil 1, less_nil 1, jz, trivial⟩) (Less.eq (progAV_nil c1' h0).symm))
  have hne : 0 < (choicesC p).length := by omega
  refine wz 1 ?_
  refine sq_ev rfl (ev_index_map (k := 0) sl125.h jz jz rfl hne) ?_
  refine vz 3 ?_
  refine sq_nil ?_
  refine aw_seq ?_
  generalize hl : (choicesC p)[0] = l
  have cv : CV p l := choicesC_mem gp l (hl ▸ List.getElem_mem hne)
  refine vz 5 ?_
  refine sq_nil ?_
  refine aw_block ?_
  refine aw_sub (sub_token 7 1 jz) ?_
  refine aw_loopk (ι := { i : Nat // i ≤ l.length }) [6, 23, 24] (fun i => [(25, I i.1), (7, .own 2 1 ((oS p l i.1).map (fun x => [I x])))]) (fun H i => [.cells (planC p), .cells (playedC (pS p l i.1) l), .tok ((oS p l i.1).map (fun x => [I x])).length]) (fun i => l.length - i.1) (⟨0, Nat.zero_le _⟩) ⟨jz, jz, jz, jz, jz, trivial⟩ rfl ?_
  rintro ⟨i, i1⟩
  refine nz ?_
  obtain ⟨gpi, cvi⟩ := pS_ok gp cv i i1
  have wpi := pS_wp (l := l) wp i
  have gl := cv.len
  have hol := oS_len p l i
  refine wz 1 ?_
  refine iz (fun c3 c3' => ?_) (fun c3 c3' => ?_)
  ·have hk : i < l.length := by omega
   have hlt := cvi.rng _ (List.getElem_mem hk)
   have he := scn_eq hlt
   have hgd : l.getD i 0 = l[i] := by rw [List.getD_eq_getElem?_getD, List.getElem?_eq_getElem hk]; rfl
   have hm := gpi.most hlt
   have hv := gpi.least hlt
   rw [he] at hm hv
   refine wz 11 ?_
   refine aw_loopk (ι := { n : Int // (0 ≤ n ∧ n ≤ 10000) ∧ climb (pS p l i) l l[i] (fuel (pS p l i) l[i] n) n = len1 (pS p l i) l l[i] }) [6, 7, 9, 23, 24, 25] (fun n => [(10, I n.1)]) (fun H n => H) (fun n => (10000 - n.1).toNat) (⟨(scn (pS p l i) l[i]).least, gpi.least hlt, rfl⟩) ⟨(by exact less_int (congrArg Sc.least he).symm), jz, jz, jz, jz, jz, jz, trivial⟩ rfl ?_
   rintro ⟨n, hnb, hcl⟩
   refine nz ?_
   refine wz 0 ?_
   refine aw_draw 21 mo (by kernel_rfl) ?_
   refine dz 10 ?_
   refine dsz 45 (fun g4 g4' => ?_) (fun g4 g4' => ?_)
   ·refine dz 4 ?_
    refine dky az (nfixed_pure hlt (by have := gpi.len; omega)) ?_
    refine dz 3 ?_
    refine dky az (ncanw_pure (fixP_gp gpi _ hnb) (fixP_cv cvi _ _) (fixP_wp wpi _ _)) ?_
    refine dz 2 ?_
    refine wz 0 ?_
    refine iz (fun c5 c5' => ?_) (fun c5 c5' => ?_)
    ·have hgo : goOn (pS p l i) l l[i] n = true := by simp [goOn, *]
     refine wz 3 ?_
     exact ⟨⟨n + 1, by omega, by rw [← climb_go hgo]; exact hcl⟩, by simp only; omega, Sub.slots ⟨jz, jz, jz, jz, jz, jz, jz, trivial⟩⟩
    have hgo : goOn (pS p l i) l l[i] n = false := by simp [goOn, *]
    have hn : n = len1 (pS p l i) l l[i] := by rw [← hcl, climb_stop hgo]
    have e3 : pS p l (i + 1) = fixP (pS p l i) l[i] n := by simp only [pS, hgd, hn]
    have e1 : (oS p l (i + 1)).map (fun x => [I x]) = (oS p l i).map (fun x => [I x]) ++ [[I n]] := by simp only [oS, hgd, ← hn, List.map_append, List.map_cons, List.map_nil]
    have e2 : ((oS p l (i + 1)).map (fun x => [I x])).length = ((oS p l i).map (fun x => [I x]) ++ [[I n]]).length := by rw [e1]
    refine wz 2 ?_
    refine sq_ev rfl (ev_buildSlice (es := [[_]]) sf31.h rfl rfl rfl rfl) ?_
    first | refine sq_append rfl sf31.h Tryz.underlying31 rfl rfl jz (Nat.succ_pos _) (by simp; omega) (by simp; omega) ?_ | refine sq_append rfl sf31.h Tryz.underlying31 rfl rfl (less_slx _ _) (Nat.succ_pos _) (by simp; omega) (by simp; omega) ?_
    refine wz 5 ?_
    refine kz az (nfixed_pure hlt (by have := gpi.len; omega)) ?_
    refine wz 4 ?_
    exact ⟨⟨i + 1, by omega⟩, by simp only; omega, sb 3 ⟨jz, Less.eq (b := .own 2 1 ((oS p l (i + 1)).map (fun x => [I x]))) (by rw [e1] <;> rfl), jz, jz, jz, trivial⟩ (hH := ((congrArg (fun (q : Pl) => [AObj.cells (planC p), AObj.cells (playedC q l), AObj.tok ((oS p l i).map (fun x => [I x]) ++ [[I n]]).length]) e3.symm).trans (congrArg (fun (m : Nat) => [AObj.cells (planC p), AObj.cells (playedC (pS p l (i + 1)) l), AObj.tok m]) e2.symm))) (h1 := by simp [slotsIn, objsIn, sget, keepS, AObj.inB, AV.inB, AV.inL, AV.inE, inE_map]) (h2 := by simp [slotsIn, objsIn, sget, keepS, AObj.inB, AV.inB, AV.inL, AV.inE, inE_map])⟩
   have hgo : goOn (pS p l i) l l[i] n = false := by simp [goOn, *]
   have hn : n = len1 (pS p l i) l l[i] := by rw [← hcl, climb_stop hgo]
   have e3 : pS p l (i + 1) = fixP (pS p l i) l[i] n := by simp only [pS, hgd, hn]
   have e1 : (oS p l (i + 1)).map (fun x => [I x]) = (oS p l i).map (fun x => [I x]) ++ [[I n]] := by simp only [oS, hgd, ← hn, List.map_append, List.map_cons, List.map_nil]
   have e2 : ((oS p l (i + 1)).map (fun x => [I x])).length = ((oS p l i).map (fun x => [I x]) ++ [[I n]]).length := by rw [e1]
   refine dz 11 ?_
   refine wz 3 ?_
   refine sq_ev rfl (ev_buildSlice (es := [[_]]) sf31.h rfl rfl rfl rfl) ?_
   first | refine sq_append rfl sf31.h Tryz.underlying31 rfl rfl jz (Nat.succ_pos _) (by simp; omega) (by simp; omega) ?_ | refine sq_append rfl sf31.h Tryz.underlying31 rfl rfl (less_slx _ _) (Nat.succ_pos _) (by simp; omega) (by simp; omega) ?_
   refine wz 5 ?_
   refine kz az (nfixed_pure hlt (by have := gpi.len; omega)) ?_
   refine wz 4 ?_
   exact ⟨⟨i + 1, by omega⟩, by simp only; omega, sb 3 ⟨jz, Less.eq (b := .own 2 1 ((oS p l (i + 1)).map (fun x => [I x]))) (by rw [e1] <;> rfl), jz, jz, jz, trivial⟩ (hH := ((congrArg (fun (q : Pl) => [AObj.cells (planC p), AObj.cells (playedC q l), AObj.tok ((oS p l i).map (fun x => [I x]) ++ [[I n]]).length]) e3.symm).trans (congrArg (fun (m : Nat) => [AObj.cells (planC p), AObj.cells (playedC (pS p l (i + 1)) l), AObj.tok m]) e2.symm))) (h1 := by simp [slotsIn, objsIn, sget, keepS, AObj.inB, AV.inB, AV.inL, AV.inE, inE_map]) (h2 := by simp [slotsIn, objsIn, sget, keepS, AObj.inB, AV.inB, AV.inL, AV.inE, inE_map])⟩
  obtain rfl : i = l.length := by omega
  refine wz 6 ?_
  exact retQ_pure (v := .tup [.sl _ _, .own _ _ _, .raw _]) rfl rfl (Less.trans (b := .tup [nats l, ints (firstL p l), I 0]) (less_tup ⟨jz, Less.trans (less_own _ _ _) (Less.eq (by rfl)), jz, trivial⟩) (Less.eq (by subst hl; exact (progAV_cons c1' hne).symm)))
end Go.Proofs.YtnbjaepkbabkhaaGreat
