/-
  A part of the proof: conditions: none beyond each theorem's own.
-/
import Derived.Test.YtjpokekbjmdgmaaGreatDoorLogicA
import Derived.RangeFuncCalls
import Derived.IntWalk
import Derived.Test.YtjpokekbjmdgmaaGreatDoorLogicD
import Derived.Deep.Slices
import Derived.OpenShut
import Derived.Carry
import Derived.Test.YtjpokekbjmdgmaaGreatDoorLogicC
import Derived.Test.YtjpokekbjmdgmaaGreatDoorSpecA
import Derived.Test.YtjpokekbjmdgmaaGreatDoorProg
import Derived.KernelRfl
import Derived.Lib.LaidTab
import Derived.Lib.ItoaNum
import Derived.Test.YtjpokekbjmdgmaaGreatDoorWalkB
import Derived.Test.YtjpokekbjmdgmaaGreatDoorWalkE
import Derived.Test.YtjpokekbjmdgmaaGreatDoorLogicB
import Derived.Test.YtjpokekbjmdgmaaGreatDoorShelf
import Derived.Test.YtjpokekbjmdgmaaGreatDoorWalkA
import Derived.Test.YtjpokekbjmdgmaaGreatDoorWalkC
import Derived.Test.YtjpokekbjmdgmaaGreatDoorWalkD
import Derived.Test.YtjpokekbjmdgmaaGreatDoorRow
set_option linter.all false
set_option maxRecDepth 100000
set_option maxHeartbeats 8000000
namespace Go.Ab
variable [Tabs]
theorem FW_room (r : Option Nat) (n : Nat) : (FW r).room n := fun _ h => by simp [FW] at h
variable {c : Ctx} {Q : AExit → St → Prop} {s : St}
end Go.Ab
namespace Go.Ab
variable [Tabs]
section types
variable {P : Program} {w : World}
end types
section ops
variable {P : Program} {r : Option Nat} {H : List AObj} {ρ : Operand → AV}
variable {d : Option Tmp} {t : TypeId} {p : String} {af : Array Edge} {g : Option (Nat × Bool)}
variable {x y z : Operand}
theorem ev_neg {k : IntKind} {n q : Int} {xt : TypeId} (hx : Less (ρ x) (.raw (.int k n))) (hq : k.wrap (0 - n) = q) : Ev P r ⟨d, .unOp .neg xt x, t, p, af, g⟩ H ρ (.raw (.int k q)) :=
  Ev.pure (by intro c h; cases h) fun e ρc _ _ hs => by
    have e1 := rep_raw hx (hs x (by simp [Op.operands]))
    exact ⟨.int k q, by rw [← hq]; simp [execOp, e1, Op.unary, Op.intArith], by rw [Rep]⟩
end ops
end Go.Ab
namespace Go.Ab
open Go.ChangeShapes Go.WideShapes
variable [Tabs]
theorem env0_ok {w : World} (h : Tabs.is w) (hb : ∀ b, Tabs.blk b → b < w.heap.size) : EnvOK (env0 w) :=
  ⟨fun b hb => by have hb' : w.heap.size ≤ b := hb
                  have : w.heap[b]? = none := by simpa using hb'
                  simp [env0, this], fun i o h => by simp [env0] at h, fun i j b hi => by simp [env0] at hi, fun i b hi => by simp [env0] at hi, h, fun b hk => ⟨hb b hk, fun i hi => by simp [env0] at hi⟩⟩
section
variable {H : Type} {enc : TypeId × Value → H} {P : Program} {w : World} {base : Nat} {spare : Nat → Bool} {held : Bool}
theorem trodAll_stays (hl : laidOutB P = true) {W W' : World} (hheap : ∀ b, b < W.heap.size → W'.heap[b]? = W.heap[b]?) {sp' : Nat → Bool} :
    ∀ {ts : List TypeId} {vs : List Value} {ds : List (DataW H)} {ps : List MemPlace}, (∀ t ∈ ts, P.readableRec t = true ∧ t < P.types.size) → DataW.TrodAll enc P W base (fun _ => true) true ts vs ds ps → (∀ p ∈ ps, p.block < W.heap.size) → (∀ p ∈ ps, sp' p.block = true) →
      DataW.TrodAll enc P W' base sp' true ts vs ds ps
  | [], _, _, _, _, h, _, _ => by
    obtain ⟨rfl, rfl, rfl⟩ := trodAll_nil h
    exact trodAll_mk0
  | t :: ts, _, _, _, ht, h, hlt, hs => by
    obtain ⟨v, vs1, d, ds1, a, b, rfl, rfl, rfl, h1, h2⟩ := trodAll_cons h
    refine trodAll_cons_mk (WideElems.Trod_stays hl (ht t (by simp)).1 (ht t (by simp)).2 h1 (fun p hp => ?_) (fun p hp => hs p (by simp [hp]))) (trodAll_stays hl hheap (fun u hu => ht u (List.mem_cons_of_mem _ hu)) h2 (fun p hp => hlt p (by simp [hp])) (fun p hp => hs p (by simp [hp])))
    have hb := hheap p.block (hlt p (by simp [hp]))
    cases p with
    | cell b o => exact cell?_of_heap hb
    | map b => exact hb
/-- **What a law's row asks of a call that returns true and leaves what it met.** -/
theorem post_true {f : Func} {s : ChangeSpec} {W W' : World} {args : Array Value} {ds gs : List (DataW H)} {before : List MemPlace} {tb : TypeId} (hl : laidOutB P = true) (hread : ∀ t ∈ f.params.toList, P.readableRec t = true ∧ t < P.types.size)
    (hres : f.resultTypes = #[tb]) (htb : P.underlying tb = some .bool) (hvars : s.vars = []) (hspec : (s.fn H ds).results = [.lit (.bool true)] ∧ (s.fn H ds).args = ds ∧ (s.fn H ds).vars = [])
    (hW : DataW.Whole enc P f.params.toList s.vars false W args.toList ds gs before) (hheap : ∀ b, b < W.heap.size → W'.heap[b]? = W.heap[b]?) (hst : Still W W') :
    s.post enc P f false true false false W args (.bool true) W' := by
  have hlt := hW.lt
  have hW0 := hW
  obtain ⟨p, q, h1, h2, rfl, _, _⟩ := hW
  rw [hvars] at h2
  obtain ⟨rfl, rfl⟩ := trodVars_none h2
  simp only [List.append_nil] at hlt
  obtain ⟨e1, e2, e3⟩ := hspec
  refine ⟨ds, [], p ++ [], [], p, [], hW0, ?_, ?_, ?_, ?_, fun h => by cases h⟩
  · rw [List.append_nil, e1, hres]
    exact trodAll_cons_mk (RowKit.shut_bool htb _) trodAll_mk0
  · rw [List.append_nil, e2]
    exact trodAll_stays hl hheap hread h1 hlt (fun p hp => by simpa using hlt p hp)
  · rw [List.append_nil, e3, hvars]; rfl
  · refine ⟨hst.1, hst.2, fun i hi => ?_⟩
    rw [hheap i hi]
    split <;> simp_all
theorem APure.law {f : FuncId} {args : List AV} {W : World} {vs : Array Value} (hc : APure P f args (.raw (.bool true))) (ht : Tabs.is W) (hb : ∀ b, Tabs.blk b → b < W.heap.size) (hr : RepL (env0 W) args vs.toList) :
    Calls P f vs W fun x W' => x = .returned (.bool true) ∧ (∀ b, b < W.heap.size → W'.heap[b]? = W.heap[b]?) ∧ Still W W' := by
  refine ((hc (env0 W) vs (env0_ok ht hb) hr).calls (fun k => FW_room none k)).mono ?_
  rintro x w' ⟨u, e', rfl, rfl, hx, hu⟩
  rw [Rep] at hu; subst hu
  exact ⟨rfl, hx.heap, hx.still⟩
end
end Go.Ab
namespace Go.Ab
variable [Tabs]
section seq
variable {c : Ctx} {ops : Array Oper} {Q : AExit → St → Prop} {rest : List Oper} {s : St} {i : Nat}
variable {d : Option Tmp} {op : Op} {t : TypeId} {p : String} {af : Array Edge}
end seq
section cond
variable {c : Ctx} {Q : AExit → St → Prop} {s : St} {x : Operand} {y z : Code}
end cond
section split
variable {c : Ctx} {ops : Array Oper} {Q : AExit → St → Prop} {s : St} {i : Nat} {l : List Oper}
end split
section draw
variable {c : Ctx} {H0 : List AObj} {ops : Array Oper} {Q : AExit → St → Prop} {m i : Nat} {s : St} {rest : List Oper}
variable {d : Option Tmp} {op : Op} {t : TypeId} {p : String} {af : Array Edge}
end draw
section ex
variable {c : Ctx} {Q : AExit → St → Prop} {K : St → Prop} {s : St} {id j : Nat}
end ex
section app
variable {c : Ctx} {ops : Array Oper} {Q : AExit → St → Prop} {s : St} {i : Nat} {o : Oper} {l m : List Oper} {H0 : List AObj} {k : Nat}
end app
theorem W (n : Nat) {p q : Prop} (k : q) (h : Cnt n → (Unit → q) → p := by
  intro hc hk
  repeat (
    replace hc := Cnt.pred hc
    repeat (with_reducible (first | refine xn ?_ | refine sa ?_ | refine sa0 ?_ | refine aw_seq ?_ | refine aw_region ?_ | refine sq_nil ?_ | refine aw_skip ?_ | refine aw_block ?_ | refine bn ?_ | refine aw_exit ?_ | refine xe ?_ | refine be ?_ | refine bo ?_ | refine gn ?_ | refine ge ?_ | refine xr ?_ | refine br ?_ | refine gr ?_ | refine aw_label ?_ | refine aw_scope ?_))
    first
    | ((with_reducible apply sq_ev); exact rfl; exact EV)
    | ((with_reducible apply sn1); exact rfl; exact rfl; exact GD J; exact rfl)
    | ((with_reducible apply sn0); exact rfl; exact rfl; exact GD J; exact rfl)
    | ((with_reducible apply sq_yes); exact rfl; exact rfl; exact GD J; exact rfl; exact EV)
    | ((with_reducible apply su); exact rfl; exact rfl; exact J; exact rfl)
    | ((with_reducible apply sq_box); exact rfl; exact J; exact rfl)
    | ((with_reducible apply sq_alloc); exact rfl; exact ZeO.h)
    | ((with_reducible apply sq_store); exact rfl; exact J; exact J; exact rfl; exact rfl; exact TyF.h; exact rfl; exact rfl)
    | ((with_reducible refine aw_true ?_ ?_); exact GD J)
    | ((with_reducible refine aw_false ?_ ?_); exact GD J))
  repeat (with_reducible (first | refine xn ?_ | refine sa ?_ | refine sa0 ?_ | refine aw_seq ?_ | refine aw_region ?_ | refine sq_nil ?_ | refine aw_skip ?_ | refine aw_block ?_ | refine bn ?_ | refine aw_exit ?_ | refine xe ?_ | refine be ?_ | refine bo ?_ | refine gn ?_ | refine ge ?_ | refine xr ?_ | refine br ?_ | refine gr ?_ | refine aw_label ?_ | refine aw_scope ?_ | refine aw_ret ?_))
  exact hk ()) : p := h ⟨⟩ fun _ => k
end Go.Ab
namespace Hd
open Ni (inn)
theorem chg_ref {off long x : Int} (h0 : 0 ≤ off) (h : 0 ≤ long) (hx : x ≤ 1000) : chg off long x = (decide (0 ≤ x) && decide (off * 1000 < max (x * 1000 - long) (-(x * 1000 - long)))) := by
  unfold chg
  rw [lo_eq, hi_eq h0 h]
  by_cases hp : 0 ≤ x
  · rw [Bool.eq_iff_iff]
    simp only [inn, hp, decide_true, Bool.true_and, Bool.not_eq_true', Bool.and_eq_false_iff, decide_eq_false_iff_not, decide_eq_true_eq]
    omega
  · simp [hp]
end Hd
namespace Hd
open Ni (inn)
theorem fd_bd {r : Rg} {f : List Int} (h : fdOK r f = true) {i : Nat} (hi : i < f.length) : -1 ≤ f[i] ∧ f[i] ≤ 1000 := (fdOK_iff.1 h).2 _ (List.getElem_mem hi)
end Hd
namespace Go.Proofs.YtjpokekbjmdgmaaGreatDoor
open Go Go.Ab Ni Hd
theorem rin_pure (n lo hi : Int) : APure Tryz.prog 74 [I n, I lo, I hi] (B (inn n lo hi)) := by
  refine ap Tryz.func74 (fun e0 he0 => ?_)
  refine wz 5 ?_
  refine sz 10 (fun g1 g1' => ?_) (fun g1 g1' => ?_)
  ·refine wz 5 ?_
   exact rz rfl (Less.eq (by simp [inn, *]))
  refine wz 5 ?_
  exact rz rfl (Less.eq (by simp [inn, *]))
end Go.Proofs.YtjpokekbjmdgmaaGreatDoor
namespace Go.Proofs.YtjpokekbjmdgmaaGreatDoor
open Go Go.Ab Ni Hd
theorem expected_bad (r : Rg) (n : Int) (f : List Int) (mm : Int) (hk : r.kinds.length ≤ 1000000) (hh : r.hides.length ≤ 1000000) (hw : ∀ h ∈ r.hides, h.length ≤ 1000000) (hl : f.length ≤ 1000000) (he : fitE r n f (msIn r mm) ≠ 0) : APure Tryz.prog 45 [rgA r, I n, ints f, I mm] (.tup [.agg [I 0, I 0], I (fitE r n f (msIn r mm))]) := by
  refine ap Tryz.func45 (fun e0 he0 => ?_)
  refine wz 3 ?_
  refine aw_drawc [11] [12] _ mo (by kernel_rfl) (HSub.refl _) ?_
  first | refine dc_ev rfl (ev_load_agg jz rfl ty27.h rfl) ?_ | refine dc_ev rfl (ev_load_agg_i jz ty27.h (by exact Nat.le_of_ble_eq_true rfl)) ?_
  refine dc_ev rfl (ev_mv (v := .raw _) jz) ?_
  first | refine dc_ev rfl (ev_mv (v := .sl _ _) jz) ?_ | refine dc_ev rfl (ev_mv (v := .own _ _ _) jz) ?_ | refine dc_ev rfl (ev_mv (v := .raw _) jz) ?_ | refine dc_ev rfl (ev_mv (v := .slx _ _) jz) ?_ | refine dc_ev rfl (ev_mv (v := .msl _ _ _ _) jz) ?_
  first | refine dc_ev rfl (ev_load_agg jz rfl ty27.h rfl) ?_ | refine dc_ev rfl (ev_load_agg_i jz ty27.h (by exact Nat.le_of_ble_eq_true rfl)) ?_
  refine dc_ev rfl (ev_mv (v := .raw _) jz) ?_
  refine dc_ev rfl (ev_call en101.h jz (ismeasure_pure r _ hk) ⟨jz, jz, trivial⟩) ?_
  refine dc_ev rfl (ev_call en98.h jz (fit_pure r n f hk hh hw hl (msIn r mm)) ⟨jz, jz, jz, jz, trivial⟩) ?_
  refine dc_ev rfl (ev_mv (v := .tup _) jz) ?_
  refine dc_ev rfl (ev_extract jz rfl) ?_
  refine dc_ev rfl (ev_extract jz rfl) ?_
  refine dc_ev rfl (ev_extract jz rfl) ?_
  refine dc_alloc rfl rfl z115.h ?_
  refine dc_eff rfl rfl (eff_store rfl jz jz rfl rfl ty115.h rfl rfl) (by apply HL.sub; repeat' (first | exact HL.nil _ | apply HL.same | apply HL.tok)) ?_
  first | refine dc_ev rfl (ev_as (v := .sl _ _) jz) ?_ | refine dc_ev rfl (ev_as (v := .own _ _ _) jz) ?_ | refine dc_ev rfl (ev_as (v := .raw _) jz) ?_ | refine dc_ev rfl (ev_as (v := .slx _ _) jz) ?_ | refine dc_ev rfl (ev_as (v := .msl _ _ _ _) jz) ?_
  refine dc_ev rfl (ev_as (v := .raw _) jz) ?_
  refine dc_nil ?_
  refine wz 2 ?_
  refine iz (fun c_30 c_30' => ?_) (fun c_30 c_30' => ?_)
  ·refine wz 4 ?_
   exact retQ_res (vs := [.agg _, .raw _]) rfl rfl ⟨resVar_cell rfl rfl ty25.h rfl, resVar_tmp _ _ _, trivial⟩ (less_tup ⟨jz, jz, trivial⟩)
  exfalso
  simp_all
end Go.Proofs.YtjpokekbjmdgmaaGreatDoor
namespace Go.Proofs.YtjpokekbjmdgmaaGreatDoor
open Go Go.Ab Ni Hd
def shB (r : Rg) : Bool := decide ((r.kinds.length ≤ 8 ∧ r.hides.length ≤ 8) ∧ ∀ i, (hi : i < r.hides.length) → i < 9 → r.hides[i].length ≤ 10)
theorem shB_fin {r : Rg} (h3 : ∀ i, (hi : i < r.hides.length) → i < 9 → r.hides[i].length ≤ 10) : shB r = (decide (r.kinds.length ≤ 8) && decide (r.hides.length ≤ 8)) := by
  rw [Bool.eq_iff_iff]; unfold shB; simp only [decide_eq_true_eq, Bool.and_eq_true]
  exact ⟨fun h => h.1, fun h => ⟨h, h3⟩⟩
theorem shB_row {r : Rg} {i : Nat} (hi : i < r.hides.length) (h9 : i < 9) (h : ¬ r.hides[i].length ≤ 10) : shB r = false := decide_eq_false fun q => h (q.2 i hi h9)
theorem shB_len {r : Rg} (h : shB r = true) : r.kinds.length ≤ 1000000 ∧ r.hides.length ≤ 1000000 ∧ (∀ h ∈ r.hides, h.length ≤ 1000000) := by
  have q := of_decide_eq_true h
  refine ⟨by omega, by omega, fun x hx => ?_⟩
  obtain ⟨i, hi, rfl⟩ := List.getElem_of_mem hx
  have := q.2 i hi (by omega); omega
theorem rg_kind {r : Rg} {i : Nat} (hi : i < r.kinds.length) (h : kdOK r.kinds[i] = false) : rgOK r = false := by
  have e : r.kinds.all kdOK = false := by rw [List.all_eq_false]; exact ⟨_, List.getElem_mem hi, by rw [h]; simp⟩
  unfold rgOK; rw [e]; simp
theorem rg_hide {r : Rg} {i : Nat} (hi : i < r.hides.length) (h : hdOK r.kinds.length r.hides[i] = false) : rgOK r = false := by
  have e : r.hides.all (hdOK r.kinds.length) = false := by rw [List.all_eq_false]; exact ⟨_, List.getElem_mem hi, by rw [h]; simp⟩
  unfold rgOK; rw [e]; simp
theorem hd_len {w : Nat} {h : List Int} (e : h.length ≠ w) : hdOK w h = false := by unfold hdOK; rw [decide_eq_false e]; rfl
theorem hd_num {w : Nat} {h : List Int} {j : Nat} (hj : j < h.length) (e : inn h[j] 1 500 = false) : hdOK w h = false := by
  have q : (h.all fun n => inn n 1 500) = false := by rw [List.all_eq_false]; exact ⟨_, List.getElem_mem hj, by rw [e]; simp⟩
  unfold hdOK; rw [q]; simp
theorem hd_yes {w : Nat} {h : List Int} (e : h.length = w) (k : ∀ j, (hj : j < h.length) → inn h[j] 1 500 = true) : hdOK w h = true := by
  unfold hdOK; rw [decide_eq_true e, List.all_eq_true.2 fun x hx => by obtain ⟨j, hj, rfl⟩ := List.getElem_of_mem hx; exact k j hj]; rfl
theorem all_of {α : Type} {q : α → Bool} {l : List α} (h : ∀ j, (hj : j < l.length) → q l[j] = true) : l.all q = true := List.all_eq_true.2 fun x hx => by obtain ⟨j, hj, rfl⟩ := List.getElem_of_mem hx; exact h j hj
theorem fd_bad {r : Rg} {f : List Int} {i : Nat} (hi : i < f.length) (h : inn f[i] (-1) 1000 = false) : fdOK r f = false := by
  have e : (f.all fun n => inn n (-1) 1000) = false := by rw [List.all_eq_false]; exact ⟨_, List.getElem_mem hi, by rw [h]; simp⟩
  unfold fdOK; rw [e]; simp
theorem short_pure (r : Rg) : APure Tryz.prog 20 [rgA r] (B (shB r)) := by
  refine ap Tryz.func20 (fun e0 he0 => ?_)
  refine wz 3 ?_
  refine aw_loopk (ι := { k : Nat // k ≤ r.hides.length ∧ k ≤ 9 ∧ ∀ i, (hi : i < r.hides.length) → i < k → r.hides[i].length ≤ 10 }) [1] (fun i => [(3, I i.1)]) (fun H i => H) (fun i => r.hides.length - i.1) (⟨0, Nat.zero_le _, by omega, by omega⟩) ⟨jz, jz, trivial⟩ rfl ?_
  rintro ⟨k, hk, hk9, hok⟩
  refine nz ?_
  refine wz 6 ?_
  refine sz 9 (fun g2_5 g2_5' => ?_) (fun g2_5 g2_5' => ?_)
  ·have hkl : k < r.hides.length := by omega
   refine wz 3 ?_
   refine iz (fun c_12 c_12' => ?_) (fun c_12 c_12' => ?_)
   ·have hk9b : k < 9 := by have := of_decide_eq_true c_12; omega
    refine wz 7 ?_
    refine iz (fun c_21 c_21' => ?_) (fun c_21 c_21' => ?_)
    ·have hbad := shB_row hkl hk9b (by omega)
     refine wz 1 ?_
     exact rz rfl (Less.eq (by rw [hbad]))
    refine wz 3 ?_
    exact ⟨⟨k + 1, by omega, by omega, fun i hi h => (by by_cases e : i = k; (subst e; omega); exact hok i hi (by omega))⟩, by simp only; omega, Sub.slots ⟨jz, jz, trivial⟩⟩
   refine wz 5 ?_
   refine sz 26 (fun g6_4 g6_4' => ?_) (fun g6_4 g6_4' => ?_)
   ·refine wz 6 ?_
    exact rz rfl (Less.eq (congrArg B (by have h9 := of_decide_eq_false c_12; rw [shB_fin (fun i hi h8 => hok i hi (by omega)), Bool.eq_iff_iff]; simp; omega)))
   refine wz 6 ?_
   exact rz rfl (Less.eq (congrArg B (by have h9 := of_decide_eq_false c_12; rw [shB_fin (fun i hi h8 => hok i hi (by omega)), Bool.eq_iff_iff]; simp; omega)))
  obtain rfl : k = r.hides.length := by omega
  refine wz 9 ?_
  refine sz 26 (fun g6_4 g6_4' => ?_) (fun g6_4 g6_4' => ?_)
  ·refine wz 6 ?_
   exact rz rfl (Less.eq (congrArg B (by rw [shB_fin (fun i hi _ => hok i hi hi), Bool.eq_iff_iff]; simp; omega)))
  refine wz 6 ?_
  exact rz rfl (Less.eq (congrArg B (by rw [shB_fin (fun i hi _ => hok i hi hi), Bool.eq_iff_iff]; simp; omega)))
theorem rspan_pure (a b : Int) (ha : -1000000 ≤ a ∧ a ≤ 1000000 ∨ True) : APure Tryz.prog 75 [.agg [I a, I b]] (B (spOK a b)) := by
  refine ap Tryz.func75 (fun e0 he0 => ?_)
  refine vz 2 ?_
  refine sq_nil ?_
  refine aw_seq ?_
  have hin : ∀ x lo hi : Int, inn x lo hi = true ↔ lo ≤ x ∧ x ≤ hi := fun x lo hi => by unfold inn; simp
  refine wz 2 ?_
  refine kz az (rin_pure _ _ _) ?_
  refine wz 1 ?_
  refine sz 6 (fun g1_3 g1_3' => ?_) (fun g1_3 g1_3' => ?_)
  ·have h1 := (hin _ _ _).1 g1_3
   refine wz 4 ?_
   refine ky az (rin_pure _ _ _) ?_
   refine wz 2 ?_
   refine sz 13 (fun g1_10 g1_10' => ?_) (fun g1_10 g1_10' => ?_)
   ·have h2 := (hin _ _ _).1 g1_10
    refine wz 8 ?_
    exact rz rfl (Less.eq (by unfold spOK; simp [*]))
   refine wz 8 ?_
   exact rz rfl (Less.eq (by unfold spOK; simp [*]))
  refine wz 15 ?_
  exact rz rfl (Less.eq (by unfold spOK; simp [*]))
theorem register_pure (r : Rg) (hk : r.kinds.length ≤ 1000000) (hh : r.hides.length ≤ 1000000) (hw : ∀ h ∈ r.hides, h.length ≤ 1000000) : APure Tryz.prog 21 [rgA r] (B (rgOK r)) := by
  refine ap Tryz.func21 (fun e0 he0 => ?_)
  refine wz 5 ?_
  refine kz az (rin_pure _ _ _) ?_
  refine wz 2 ?_
  refine sz 11 (fun g1_5 g1_5' => ?_) (fun g1_5 g1_5' => ?_)
  ·refine wz 8 ?_
   exact rz rfl (Less.eq (by unfold rgOK; simp_all))
  refine wz 3 ?_
  refine ky az (rin_pure _ _ _) ?_
  refine wz 2 ?_
  refine iz (fun c_17 c_17' => ?_) (fun c_17 c_17' => ?_)
  ·refine wz 1 ?_
   exact rz rfl (Less.eq (by unfold rgOK; simp_all))
  refine wz 1 ?_
  refine aw_loopk (ι := { k : Nat // k ≤ r.kinds.length ∧ ∀ i, (hi : i < r.kinds.length) → i < k → kdOK r.kinds[i] = true }) [1] (fun i => [(3, I i.1)]) (fun H i => H) (fun i => r.kinds.length - i.1) (⟨0, Nat.zero_le _, by omega⟩) ⟨jz, jz, trivial⟩ rfl ?_
  rintro ⟨k, hkk, hok⟩
  refine nz ?_
  refine wz 5 ?_
  refine iz (fun c_22 c_22' => ?_) (fun c_22 c_22' => ?_)
  ·have hkl : k < r.kinds.length := by omega
   refine wz 7 ?_
   refine sz 31 (fun g6_6 g6_6' => ?_) (fun g6_6 g6_6' => ?_)
   ·refine wz 7 ?_
    refine iz (fun c_38 c_38' => ?_) (fun c_38 c_38' => ?_)
    ·have hbad := rg_kind hkl (by unfold kdOK; have h5 := of_decide_eq_true c_38; exact decide_eq_false (by omega))
     refine wz 1 ?_
     exact rz rfl (Less.eq (by rw [hbad]))
    have hkd : kdOK r.kinds[k] = true := by unfold kdOK; have h5 := of_decide_eq_false c_38; exact decide_eq_true (by omega)
    refine wz 3 ?_
    exact ⟨⟨k + 1, by omega, fun i hi h => (by by_cases e : i = k; (subst e; exact hkd); exact hok i hi (by omega))⟩, by simp only; omega, Sub.slots ⟨jz, jz, trivial⟩⟩
   have hkd : kdOK r.kinds[k] = true := by unfold kdOK; exact decide_eq_true (by omega)
   refine wz 11 ?_
   exact ⟨⟨k + 1, by omega, fun i hi h => (by by_cases e : i = k; (subst e; exact hkd); exact hok i hi (by omega))⟩, by simp only; omega, Sub.slots ⟨jz, jz, trivial⟩⟩
  obtain rfl : k = r.kinds.length := by omega
  have hall1 : r.kinds.all kdOK = true := all_of fun j hj => hok j hj hj
  refine wz 1 ?_
  refine aw_loopk (ι := { k : Nat // k ≤ r.hides.length ∧ ∀ i, (hi : i < r.hides.length) → i < k → hdOK r.kinds.length r.hides[i] = true }) [1] (fun i => [(4, I i.1)]) (fun H i => H) (fun i => r.hides.length - i.1) (⟨0, Nat.zero_le _, by omega⟩) ⟨jz, jz, trivial⟩ rfl ?_
  rintro ⟨k, hkh, hok2⟩
  refine nz ?_
  refine wz 5 ?_
  refine iz (fun c_43 c_43' => ?_) (fun c_43 c_43' => ?_)
  ·have hhl : k < r.hides.length := by omega
   have hwl := hw _ (List.getElem_mem hhl)
   refine wz 0 ?_
   refine aw_draw 10 mo (by kernel_rfl) ?_
   refine dz 10 ?_
   refine wz 0 ?_
   refine iz (fun c_55 c_55' => ?_) (fun c_55 c_55' => ?_)
   ·have hbad := rg_hide hhl (hd_len (by omega))
    refine wz 1 ?_
    exact rz rfl (Less.eq (by rw [hbad]))
   have hle : r.hides[k].length = r.kinds.length := by omega
   refine wz 1 ?_
   refine aw_loopk (ι := { j : Nat // j ≤ r.hides[k].length ∧ ∀ i, (hi : i < r.hides[k].length) → i < j → inn r.hides[k][i] 1 500 = true }) [1, 4] (fun u => [(5, I u.1)]) (fun H u => H) (fun u => r.hides[k].length - u.1) (⟨0, Nat.zero_le _, by omega⟩) ⟨jz, jz, jz, trivial⟩ rfl ?_
   rintro ⟨j, hj, hok3⟩
   refine nz ?_
   refine wz 8 ?_
   refine iz (fun c_63 c_63' => ?_) (fun c_63 c_63' => ?_)
   ·have hjl : j < r.hides[k].length := by omega
    refine wz 8 ?_
    refine kz az (rin_pure _ _ _) ?_
    refine wz 1 ?_
    refine iz (fun c_75 c_75' => ?_) (fun c_75 c_75' => ?_)
    ·have hbad := rg_hide hhl (hd_num hjl (by simpa using c_75))
     refine wz 1 ?_
     exact rz rfl (Less.eq (by rw [hbad]))
    have hin : inn r.hides[k][j] 1 500 = true := by simpa using c_75
    refine wz 3 ?_
    exact ⟨⟨j + 1, by omega, fun i hi h => (by by_cases e : i = j; (subst e; exact hin); exact hok3 i hi (by omega))⟩, by simp only; omega, Sub.slots ⟨jz, jz, jz, trivial⟩⟩
   obtain rfl : j = r.hides[k].length := by omega
   refine wz 3 ?_
   exact ⟨⟨k + 1, by omega, fun i hi h => (by by_cases e : i = k; (subst e; exact hd_yes hle fun j hj => hok3 j hj hj); exact hok2 i hi (by omega))⟩, by simp only; omega, Sub.slots ⟨jz, jz, trivial⟩⟩
  obtain rfl : k = r.hides.length := by omega
  have hall2 : r.hides.all (hdOK r.kinds.length) = true := all_of fun j hj => hok2 j hj hj
  refine wz 2 ?_
  refine kz az (rspan_pure _ _ (.inr trivial)) ?_
  refine wz 1 ?_
  refine sz 79 (fun g18_3 g18_3' => ?_) (fun g18_3 g18_3' => ?_)
  ·refine wz 2 ?_
   refine ky az (rspan_pure _ _ (.inr trivial)) ?_
   refine wz 2 ?_
   refine sz 84 (fun g18_8 g18_8' => ?_) (fun g18_8 g18_8' => ?_)
   ·refine wz 2 ?_
    refine ky az (rin_pure _ _ _) ?_
    refine wz 2 ?_
    refine sz 89 (fun g18_13 g18_13' => ?_) (fun g18_13 g18_13' => ?_)
    ·refine wz 2 ?_
     refine ky az (rin_pure _ _ _) ?_
     refine wz 2 ?_
     exact rz rfl (Less.eq (by unfold rgOK; rw [hall1, hall2]; simp_all))
    refine wz 5 ?_
    exact rz rfl (Less.eq (by unfold rgOK; rw [hall1, hall2]; simp_all))
   refine wz 10 ?_
   exact rz rfl (Less.eq (by unfold rgOK; rw [hall1, hall2]; simp_all))
  refine wz 15 ?_
  exact rz rfl (Less.eq (by unfold rgOK; rw [hall1, hall2]; simp_all))
end Go.Proofs.YtjpokekbjmdgmaaGreatDoor
namespace Go.Proofs.YtjpokekbjmdgmaaGreatDoor
open Go Go.Ab Ni Hd
theorem short_t {r : Rg} (h : shB r = true) : APure Tryz.prog 20 [rgA r] (B true) := by have q := short_pure r; rw [h] at q; exact q
theorem short_f {r : Rg} (h : shB r = false) : APure Tryz.prog 20 [rgA r] (B false) := by have q := short_pure r; rw [h] at q; exact q
end Go.Proofs.YtjpokekbjmdgmaaGreatDoor
namespace Go.Proofs.YtjpokekbjmdgmaaGreatDoor
open Go Go.Ab Ni Hd
instance en105 : EnT Tryz.prog 105 := ⟨Ent.of Tryz.func105 (by kernel_rfl) rfl⟩
instance en114 : EnT Tryz.prog 114 := ⟨Ent.of Tryz.func114 (by kernel_rfl) rfl⟩
instance en34 : EnT Tryz.prog 34 := ⟨Ent.of Tryz.func34 (by kernel_rfl) rfl⟩
instance en35 : EnT Tryz.prog 35 := ⟨Ent.of Tryz.func35 (by kernel_rfl) rfl⟩
instance en59 : EnT Tryz.prog 59 := ⟨Ent.of Tryz.func59 (by kernel_rfl) rfl⟩
instance en60 : EnT Tryz.prog 60 := ⟨Ent.of Tryz.func60 (by kernel_rfl) rfl⟩
instance en93 : EnT Tryz.prog 93 := ⟨Ent.of Tryz.func93 (by kernel_rfl) rfl⟩
def slimB (l : List Int) : Bool := decide (l.length ≤ 10)
theorem slim_len {l : List Int} (h : slimB l = true) : l.length ≤ 1000000 := by have := of_decide_eq_true h; omega
theorem chg_bd {r : Rg} (gB : RgB r) {h m : Nat} (hh : h < r.hides.length) (hm : m < r.kinds.length) {x : Rt} (hx : (0 ≤ x.a ∧ x.a ≤ 1300) ∧ (0 ≤ x.b ∧ x.b ≤ 1300)) : 0 ≤ sz r h m * rm r x m ∧ sz r h m * rm r x m ≤ 650000 := long_bd gB hh hm (by unfold rm; split <;> omega)
def fewI (r : Rg) (h : Nat) (f : List Int) (k i : Nat) : Int := if i = 0 then -1 else least 6 (((rng (sl r k) (sh r k)).take i).map fun n => ((chs r h f k n).length : Int))
theorem least_nn : ∀ (l : List Int), (∀ x ∈ l, 0 ≤ x) → 0 ≤ least 6 l
  | [], _ => by decide
  | x :: l, h => by have := least_nn l (fun y hy => h y (List.mem_cons_of_mem _ hy)); have := h x (by simp); simp only [least]; omega
theorem fewI_bd (r : Rg) (h : Nat) (f : List Int) (k i : Nat) : -1 ≤ fewI r h f k i ∧ fewI r h f k i ≤ 6 ∧ (0 < i → 0 ≤ fewI r h f k i) := by
  unfold fewI
  split
  · omega
  · have h1 := least_le 6 (((rng (sl r k) (sh r k)).take i).map fun n => ((chs r h f k n).length : Int))
    have h2 := least_nn (((rng (sl r k) (sh r k)).take i).map fun n => ((chs r h f k n).length : Int)) (fun x hx => by obtain ⟨n, _, rfl⟩ := List.mem_map.1 hx; omega)
    omega
theorem fewI_succ {r : Rg} (gB : RgB r) {h : Nat} {f : List Int} {k i : Nat} (hi : i < (rng (sl r k) (sh r k)).length) : fewI r h f k (i + 1) = if fewI r h f k i < 0 ∨ ((chs r h f k (sl r k + i)).length : Int) < fewI r h f k i then ((chs r h f k (sl r k + i)).length : Int) else fewI r h f k i := by
  have hc := chs_le gB h f k (sl r k + (i : Int))
  have hb := fewI_bd r h f k i
  have e : fewI r h f k (i + 1) = min (least 6 (((rng (sl r k) (sh r k)).take i).map fun n => ((chs r h f k n).length : Int))) ((chs r h f k (sl r k + (i : Int))).length : Int) := by
    unfold fewI; rw [if_neg (by omega), List.take_succ_eq_append_getElem hi, List.map_append, List.map_cons, List.map_nil, least_snoc, rng_get]
  rw [e]
  by_cases h0 : i = 0
  · subst h0
    have : fewI r h f k 0 = -1 := rfl
    rw [if_pos (.inl (by omega))]; simp only [List.take_zero, List.map_nil, least]; omega
  · have e2 : fewI r h f k i = least 6 (((rng (sl r k) (sh r k)).take i).map fun n => ((chs r h f k n).length : Int)) := by unfold fewI; rw [if_neg h0]
    rw [← e2]
    have := hb.2.2 (by omega)
    split <;> omega
theorem fewI_all {r : Rg} (gB : RgB r) (h : Nat) (f : List Int) {k : Nat} (hk : k < 2) : fewI r h f k (rng (sl r k) (sh r k)).length = few r h f k := by
  have hs := spank_bd gB hk
  have hl := rng_len (sl r k) (sh r k)
  unfold fewI few; rw [if_neg (by omega), List.take_length]
theorem rhide_pure (r : Rg) (n : Int) (hh : r.hides.length ≤ 1000000) : APure Tryz.prog 22 [rgA r, I n] (B (hdIn r n)) := by
  refine ap Tryz.func22 (fun e0 he0 => ?_)
  refine wz 7 ?_
  refine kz az (rin_pure _ _ _) ?_
  refine wz 1 ?_
  exact rz rfl (Less.eq rfl)
theorem rmeas_pure (r : Rg) (n : Int) (hk : r.kinds.length ≤ 1000000) : APure Tryz.prog 48 [rgA r, I n] (B (msIn r n)) := by
  refine ap Tryz.func48 (fun e0 he0 => ?_)
  refine wz 7 ?_
  refine kz az (rin_pure _ _ _) ?_
  refine wz 1 ?_
  exact rz rfl (Less.eq rfl)
theorem rfind_pure (r : Rg) (f : List Int) (hl : f.length ≤ 1000000) : APure Tryz.prog 24 [rgA r, ints f] (B (fdOK r f)) := by
  refine ap Tryz.func24 (fun e0 he0 => ?_)
  refine wz 3 ?_
  refine aw_loopk (ι := { k : Nat // k ≤ f.length ∧ ∀ i, (hi : i < f.length) → i < k → inn f[i] (-1) 1000 = true }) [1, 2] (fun i => [(5, I i.1)]) (fun H i => H) (fun i => f.length - i.1) (⟨0, Nat.zero_le _, by omega⟩) ⟨jz, jz, jz, trivial⟩ rfl ?_
  rintro ⟨k, hk, hok⟩
  refine nz ?_
  refine wz 4 ?_
  refine iz (fun c_9 c_9' => ?_) (fun c_9 c_9' => ?_)
  ·have hkl : k < f.length := by omega
   refine wz 4 ?_
   refine kz az (rin_pure _ _ _) ?_
   refine wz 1 ?_
   refine iz (fun c_17 c_17' => ?_) (fun c_17 c_17' => ?_)
   ·refine wz 1 ?_
    exact rz rfl (Less.eq (by rw [fd_bad hkl (by simpa using c_17)]))
   refine wz 3 ?_
   exact ⟨⟨k + 1, by omega, fun i hi h => (by by_cases e : i = k; (subst e; simpa using c_17); exact hok i hi (by omega))⟩, by simp only; omega, Sub.slots ⟨jz, jz, jz, trivial⟩⟩
  obtain rfl : k = f.length := by omega
  have hall : (f.all fun n => inn n (-1) 1000) = true := all_of fun j hj => hok j hj hj
  refine wz 7 ?_
  exact rz rfl (Less.eq (congrArg B (by unfold fdOK; rw [hall, Bool.and_true, Bool.eq_iff_iff]; simp; omega)))
theorem slim_pure (l : List Int) : APure Tryz.prog 30 [ints l] (B (slimB l)) := by
  refine ap Tryz.func30 (fun e0 he0 => ?_)
  refine wz 5 ?_
  exact rz rfl (Less.eq (congrArg B (by unfold slimB; rw [Bool.eq_iff_iff]; simp; omega)))
theorem asked_pure (r : Rg) (n : Int) (f : List Int) (hk : r.kinds.length ≤ 1000000) (hh : r.hides.length ≤ 1000000) (hw : ∀ h ∈ r.hides, h.length ≤ 1000000) (hl : f.length ≤ 1000000) : APure Tryz.prog 33 [rgA r, I n, ints f] (B (okF r n f)) := by
  refine ap Tryz.func33 (fun e0 he0 => ?_)
  refine wz 3 ?_
  refine kz az (register_pure r hk hh hw) ?_
  refine wz 1 ?_
  refine sz 9 (fun g1_2 g1_2' => ?_) (fun g1_2 g1_2' => ?_)
  ·refine wz 2 ?_
   refine ky az (rhide_pure r n hh) ?_
   refine wz 2 ?_
   refine sz 14 (fun g1_7 g1_7' => ?_) (fun g1_7 g1_7' => ?_)
   ·refine wz 2 ?_
    refine ky az (rfind_pure r f hl) ?_
    refine wz 2 ?_
    exact rz rfl (Less.eq (by unfold okF; simp [*]))
   refine wz 5 ?_
   exact rz rfl (Less.eq (by unfold okF; simp [*]))
  refine wz 10 ?_
  exact rz rfl (Less.eq (by unfold okF; simp [*]))
theorem rlong_pure {r : Rg} (gB : RgB r) {h m : Nat} (hhl : h < r.hides.length) (hml : m < r.kinds.length) {x : Rt} (hx : (0 ≤ x.a ∧ x.a ≤ 1300) ∧ (0 ≤ x.b ∧ x.b ≤ 1300)) : APure Tryz.prog 114 [rgA r, I h, I m, rtA x] (I (sz r h m * rm r x m)) := by
  refine ap Tryz.func114 (fun e0 he0 => ?_)
  refine vz 3 ?_
  refine sq_nil ?_
  refine aw_seq ?_
  refine aw_seq ?_
  have hq := chg_bd gB hhl hml hx
  have hmh : m < (r.hides[h]).length := by rw [gB.hl h hhl]; exact hml
  have hsz := sz_at gB hhl hml
  have hkd := kd_at hml
  refine wz 6 ?_
  refine iz (fun c_14 c_14' => ?_) (fun c_14 c_14' => ?_)
  ·have hrm : rm r x m = x.a := by unfold rm; rw [hkd, if_pos (by omega)]
   rw [hrm, hsz] at hq
   refine wz 0 ?_
   refine aw_draw 12 mo (by kernel_rfl) ?_
   refine dz 12 ?_
   refine wz 0 ?_
   exact rz rfl (Less.eq (by rw [hrm, hsz]))
  have hrm : rm r x m = x.b := by unfold rm; rw [hkd, if_neg (by omega)]
  rw [hrm, hsz] at hq
  refine wz 0 ?_
  refine aw_draw 12 mo (by kernel_rfl) ?_
  refine dz 12 ?_
  refine wz 0 ?_
  exact rz rfl (Less.eq (by rw [hrm, hsz]))
theorem rchanged_pure {r : Rg} (gB : RgB r) {h m : Nat} (hhl : h < r.hides.length) (hml : m < r.kinds.length) {x : Rt} (hx : (0 ≤ x.a ∧ x.a ≤ 1300) ∧ (0 ≤ x.b ∧ x.b ≤ 1300)) {f : List Int} (hf : f.length = r.kinds.length) (hfd : fdOK r f = true) : APure Tryz.prog 105 [rgA r, I h, ints f, I m, rtA x] (B (chB r h f (rm r x m) m)) := by
  refine ap Tryz.func105 (fun e0 he0 => ?_)
  refine vz 3 ?_
  refine sq_nil ?_
  refine aw_seq ?_
  have hq := chg_bd gB hhl hml hx
  have hmf : m < f.length := by omega
  have hfb := fd_bd hfd hmf
  have hoff := gB.off
  have hcr := chg_ref (off := r.off) (long := sz r h m * rm r x m) (x := f[m]) (by omega) hq.1 hfb.2
  have hgd : f.getD m 0 = f[m] := getD_at hmf
  refine aw_draw 12 mo (by kernel_rfl) ?_
  refine dz 9 ?_
  refine dkz az (rlong_pure gB hhl hml hx) ?_
  refine dz 2 ?_
  refine wz 6 ?_
  refine sz 28 (fun g2_5 g2_5' => ?_) (fun g2_5 g2_5' => ?_)
  ·refine wz 2 ?_
   refine sq_yes rfl rfl (less_b g2_5) rfl (ev_neg jz (by first | exact wr (by omega) (by omega) | (rw [show (0 : Int) - _ = -(_) from Int.zero_sub _]; exact wr (by omega) (by omega)))) ?_
   refine wz 7 ?_
   exact rz rfl (Less.eq (congrArg B (by unfold chB; rw [hgd, hcr, Bool.eq_iff_iff]; simp; omega)))
  refine wz 10 ?_
  exact rz rfl (Less.eq (congrArg B (by unfold chB; rw [hgd, hcr, Bool.eq_iff_iff]; simp; omega)))
end Go.Proofs.YtjpokekbjmdgmaaGreatDoor
namespace Go.Proofs.YtjpokekbjmdgmaaGreatDoor
open Go Go.Ab Ni Hd
def chP (r : Rg) (h : Nat) (f : List Int) (x : Rt) (k : Nat) : List Int := nums (fun m => chB r h f (rm r x m) m) k
theorem chP_len (r : Rg) (h : Nat) (f : List Int) (x : Rt) (k : Nat) : (chP r h f x k).length ≤ k := nums_len _ _
theorem rm_same (r : Rg) (n : Int) (m : Nat) : rm r ⟨n, n⟩ m = n := by unfold rm; split <;> rfl
theorem lo_form (off L : Int) : max 0 ((L - off * 1000 + 1000 - 1).tdiv 1000) = Hd.lo off L := by unfold Hd.lo; rw [show L - off * 1000 + 1000 - 1 = L - 1000 * off + 999 by omega]
theorem hi_form (off L : Int) : min 1000 ((L + off * 1000).tdiv 1000) = Hd.hi off L := by unfold Hd.hi; rw [show L + off * 1000 = L + 1000 * off by omega]
theorem rchanges_pure {r : Rg} (gB : RgB r) {h : Nat} (hhl : h < r.hides.length) {x : Rt} (hx : (0 ≤ x.a ∧ x.a ≤ 1300) ∧ (0 ≤ x.b ∧ x.b ≤ 1300)) {f : List Int} (hf : f.length = r.kinds.length) (hfd : fdOK r f = true) : APure Tryz.prog 60 [rgA r, I h, ints f, rtA x] (ints (chA r h f x)) := by
  refine ap Tryz.func60 (fun e0 he0 => ?_)
  refine vz 5 ?_
  refine sq_nil ?_
  refine aw_block ?_
  refine aw_sub (sub_token 9 1 jz) ?_
  refine aw_loopk (ι := { k : Nat // k ≤ f.length }) [1, 2, 4, 7] (fun i => [(10, I i.1), (9, .own 2 1 ((chP r h f x i.1).map fun x => [I x]))]) (fun H i => H.set 2 (.tok ((chP r h f x i.1).map fun x => [I x]).length)) (fun i => f.length - i.1) (⟨0, Nat.zero_le _⟩) ⟨jz, jz, jz, jz, jz, jz, trivial⟩ rfl ?_
  rintro ⟨k, hk⟩
  refine nz ?_
  have hcl := chP_len r h f x k
  have hnk := gB.nk
  refine wz 4 ?_
  refine iz (fun c_14 c_14' => ?_) (fun c_14 c_14' => ?_)
  ·have hml : k < r.kinds.length := by omega
   refine wz 5 ?_
   refine kz az (rchanged_pure gB hhl hml hx hf hfd) ?_
   refine wz 0 ?_
   refine iz (fun c_22 c_22' => ?_) (fun c_22 c_22' => ?_)
   ·have eS : ((chP r h f x (k + 1)).map fun x => [I x]) = ((chP r h f x k).map fun x => [I x]) ++ [[I k]] := by unfold chP; rw [nums_succ, if_pos c_22, List.map_append]; rfl
    refine wz 2 ?_
    refine sq_ev rfl (ev_buildSlice (es := [[_]]) sf28.h rfl rfl rfl rfl) ?_
    first | refine sq_append rfl sf28.h Tryz.underlying28 rfl rfl jz (Nat.succ_pos _) (by simp; omega) (by simp; omega) ?_ | refine sq_append rfl sf28.h Tryz.underlying28 rfl rfl (less_slx _ _) (Nat.succ_pos _) (by simp; omega) (by simp; omega) ?_
    refine wz 4 ?_
    exact ⟨⟨k + 1, by omega⟩, by simp only; omega, sb 3 ⟨jz, Less.eq (by rw [eS] <;> rfl), jz, jz, jz, jz, trivial⟩ (hH := (congrArg (fun n => [_, _, AObj.tok n]) (congrArg List.length eS.symm)))⟩
   have eS : ((chP r h f x (k + 1)).map fun x => [I x]) = ((chP r h f x k).map fun x => [I x]) := by unfold chP; rw [nums_succ, if_neg (by rw [c_22]; simp)]
   refine wz 3 ?_
   exact ⟨⟨k + 1, by omega⟩, by simp only; omega, sb 3 ⟨jz, Less.eq (by rw [eS] <;> rfl), jz, jz, jz, jz, trivial⟩ (hH := (congrArg (fun n => [_, _, AObj.tok n]) (congrArg List.length eS.symm)))⟩
  obtain rfl : k = f.length := by omega
  refine wz 2 ?_
  exact retQ_pure (v := .own _ _ _) rfl rfl (Less.trans (less_own _ _ _) (Less.eq (by rw [hf]; rfl)))
theorem rwarped_pure {r : Rg} (gB : RgB r) {h : Nat} (hhl : h < r.hides.length) {x : Rt} (hx : (0 ≤ x.a ∧ x.a ≤ 1300) ∧ (0 ≤ x.b ∧ x.b ≤ 1300)) : APure Tryz.prog 59 [rgA r, I h, rtA x] (spans (warpOf r h x)) := by
  refine ap Tryz.func59 (fun e0 he0 => ?_)
  refine vz 5 ?_
  refine sq_nil ?_
  refine aw_block ?_
  refine aw_sub (sub_token 7 2 jz) ?_
  refine aw_loopk (ι := { k : Nat // k ≤ r.kinds.length }) [1, 3, 5] (fun i => [(8, I i.1), (7, .own 2 2 ((warpK r h x i.1).map fun s => [I s.1, I s.2]))]) (fun H i => H.set 2 (.tok ((warpK r h x i.1).map fun s => [I s.1, I s.2]).length)) (fun i => r.kinds.length - i.1) (⟨0, Nat.zero_le _⟩) ⟨jz, jz, jz, jz, jz, trivial⟩ rfl ?_
  rintro ⟨k, hk⟩
  refine nz ?_
  have hwl := warpK_len r h x k
  have hnk := gB.nk
  have hoff := gB.off
  refine wz 5 ?_
  refine iz (fun c_14 c_14' => ?_) (fun c_14 c_14' => ?_)
  ·have hml : k < r.kinds.length := by omega
   have hq := chg_bd gB hhl hml hx
   have hb1 := tdiv_bd (n := sz r h k * rm r x k - r.off * 1000 + 1000 - 1) (by omega)
   have hb2 := tdiv_bd (n := sz r h k * rm r x k + r.off * 1000) (by omega)
   have eS : ((warpK r h x (k + 1)).map fun s => [I s.1, I s.2]) = ((warpK r h x k).map fun s => [I s.1, I s.2]) ++ [[I (lo r.off (sz r h k * rm r x k)), I (hi r.off (sz r h k * rm r x k))]] := by rw [warpK_succ, List.map_append]; rfl
   refine wz 4 ?_
   refine kz az (rlong_pure gB hhl hml hx) ?_
   refine wz 9 ?_
   refine sq_ev rfl (ev_quo jz jz (by decide) (wr (by omega) (by omega))) ?_
   refine wz 6 ?_
   refine sq_ev rfl (ev_quo jz jz (by decide) (wr (by omega) (by omega))) ?_
   refine wz 2 ?_
   refine sq_ev rfl (ev_buildSlice (es := [[_, _]]) sf36.h rfl rfl rfl rfl) ?_
   first | refine sq_append rfl sf36.h Tryz.underlying36 rfl rfl jz (Nat.succ_pos _) (by simp; omega) (by simp; omega) ?_ | refine sq_append rfl sf36.h Tryz.underlying36 rfl rfl (less_slx _ _) (Nat.succ_pos _) (by simp; omega) (by simp; omega) ?_
   refine wz 4 ?_
   exact ⟨⟨k + 1, by omega⟩, by simp only; omega, sb 3 ⟨jz, Less.eq (by rw [eS, ← lo_form, ← hi_form] <;> rfl), jz, jz, jz, trivial⟩ (hH := (congrArg (fun n => [_, _, AObj.tok n]) (by rw [eS]; simp)))⟩
  obtain rfl : k = r.kinds.length := by omega
  refine wz 2 ?_
  exact retQ_pure (v := .own _ _ _) rfl rfl (less_own _ _ _)
theorem rfewest_pure {r : Rg} (gB : RgB r) {h : Nat} (hhl : h < r.hides.length) {f : List Int} (hf : f.length = r.kinds.length) (hfd : fdOK r f = true) {k : Nat} (hk2 : k < 2) {K : Int} (hK : K = (k : Int) + 1) : APure Tryz.prog 93 [rgA r, I h, ints f, I K, .agg [I (sl r k), I (sh r k)]] (I (few r h f k)) := by
  refine ap Tryz.func93 (fun e0 he0 => ?_)
  refine vz 3 ?_
  refine sq_nil ?_
  refine aw_seq ?_
  have hsp := spank_bd gB hk2
  have hrl := rng_len (sl r k) (sh r k)
  have hnk := gB.nk
  refine wz 4 ?_
  refine aw_loopk (ι := { i : Nat // i ≤ (rng (sl r k) (sh r k)).length }) [1, 2, 3, 5, 9] (fun i => [(11, I (fewI r h f k i.1)), (12, I (sl r k + (i.1 : Int)))]) (fun H i => H) (fun i => (rng (sl r k) (sh r k)).length - i.1) (⟨0, Nat.zero_le _⟩) ⟨jz, (by exact less_int (show (sl r k : Int) = sl r k + ((0 : Nat) : Int) by omega)), jz, jz, jz, jz, jz, trivial⟩ rfl ?_
  rintro ⟨i, hi⟩
  refine nz ?_
  have hfb := fewI_bd r h f k i
  refine wz 4 ?_
  refine iz (fun c_20 c_20' => ?_) (fun c_20 c_20' => ?_)
  ·have hil : i < (rng (sl r k) (sh r k)).length := by omega
   refine wz 2 ?_
   refine aw_loopk (ι := { j : Nat // j ≤ f.length }) [1, 2, 3, 5, 9, 11, 12] (fun u => [(13, I ((nums (chK r h f k (sl r k + (i : Int))) u.1).length : Nat)), (14, I u.1)]) (fun H u => H) (fun u => f.length - u.1) (⟨0, Nat.zero_le _⟩) ⟨jz, jz, jz, jz, jz, jz, jz, jz, jz, trivial⟩ rfl ?_
   rintro ⟨j, hj⟩
   refine nz ?_
   have hnl := nums_len (chK r h f k (sl r k + (i : Int))) j
   refine wz 4 ?_
   refine iz (fun c_26 c_26' => ?_) (fun c_26 c_26' => ?_)
   ·have hml : j < r.kinds.length := by omega
    have hkd := kd_at hml
    refine wz 8 ?_
    refine sz 36 (fun g9_7 g9_7' => ?_) (fun g9_7 g9_7' => ?_)
    ·have hkk : decide (kd r j - 1 = (k : Int)) = true := decide_eq_true (by omega)
     refine wz 7 ?_
     refine ky az (rchanged_pure gB hhl hml (x := ⟨sl r k + (i : Int), sl r k + (i : Int)⟩) (by simp only; omega) hf hfd) ?_
     refine wz 1 ?_
     refine iz (fun c_45 c_45' => ?_) (fun c_45 c_45' => ?_)
     ·have eC : ((nums (chK r h f k (sl r k + (i : Int))) (j + 1)).length : Nat) = ((nums (chK r h f k (sl r k + (i : Int))) j).length : Nat) + 1 := by rw [nums_succ, if_pos (by unfold chK; rw [hkk, Bool.true_and]; rw [rm_same] at c_45; exact c_45), List.length_append]; rfl
      refine wz 6 ?_
      exact ⟨⟨j + 1, by omega⟩, by simp only; omega, Sub.slots ⟨Less.eq (by rw [eC] <;> rfl), jz, jz, jz, jz, jz, jz, jz, jz, trivial⟩⟩
     have eC : ((nums (chK r h f k (sl r k + (i : Int))) (j + 1)).length : Nat) = ((nums (chK r h f k (sl r k + (i : Int))) j).length : Nat) := by rw [nums_succ, if_neg (by unfold chK; rw [hkk, Bool.true_and]; rw [rm_same] at c_45; rw [c_45]; simp)]
     refine wz 3 ?_
     exact ⟨⟨j + 1, by omega⟩, by simp only; omega, Sub.slots ⟨Less.eq (by rw [eC] <;> rfl), jz, jz, jz, jz, jz, jz, jz, jz, trivial⟩⟩
    have eC : ((nums (chK r h f k (sl r k + (i : Int))) (j + 1)).length : Nat) = ((nums (chK r h f k (sl r k + (i : Int))) j).length : Nat) := by rw [nums_succ, if_neg (by unfold chK; rw [decide_eq_false (by omega)]; simp)]
    refine wz 13 ?_
    exact ⟨⟨j + 1, by omega⟩, by simp only; omega, Sub.slots ⟨Less.eq (by rw [eC] <;> rfl), jz, jz, jz, jz, jz, jz, jz, jz, trivial⟩⟩
   obtain rfl : j = f.length := by omega
   have hcc : nums (chK r h f k (sl r k + (i : Int))) f.length = chs r h f k (sl r k + (i : Int)) := by rw [hf]; rfl
   have hstep := fewI_succ gB (h := h) (f := f) hil
   rw [← hcc] at hstep
   refine wz 3 ?_
   refine sz 50 (fun g11_2 g11_2' => ?_) (fun g11_2 g11_2' => ?_)
   ·have eF : fewI r h f k (i + 1) = ((nums (chK r h f k (sl r k + (i : Int))) f.length).length : Nat) := by rw [hstep, if_pos (.inl (by omega))]
    refine wz 10 ?_
    exact ⟨⟨i + 1, by omega⟩, by simp only; omega, Sub.slots ⟨Less.eq (by rw [eF] <;> rfl), (by exact less_int (show sl r k + (i : Int) + 1 = sl r k + ((i + 1 : Nat) : Int) by omega)), jz, jz, jz, jz, jz, trivial⟩⟩
   refine wz 4 ?_
   refine iz (fun c_54 c_54' => ?_) (fun c_54 c_54' => ?_)
   ·have eF : fewI r h f k (i + 1) = ((nums (chK r h f k (sl r k + (i : Int))) f.length).length : Nat) := by rw [hstep, if_pos (.inr (of_decide_eq_true c_54))]
    refine wz 5 ?_
    exact ⟨⟨i + 1, by omega⟩, by simp only; omega, Sub.slots ⟨Less.eq (by rw [eF] <;> rfl), (by exact less_int (show sl r k + (i : Int) + 1 = sl r k + ((i + 1 : Nat) : Int) by omega)), jz, jz, jz, jz, jz, trivial⟩⟩
   have eF : fewI r h f k (i + 1) = fewI r h f k i := by rw [hstep, if_neg (by have h5 := of_decide_eq_false c_54; omega)]
   refine wz 3 ?_
   exact ⟨⟨i + 1, by omega⟩, by simp only; omega, Sub.slots ⟨Less.eq (by rw [eF] <;> rfl), (by exact less_int (show sl r k + (i : Int) + 1 = sl r k + ((i + 1 : Nat) : Int) by omega)), jz, jz, jz, jz, jz, trivial⟩⟩
  obtain rfl : i = (rng (sl r k) (sh r k)).length := by omega
  refine wz 2 ?_
  exact rz rfl (Less.eq (by rw [fewI_all gB h f hk2]))
theorem rfews_pure {r : Rg} (gB : RgB r) {h : Nat} (hhl : h < r.hides.length) {f : List Int} (hf : f.length = r.kinds.length) (hfd : fdOK r f = true) : APure Tryz.prog 34 [rgA r, I h, ints f] (I (fews r h f)) := by
  refine ap Tryz.func34 (fun e0 he0 => ?_)
  refine vz 2 ?_
  refine sq_nil ?_
  refine aw_seq ?_
  have h0 := few_bd gB h f (k := 0) (by rw [sl0, sh0]; exact gB.a.2.1.1)
  have h1 := few_bd gB h f (k := 1) (by rw [sl1, sh1]; exact gB.b.2.1.1)
  refine aw_draw 14 mo (by kernel_rfl) ?_
  refine dz 5 ?_
  refine dkz az (rfewest_pure gB hhl hf hfd (k := 0) (by omega) rfl) ?_
  refine dz 5 ?_
  refine dkz az (rfewest_pure gB hhl hf hfd (k := 1) (by omega) rfl) ?_
  refine dz 2 ?_
  refine wz 0 ?_
  exact rz rfl (Less.eq rfl)
theorem rmay_pure {r : Rg} (gB : RgB r) {h : Nat} (hhl : h < r.hides.length) {f : List Int} (hf : f.length = r.kinds.length) (hfd : fdOK r f = true) : APure Tryz.prog 35 [rgA r, I h, ints f] (B (may r h f)) := by
  refine ap Tryz.func35 (fun e0 he0 => ?_)
  refine wz 2 ?_
  refine aw_draw 8 mo (by kernel_rfl) ?_
  refine dz 3 ?_
  refine dkz az (rfews_pure gB hhl hf hfd) ?_
  refine dz 4 ?_
  refine wz 0 ?_
  exact rz rfl (Less.eq rfl)
end Go.Proofs.YtjpokekbjmdgmaaGreatDoor
namespace Go.Proofs.YtjpokekbjmdgmaaGreatDoor
open Go Go.Ab Ni Hd
theorem slim_t {l : List Int} (h : slimB l = true) : APure Tryz.prog 30 [ints l] (B true) := by have q := slim_pure l; rw [h] at q; exact q
theorem slim_f {l : List Int} (h : slimB l = false) : APure Tryz.prog 30 [ints l] (B false) := by have q := slim_pure l; rw [h] at q; exact q
theorem warp_len (r : Rg) (h : Nat) (x : Rt) : (warpOf r h x).length = r.kinds.length := by unfold warpOf; exact warpK_len r h x _
end Go.Proofs.YtjpokekbjmdgmaaGreatDoor
namespace Go.Proofs.YtjpokekbjmdgmaaGreatDoor
open Go Go.Ab Ni Hd
instance en104 : EnT Tryz.prog 104 := ⟨Ent.of Tryz.func104 (by kernel_rfl) rfl⟩
instance en94 : EnT Tryz.prog 94 := ⟨Ent.of Tryz.func94 (by kernel_rfl) rfl⟩
instance sf136 : SlS Tryz.prog 136 30 2 16 := ⟨SlFact.of (by kernel_rfl)⟩
instance sl136 : SlE Tryz.prog 136 30 2 := ⟨by kernel_rfl⟩
def allP (r : Rg) (i j : Nat) : List Rt := (((rng r.al r.ah).take i).flatMap fun a => (rng r.bl r.bh).map fun b => ⟨a, b⟩) ++ ((rng r.bl r.bh).take j).map fun b => ⟨r.al + i, b⟩
theorem allP_succ {r : Rg} {i j : Nat} (hj : j < nB r) : allP r i (j + 1) = allP r i j ++ [⟨r.al + i, r.bl + j⟩] := by
  unfold allP; rw [List.take_succ_eq_append_getElem hj, List.map_append, ← List.append_assoc, List.map_cons, List.map_nil, rng_get]
theorem allP_row {r : Rg} {i : Nat} (hi : i < nA r) : allP r i (nB r) = allP r (i + 1) 0 := by
  unfold allP nB; rw [List.take_length, List.take_succ_eq_append_getElem hi, List.flatMap_append, rng_get]; simp
theorem allP_end (r : Rg) : allP r (nA r) 0 = alls r := by unfold allP alls nA; rw [List.take_length]; simp
theorem allP_len {r : Rg} (gB : RgB r) {i j : Nat} (hi : i < nA r) (hj : j ≤ nB r) : (allP r i j).length ≤ 1681 := by
  have h1 : (allP r i j).length ≤ (allP r (i + 1) 0).length := by
    rw [← allP_row hi]; unfold allP; simp only [List.length_append, List.length_map, List.length_take]
    unfold nB at hj ⊢; omega
  have h2 : (allP r (i + 1) 0).length ≤ (alls r).length := by
    unfold allP alls
    simp only [List.take_zero, List.map_nil, List.append_nil]
    have e : (rng r.al r.ah) = (rng r.al r.ah).take (i + 1) ++ (rng r.al r.ah).drop (i + 1) := (List.take_append_drop _ _).symm
    conv => rhs; rw [e, List.flatMap_append, List.length_append]
    omega
  have := alls_len gB
  omega
def fitK (r : Rg) (h : Nat) (f : List Int) (k : Nat) : List Rt := ((alls r).take k).filter (fitB r h f)
theorem fitK_succ {r : Rg} {h : Nat} {f : List Int} {k : Nat} (hk : k < (alls r).length) : fitK r h f (k + 1) = fitK r h f k ++ if fitB r h f (alls r)[k] = true then [(alls r)[k]] else [] := by
  unfold fitK; rw [List.take_succ_eq_append_getElem hk, List.filter_append]
  cases hc : fitB r h f (alls r)[k] <;> simp [hc]
theorem fitK_all (r : Rg) (h : Nat) (f : List Int) : fitK r h f (alls r).length = fit r h f := by unfold fitK; rw [List.take_length, fit_alls]
theorem fitK_len {r : Rg} (gB : RgB r) (h : Nat) (f : List Int) (k : Nat) : (fitK r h f k).length ≤ 1681 := by
  have h1 := List.length_filter_le (fitB r h f) ((alls r).take k)
  have h2 := alls_len gB
  rw [List.length_take] at h1; unfold fitK; omega
theorem fitB_chA {r : Rg} (gB : RgB r) (h : Nat) (f : List Int) (x : Rt) : fitB r h f x = decide (((chA r h f x).length : Int) ≤ r.mends) := by
  unfold fitB; rw [chA_len gB, Bool.eq_iff_iff]; simp
theorem ralls_pure {r : Rg} (gB : RgB r) : APure Tryz.prog 94 [rgA r] (.sl 2 ((alls r).map rtC)) := by
  refine ap Tryz.func94 (fun e0 he0 => ?_)
  refine vz 2 ?_
  refine sq_nil ?_
  refine aw_seq ?_
  have hnA := nA_bd gB
  have hnB := nB_bd gB
  have hlA := rng_len r.al r.ah
  have hlB := rng_len r.bl r.bh
  have ha := gB.a
  have hb := gB.b
  unfold nA at hnA
  unfold nB at hnB
  refine vz 5 ?_
  refine sq_nil ?_
  refine aw_block ?_
  refine aw_sub (sub_token 3 2 jz) ?_
  refine aw_loopk (ι := { i : Nat // i ≤ nA r }) [1] (fun i => [(3, .own 1 2 ((allP r i.1 0).map rtC)), (4, I (r.al + (i.1 : Int)))]) (fun H i => H.set 1 (.tok ((allP r i.1 0).map rtC).length)) (fun i => nA r - i.1) (⟨0, Nat.zero_le _⟩) ⟨jz, (by exact less_int (show (r.al : Int) = r.al + ((0 : Nat) : Int) by omega)), jz, trivial⟩ rfl ?_
  rintro ⟨i, hi⟩
  refine nz ?_
  refine wz 5 ?_
  refine iz (fun c_13 c_13' => ?_) (fun c_13 c_13' => ?_)
  ·have hia : i < nA r := by unfold nA; omega
   refine wz 4 ?_
   refine aw_loopk (ι := { j : Nat // j ≤ nB r }) [1, 4] (fun u => [(3, .own 1 2 ((allP r i u.1).map rtC)), (5, I (r.bl + (u.1 : Int)))]) (fun H u => H.set 1 (.tok ((allP r i u.1).map rtC).length)) (fun u => nB r - u.1) (⟨0, Nat.zero_le _⟩) ⟨jz, (by exact less_int (show (r.bl : Int) = r.bl + ((0 : Nat) : Int) by omega)), jz, jz, trivial⟩ rfl ?_
   rintro ⟨j, hj⟩
   refine nz ?_
   have hpl := allP_len gB hia hj
   refine wz 5 ?_
   refine iz (fun c_23 c_23' => ?_) (fun c_23 c_23' => ?_)
   ·have hjb : j < nB r := by unfold nB; omega
    have eS : ((allP r i (j + 1)).map rtC) = ((allP r i j).map rtC) ++ [rtC ⟨r.al + i, r.bl + j⟩] := by rw [allP_succ hjb, List.map_append]; rfl
    refine wz 4 ?_
    refine sq_ev rfl (ev_buildSlice (es := [[_, _]]) sf136.h rfl rfl rfl rfl) ?_
    first | refine sq_append rfl sf136.h Tryz.underlying136 rfl rfl jz (Nat.succ_pos _) (by simp; omega) (by simp; omega) ?_ | refine sq_append rfl sf136.h Tryz.underlying136 rfl rfl (less_slx _ _) (Nat.succ_pos _) (by simp; omega) (by simp; omega) ?_
    refine wz 4 ?_
    exact ⟨⟨j + 1, by omega⟩, by simp only; omega, sb 2 ⟨Less.eq (by rw [eS] <;> rfl), (by exact less_int (show r.bl + (j : Int) + 1 = r.bl + ((j + 1 : Nat) : Int) by omega)), jz, jz, trivial⟩ (hH := (congrArg (fun n => [_, AObj.tok n]) (congrArg List.length eS.symm)))⟩
   obtain rfl : j = nB r := by unfold nB at hj ⊢; omega
   have eR : ((allP r i (nB r)).map rtC) = ((allP r (i + 1) 0).map rtC) := by rw [allP_row hia]
   refine wz 3 ?_
   exact ⟨⟨i + 1, by omega⟩, by simp only; omega, sb 2 ⟨Less.eq (by rw [eR] <;> rfl), (by exact less_int (show r.al + (i : Int) + 1 = r.al + ((i + 1 : Nat) : Int) by omega)), jz, trivial⟩ (hH := (congrArg (fun n => [_, AObj.tok n]) (congrArg List.length eR)))⟩
  obtain rfl : i = nA r := by unfold nA at hi ⊢; omega
  refine wz 2 ?_
  exact retQ_pure (v := .own _ _ _) rfl rfl (Less.trans (less_own _ _ _) (Less.eq (by rw [allP_end])))
theorem rfitting_pure {r : Rg} (gB : RgB r) {h : Nat} (hhl : h < r.hides.length) {f : List Int} (hf : f.length = r.kinds.length) (hfd : fdOK r f = true) : APure Tryz.prog 104 [rgA r, I h, ints f] (.sl 2 ((fit r h f).map rtC)) := by
  refine ap Tryz.func104 (fun e0 he0 => ?_)
  refine wz 3 ?_
  refine kz az (ralls_pure gB) ?_
  refine vz 3 ?_
  refine sq_nil ?_
  refine aw_block ?_
  refine aw_sub (sub_token 8 2 jz) ?_
  refine aw_loopk (ι := { k : Nat // k ≤ (alls r).length }) [1, 2, 3, 7] (fun i => [(9, I i.1), (8, .own 1 2 ((fitK r h f i.1).map fun x => rtC x))]) (fun H i => H.set 1 (.tok ((fitK r h f i.1).map fun x => rtC x).length)) (fun i => (alls r).length - i.1) (⟨0, Nat.zero_le _⟩) ⟨jz, jz, jz, jz, jz, jz, trivial⟩ rfl ?_
  rintro ⟨k, hk⟩
  refine nz ?_
  have hal := alls_len gB
  have hfl := fitK_len gB h f k
  refine wz 4 ?_
  refine iz (fun c_15 c_15' => ?_) (fun c_15 c_15' => ?_)
  ·have hkl : k < (alls r).length := by omega
   have hxb := rates_bd gB (mem_alls.1 (List.getElem_mem hkl))
   have hbc := fitB_chA gB h f (alls r)[k]
   refine wz 0 ?_
   refine aw_draw 12 mo (by kernel_rfl) ?_
   refine dz 7 ?_
   refine dkz az (rchanges_pure gB hhl hxb hf hfd) ?_
   refine dz 4 ?_
   refine wz 0 ?_
   refine iz (fun c_29 c_29' => ?_) (fun c_29 c_29' => ?_)
   ·have eS : ((fitK r h f (k + 1)).map fun x => rtC x) = ((fitK r h f k).map fun x => rtC x) ++ [rtC (alls r)[k]] := by rw [fitK_succ hkl, if_pos (by rw [hbc]; exact c_29), List.map_append]; rfl
    refine wz 5 ?_
    refine sq_ev rfl (ev_buildSlice (es := [[_, _]]) sf136.h rfl rfl rfl rfl) ?_
    first | refine sq_append rfl sf136.h Tryz.underlying136 rfl rfl jz (Nat.succ_pos _) (by simp; omega) (by simp; omega) ?_ | refine sq_append rfl sf136.h Tryz.underlying136 rfl rfl (less_slx _ _) (Nat.succ_pos _) (by simp; omega) (by simp; omega) ?_
    refine wz 4 ?_
    exact ⟨⟨k + 1, by omega⟩, by simp only; omega, sb 2 ⟨jz, Less.eq (by rw [eS] <;> rfl), jz, jz, jz, jz, trivial⟩ (hH := (congrArg (fun n => [_, AObj.tok n]) (congrArg List.length eS.symm)))⟩
   have eS : ((fitK r h f (k + 1)).map fun x => rtC x) = ((fitK r h f k).map fun x => rtC x) := by rw [fitK_succ hkl, if_neg (by rw [hbc, c_29]; simp), List.append_nil]
   refine wz 3 ?_
   exact ⟨⟨k + 1, by omega⟩, by simp only; omega, sb 2 ⟨jz, Less.eq (by rw [eS] <;> rfl), jz, jz, jz, jz, trivial⟩ (hH := (congrArg (fun n => [_, AObj.tok n]) (congrArg List.length eS.symm)))⟩
  obtain rfl : k = (alls r).length := by omega
  refine wz 2 ?_
  exact retQ_pure (v := .own _ _ _) rfl rfl (Less.trans (less_own _ _ _) (Less.eq (by rw [fitK_all])))
theorem asked_t {r : Rg} {n : Int} {f : List Int} (hs : shB r = true) (hf : slimB f = true) (h : okF r n f = true) : APure Tryz.prog 33 [rgA r, I n, ints f] (B true) := by have q := asked_pure r n f (shB_len hs).1 (shB_len hs).2.1 (shB_len hs).2.2 (slim_len hf); rw [h] at q; exact q
theorem asked_f {r : Rg} {n : Int} {f : List Int} (hs : shB r = true) (hf : slimB f = true) (h : okF r n f = false) : APure Tryz.prog 33 [rgA r, I n, ints f] (B false) := by have q := asked_pure r n f (shB_len hs).1 (shB_len hs).2.1 (shB_len hs).2.2 (slim_len hf); rw [h] at q; exact q
theorem may_t {r : Rg} {h : Nat} {f : List Int} (ho : okF r h f = true) (hhl : h < r.hides.length) {b : Bool} (hm : may r h f = b) : APure Tryz.prog 35 [rgA r, I h, ints f] (B b) := by
  obtain ⟨gB, _, hf, _, hfd⟩ := okF_facts ho
  have q := rmay_pure gB hhl hf hfd; rw [hm] at q; exact q
end Go.Proofs.YtjpokekbjmdgmaaGreatDoor
namespace Go.Proofs.YtjpokekbjmdgmaaGreatDoor
open Go Go.Ab Ni Hd
def frm (now : List Int) : Nat := if h : 0 < now.length then (now[now.length - 1]).toNat + 1 else 0
end Go.Proofs.YtjpokekbjmdgmaaGreatDoor
namespace Go.Proofs.YtjpokekbjmdgmaaGreatDoor
open Go Go.Ab Ni Hd
instance en46 : EnT Tryz.prog 46 := ⟨Ent.of Tryz.func46 (by kernel_rfl) rfl⟩
instance en47 : EnT Tryz.prog 47 := ⟨Ent.of Tryz.func47 (by kernel_rfl) rfl⟩
theorem mnK_s {l : List Int} {k : Nat} (h : k < l.length) : mnK l (k + 1) = min (mnK l k) l[k] := by
  rcases Nat.eq_zero_or_pos k with rfl | q
  · rw [mnK_1 h]; cases l with
    | nil => simp at h
    | cons a l => simp [mnK]
  · exact mnK_succ q h
theorem mxK_s {l : List Int} {k : Nat} (h : k < l.length) : mxK l (k + 1) = max (mxK l k) l[k] := by
  rcases Nat.eq_zero_or_pos k with rfl | q
  · rw [mxK_1 h]; cases l with
    | nil => simp at h
    | cons a l => simp [mxK]
  · exact mxK_succ q h
theorem mK_0 {l : List Int} (h : 0 < l.length) : mnK l 0 = l[0] ∧ mxK l 0 = l[0] := by
  cases l with
  | nil => simp at h
  | cons a l => simp [mnK, mxK]
theorem rjoints_pure {r : Rg} (gB : RgB r) {h : Nat} (hhl : h < r.hides.length) {f : List Int} (hf : f.length = r.kinds.length) (hfd : fdOK r f = true) (hma : may r h f = true) : APure Tryz.prog 47 [rgA r, I h, ints f] (ints (jointsOf r h f)) := by
  refine ap Tryz.func47 (fun e0 he0 => ?_)
  refine wz 5 ?_
  refine kz az (rfitting_pure gB hhl hf hfd) ?_
  refine vz 3 ?_
  refine sq_nil ?_
  refine aw_block ?_
  refine aw_sub (sub_token 8 1 jz) ?_
  refine aw_loopk (ι := { k : Nat // k ≤ f.length }) [1, 2, 3, 7] (fun i => [(9, I i.1), (8, .own 1 1 ((jntK r h f i.1).map fun x => [I x]))]) (fun H i => H.set 1 (.tok ((jntK r h f i.1).map fun x => [I x]).length)) (fun i => f.length - i.1) (⟨0, Nat.zero_le _⟩) ⟨jz, jz, jz, jz, jz, jz, trivial⟩ rfl ?_
  rintro ⟨m, hm⟩
  refine nz ?_
  have hwl := jntK_len r h f m
  have hnk := gB.nk
  refine wz 4 ?_
  refine iz (fun c_20 c_20' => ?_) (fun c_20 c_20' => ?_)
  ·have hml : m < r.kinds.length := by omega
   have hne : 0 < (fit r h f).length := by have := fit_ne gB hma; omega
   refine wz 2 ?_
   refine aw_loopk (ι := { j : Nat // j ≤ (fit r h f).length }) [1, 2, 3, 7, 8, 9] (fun q => [(10, I (cntK r h f m q.1)), (11, I q.1)]) (fun H q => H) (fun q => (fit r h f).length - q.1) (⟨0, Nat.zero_le _⟩) ⟨jz, jz, jz, jz, jz, jz, jz, jz, trivial⟩ rfl ?_
   rintro ⟨j, hj⟩
   refine nz ?_
   have hcl := cntK_le r h f m j
   have hfl := fit_len gB h f
   refine wz 4 ?_
   refine iz (fun c_26 c_26' => ?_) (fun c_26 c_26' => ?_)
   ·have hjl : j < (fit r h f).length := by omega
    refine wz 0 ?_
    refine aw_drawc [] [] _ mo (by kernel_rfl) (HSub.refl _) ?_
    first | refine dc_ev rfl (ev_load_agg jz rfl ty27.h rfl) ?_ | refine dc_ev rfl (ev_load_agg_i jz ty27.h (by exact Nat.le_of_ble_eq_true rfl)) ?_
    refine dc_ev rfl (ev_mv (v := .raw _) jz) ?_
    first | refine dc_ev rfl (ev_mv (v := .sl _ _) jz) ?_ | refine dc_ev rfl (ev_mv (v := .own _ _ _) jz) ?_ | refine dc_ev rfl (ev_mv (v := .raw _) jz) ?_ | refine dc_ev rfl (ev_mv (v := .slx _ _) jz) ?_ | refine dc_ev rfl (ev_mv (v := .msl _ _ _ _) jz) ?_
    refine dc_ev rfl (ev_mv (v := .raw _) jz) ?_
    first | refine dc_ev rfl (ev_mv (v := .sl _ _) jz) ?_ | refine dc_ev rfl (ev_mv (v := .own _ _ _) jz) ?_ | refine dc_ev rfl (ev_mv (v := .raw _) jz) ?_ | refine dc_ev rfl (ev_mv (v := .slx _ _) jz) ?_ | refine dc_ev rfl (ev_mv (v := .msl _ _ _ _) jz) ?_
    refine dc_ev rfl (ev_mv (v := .raw _) jz) ?_
    refine dc_ev rfl (ev_index_map (k := j) (xs := fit r h f) sl136.h jz jz rfl hjl) ?_
    first | refine dc_ev rfl (ev_load_agg jz rfl ty30.h rfl) ?_ | refine dc_ev rfl (ev_load_agg_i jz ty30.h (by exact Nat.le_of_ble_eq_true rfl)) ?_
    refine dc_ev rfl (ev_call en105.h jz (rchanged_pure gB hhl hml (rates_bd gB (fit_rt gB hjl)) hf hfd) ⟨jz, jz, jz, jz, jz, trivial⟩) ?_
    refine dc_nil ?_
    refine iz (fun c_37 c_37' => ?_) (fun c_37 c_37' => ?_)
    ·have eC : cntK r h f m (j + 1) = cntK r h f m j + 1 := by rw [cntK_succ hjl]; unfold chgM; rw [if_pos c_37]
     refine wz 6 ?_
     exact ⟨⟨j + 1, by omega⟩, by simp only; omega, Sub.slots ⟨Less.eq (by rw [eC] <;> rfl), jz, jz, jz, jz, jz, jz, jz, trivial⟩⟩
    have eC : cntK r h f m (j + 1) = cntK r h f m j := by rw [cntK_succ hjl]; unfold chgM; rw [if_neg (by rw [c_37]; simp)]; rfl
    refine wz 3 ?_
    exact ⟨⟨j + 1, by omega⟩, by simp only; omega, Sub.slots ⟨Less.eq (by rw [eC] <;> rfl), jz, jz, jz, jz, jz, jz, jz, trivial⟩⟩
   obtain rfl : j = (fit r h f).length := by omega
   have hcm : cntK r h f m (fit r h f).length = manyM r h f m := by unfold cntK manyM; rw [List.take_length]
   refine wz 3 ?_
   refine iz (fun c_41 c_41' => ?_) (fun c_41 c_41' => ?_)
   ·have hz : manyM r h f m = 0 := by omega
    refine wz 5 ?_
    refine iz (fun c_45 c_45' => ?_) (fun c_45 c_45' => ?_)
    ·have hwd : jointW r h f m = 3 := by first | (unfold jointW; rw [if_neg hz, if_pos (by omega)]) | (exfalso; omega)
     have eS : ((jntK r h f (m + 1))).map (fun x => [I x]) = ((jntK r h f m)).map (fun x => [I x]) ++ [[I (jointW r h f m)]] := by unfold jntK; rw [jointK_succ, List.map_append]; rfl
     rw [hwd] at eS
     refine wz 3 ?_
     refine sq_ev rfl (ev_buildSlice (es := [[_]]) sf54.h rfl rfl rfl rfl) ?_
     first | refine sq_append rfl sf54.h Tryz.underlying54 rfl rfl jz (Nat.succ_pos _) (by simp; omega) (by simp; omega) ?_ | refine sq_append rfl sf54.h Tryz.underlying54 rfl rfl (less_slx _ _) (Nat.succ_pos _) (by simp; omega) (by simp; omega) ?_
     refine wz 4 ?_
     exact ⟨⟨m + 1, by omega⟩, by simp only; omega, sb 2 ⟨jz, Less.eq (by rw [eS] <;> rfl), jz, jz, jz, jz, trivial⟩ (hH := (congrArg (fun n => [_, AObj.tok n]) (congrArg List.length eS.symm)))⟩
    have hwd : jointW r h f m = if manyM r h f m = 0 then 1 else 2 := by unfold jointW; rw [if_neg (show ¬ manyM r h f m = (fit r h f).length by omega)]
    first | rw [if_pos hz] at hwd | rw [if_neg hz] at hwd
    have eS : ((jntK r h f (m + 1))).map (fun x => [I x]) = ((jntK r h f m)).map (fun x => [I x]) ++ [[I (jointW r h f m)]] := by unfold jntK; rw [jointK_succ, List.map_append]; rfl
    rw [hwd] at eS
    refine wz 2 ?_
    refine sq_ev rfl (ev_buildSlice (es := [[_]]) sf54.h rfl rfl rfl rfl) ?_
    first | refine sq_append rfl sf54.h Tryz.underlying54 rfl rfl jz (Nat.succ_pos _) (by simp; omega) (by simp; omega) ?_ | refine sq_append rfl sf54.h Tryz.underlying54 rfl rfl (less_slx _ _) (Nat.succ_pos _) (by simp; omega) (by simp; omega) ?_
    refine wz 4 ?_
    exact ⟨⟨m + 1, by omega⟩, by simp only; omega, sb 2 ⟨jz, Less.eq (by rw [eS] <;> rfl), jz, jz, jz, jz, trivial⟩ (hH := (congrArg (fun n => [_, AObj.tok n]) (congrArg List.length eS.symm)))⟩
   have hz : manyM r h f m ≠ 0 := by omega
   refine wz 4 ?_
   refine iz (fun c_45 c_45' => ?_) (fun c_45 c_45' => ?_)
   ·have hwd : jointW r h f m = 3 := by first | (unfold jointW; rw [if_neg hz, if_pos (by omega)]) | (exfalso; omega)
    have eS : ((jntK r h f (m + 1))).map (fun x => [I x]) = ((jntK r h f m)).map (fun x => [I x]) ++ [[I (jointW r h f m)]] := by unfold jntK; rw [jointK_succ, List.map_append]; rfl
    rw [hwd] at eS
    refine wz 3 ?_
    refine sq_ev rfl (ev_buildSlice (es := [[_]]) sf54.h rfl rfl rfl rfl) ?_
    first | refine sq_append rfl sf54.h Tryz.underlying54 rfl rfl jz (Nat.succ_pos _) (by simp; omega) (by simp; omega) ?_ | refine sq_append rfl sf54.h Tryz.underlying54 rfl rfl (less_slx _ _) (Nat.succ_pos _) (by simp; omega) (by simp; omega) ?_
    refine wz 4 ?_
    exact ⟨⟨m + 1, by omega⟩, by simp only; omega, sb 2 ⟨jz, Less.eq (by rw [eS] <;> rfl), jz, jz, jz, jz, trivial⟩ (hH := (congrArg (fun n => [_, AObj.tok n]) (congrArg List.length eS.symm)))⟩
   have hwd : jointW r h f m = if manyM r h f m = 0 then 1 else 2 := by unfold jointW; rw [if_neg (show ¬ manyM r h f m = (fit r h f).length by omega)]
   first | rw [if_pos hz] at hwd | rw [if_neg hz] at hwd
   have eS : ((jntK r h f (m + 1))).map (fun x => [I x]) = ((jntK r h f m)).map (fun x => [I x]) ++ [[I (jointW r h f m)]] := by unfold jntK; rw [jointK_succ, List.map_append]; rfl
   rw [hwd] at eS
   refine wz 2 ?_
   refine sq_ev rfl (ev_buildSlice (es := [[_]]) sf54.h rfl rfl rfl rfl) ?_
   first | refine sq_append rfl sf54.h Tryz.underlying54 rfl rfl jz (Nat.succ_pos _) (by simp; omega) (by simp; omega) ?_ | refine sq_append rfl sf54.h Tryz.underlying54 rfl rfl (less_slx _ _) (Nat.succ_pos _) (by simp; omega) (by simp; omega) ?_
   refine wz 4 ?_
   exact ⟨⟨m + 1, by omega⟩, by simp only; omega, sb 2 ⟨jz, Less.eq (by rw [eS] <;> rfl), jz, jz, jz, jz, trivial⟩ (hH := (congrArg (fun n => [_, AObj.tok n]) (congrArg List.length eS.symm)))⟩
  obtain rfl : m = f.length := by omega
  refine wz 2 ?_
  exact retQ_pure (v := .own _ _ _) rfl rfl (Less.trans (less_own _ _ _) (Less.eq (by unfold jntK jointsOf; rw [hf])))
theorem rrates_pure {r : Rg} (gB : RgB r) {h : Nat} (hhl : h < r.hides.length) {f : List Int} (hf : f.length = r.kinds.length) (hfd : fdOK r f = true) (hma : may r h f = true) : APure Tryz.prog 46 [rgA r, I h, ints f] (.tup [.agg [I (rates4 r h f).1.1, I (rates4 r h f).1.2], .agg [I (rates4 r h f).2.1, I (rates4 r h f).2.2]]) := by
  refine ap Tryz.func46 (fun e0 he0 => ?_)
  refine wz 6 ?_
  refine kz az (rfitting_pure gB hhl hf hfd) ?_
  refine vz 1 ?_
  refine sq_nil ?_
  refine aw_seq ?_
  have hne : 0 < (fit r h f).length := by have := fit_ne gB hma; omega
  have hfl := fit_len gB h f
  refine aw_drawc [18, 19] [20, 21] _ mo (by kernel_rfl) (HSub.mask [3, 4] 0 _) ?_
  first | refine dc_ev rfl (ev_mv (v := .sl _ _) jz) ?_ | refine dc_ev rfl (ev_mv (v := .own _ _ _) jz) ?_ | refine dc_ev rfl (ev_mv (v := .raw _) jz) ?_ | refine dc_ev rfl (ev_mv (v := .slx _ _) jz) ?_ | refine dc_ev rfl (ev_mv (v := .msl _ _ _ _) jz) ?_
  first | refine dc_ev rfl (ev_index_map (k := 0) (xs := fit r h f) sl136.h jz jz rfl hne) ?_ | refine dc_ev0 rfl (by kernel_rfl) (ev_index_map (k := 0) (xs := fit r h f) sl136.h jz jz rfl hne) ?_
  first | refine dc_ev rfl (ev_fieldAddr fo30_0.h jz) ?_ | refine dc_ev rfl (ev_fieldAddr_i fo30_0.h jz) ?_
  first | refine dc_ev rfl (ev_load jz rfl ty3.h rfl) ?_ | refine dc_ev rfl (ev_load_i jz ty3.h rfl) ?_
  first | refine dc_ev rfl (ev_mv (v := .sl _ _) jz) ?_ | refine dc_ev rfl (ev_mv (v := .own _ _ _) jz) ?_ | refine dc_ev rfl (ev_mv (v := .raw _) jz) ?_ | refine dc_ev rfl (ev_mv (v := .slx _ _) jz) ?_ | refine dc_ev rfl (ev_mv (v := .msl _ _ _ _) jz) ?_
  first | refine dc_ev rfl (ev_index_map (k := 0) (xs := fit r h f) sl136.h jz jz rfl hne) ?_ | refine dc_ev0 rfl (by kernel_rfl) (ev_index_map (k := 0) (xs := fit r h f) sl136.h jz jz rfl hne) ?_
  first | refine dc_ev rfl (ev_fieldAddr fo30_0.h jz) ?_ | refine dc_ev rfl (ev_fieldAddr_i fo30_0.h jz) ?_
  first | refine dc_ev rfl (ev_load jz rfl ty3.h rfl) ?_ | refine dc_ev rfl (ev_load_i jz ty3.h rfl) ?_
  refine dc_ev rfl (ev_build bi25.h rfl) ?_
  first | refine dc_ev rfl (ev_mv (v := .sl _ _) jz) ?_ | refine dc_ev rfl (ev_mv (v := .own _ _ _) jz) ?_ | refine dc_ev rfl (ev_mv (v := .raw _) jz) ?_ | refine dc_ev rfl (ev_mv (v := .slx _ _) jz) ?_ | refine dc_ev rfl (ev_mv (v := .msl _ _ _ _) jz) ?_
  first | refine dc_ev rfl (ev_index_map (k := 0) (xs := fit r h f) sl136.h jz jz rfl hne) ?_ | refine dc_ev0 rfl (by kernel_rfl) (ev_index_map (k := 0) (xs := fit r h f) sl136.h jz jz rfl hne) ?_
  first | refine dc_ev rfl (ev_fieldAddr fo30_1.h jz) ?_ | refine dc_ev rfl (ev_fieldAddr_i fo30_1.h jz) ?_
  first | refine dc_ev rfl (ev_load jz rfl ty3.h rfl) ?_ | refine dc_ev rfl (ev_load_i jz ty3.h rfl) ?_
  first | refine dc_ev rfl (ev_mv (v := .sl _ _) jz) ?_ | refine dc_ev rfl (ev_mv (v := .own _ _ _) jz) ?_ | refine dc_ev rfl (ev_mv (v := .raw _) jz) ?_ | refine dc_ev rfl (ev_mv (v := .slx _ _) jz) ?_ | refine dc_ev rfl (ev_mv (v := .msl _ _ _ _) jz) ?_
  first | refine dc_ev rfl (ev_index_map (k := 0) (xs := fit r h f) sl136.h jz jz rfl hne) ?_ | refine dc_ev0 rfl (by kernel_rfl) (ev_index_map (k := 0) (xs := fit r h f) sl136.h jz jz rfl hne) ?_
  first | refine dc_ev rfl (ev_fieldAddr fo30_1.h jz) ?_ | refine dc_ev rfl (ev_fieldAddr_i fo30_1.h jz) ?_
  first | refine dc_ev rfl (ev_load jz rfl ty3.h rfl) ?_ | refine dc_ev rfl (ev_load_i jz ty3.h rfl) ?_
  refine dc_ev rfl (ev_build bi25.h rfl) ?_
  refine dc_alloc rfl rfl z25.h ?_
  refine dc_alloc rfl rfl z25.h ?_
  refine dc_eff rfl rfl (eff_store rfl jz jz rfl rfl ty25.h rfl rfl) (by apply HL.sub; repeat' (first | exact HL.nil _ | apply HL.same | apply HL.tok)) ?_
  refine dc_eff rfl rfl (eff_store rfl jz jz rfl rfl ty25.h rfl rfl) (by apply HL.sub; repeat' (first | exact HL.nil _ | apply HL.same | apply HL.tok)) ?_
  refine dc_nil ?_
  refine wz 1 ?_
  refine aw_loopk (ι := { k : Nat // k ≤ (fit r h f).length }) [6, 7, 8, 9, 10] (fun i => [(11, I i.1)]) (fun H i => (H.set 3 (.cells [I (mnK ((fit r h f).map Rt.a) i.1), I (mxK ((fit r h f).map Rt.a) i.1)])).set 4 (.cells [I (mnK ((fit r h f).map Rt.b) i.1), I (mxK ((fit r h f).map Rt.b) i.1)])) (fun i => (fit r h f).length - i.1) (⟨0, Nat.zero_le _⟩) ⟨jz, jz, jz, jz, jz, jz, trivial⟩ (by rw [(mK_0 (l := ((fit r h f).map Rt.a)) (by simpa using hne)).1, (mK_0 (l := ((fit r h f).map Rt.a)) (by simpa using hne)).2, (mK_0 (l := ((fit r h f).map Rt.b)) (by simpa using hne)).1, (mK_0 (l := ((fit r h f).map Rt.b)) (by simpa using hne)).2]; simp; rfl) ?_
  rintro ⟨k, hk⟩
  refine nz ?_
  refine wz 4 ?_
  refine iz (fun c_37 c_37' => ?_) (fun c_37 c_37' => ?_)
  ·have hkl : k < (fit r h f).length := by omega
   have e1 : mnK ((fit r h f).map Rt.a) (k + 1) = min (mnK ((fit r h f).map Rt.a) k) ((fit r h f)[k]).a := by rw [mnK_s (by simpa using hkl), List.getElem_map]
   have e2 : mxK ((fit r h f).map Rt.a) (k + 1) = max (mxK ((fit r h f).map Rt.a) k) ((fit r h f)[k]).a := by rw [mxK_s (by simpa using hkl), List.getElem_map]
   have e3 : mnK ((fit r h f).map Rt.b) (k + 1) = min (mnK ((fit r h f).map Rt.b) k) ((fit r h f)[k]).b := by rw [mnK_s (by simpa using hkl), List.getElem_map]
   have e4 : mxK ((fit r h f).map Rt.b) (k + 1) = max (mxK ((fit r h f).map Rt.b) k) ((fit r h f)[k]).b := by rw [mxK_s (by simpa using hkl), List.getElem_map]
   refine wz 0 ?_
   refine aw_drawc [] [17] _ mo (by kernel_rfl) (HSub.mask [3] 0 _) ?_
   first | refine dc_ev rfl (ev_fieldAddr fo25_0.h jz) ?_ | refine dc_ev rfl (ev_fieldAddr_i fo25_0.h jz) ?_
   refine dc_ev0 rfl (by kernel_rfl) (ev_load jz rfl ty3.h rfl) ?_
   first | refine dc_ev rfl (ev_mv (v := .sl _ _) jz) ?_ | refine dc_ev rfl (ev_mv (v := .own _ _ _) jz) ?_ | refine dc_ev rfl (ev_mv (v := .raw _) jz) ?_ | refine dc_ev rfl (ev_mv (v := .slx _ _) jz) ?_ | refine dc_ev rfl (ev_mv (v := .msl _ _ _ _) jz) ?_
   refine dc_ev rfl (ev_mv (v := .raw _) jz) ?_
   first | refine dc_ev rfl (ev_index_map (k := k) (xs := fit r h f) sl136.h jz jz rfl hkl) ?_ | refine dc_ev0 rfl (by kernel_rfl) (ev_index_map (k := k) (xs := fit r h f) sl136.h jz jz rfl hkl) ?_
   first | refine dc_ev rfl (ev_fieldAddr fo30_0.h jz) ?_ | refine dc_ev rfl (ev_fieldAddr_i fo30_0.h jz) ?_
   first | refine dc_ev rfl (ev_load jz rfl ty3.h rfl) ?_ | refine dc_ev rfl (ev_load_i jz ty3.h rfl) ?_
   refine dc_ev rfl (ev_min2 jz jz) ?_
   first | refine dc_ev rfl (ev_fieldAddr fo25_1.h jz) ?_ | refine dc_ev rfl (ev_fieldAddr_i fo25_1.h jz) ?_
   refine dc_ev0 rfl (by kernel_rfl) (ev_load jz rfl ty3.h rfl) ?_
   first | refine dc_ev rfl (ev_mv (v := .sl _ _) jz) ?_ | refine dc_ev rfl (ev_mv (v := .own _ _ _) jz) ?_ | refine dc_ev rfl (ev_mv (v := .raw _) jz) ?_ | refine dc_ev rfl (ev_mv (v := .slx _ _) jz) ?_ | refine dc_ev rfl (ev_mv (v := .msl _ _ _ _) jz) ?_
   refine dc_ev rfl (ev_mv (v := .raw _) jz) ?_
   first | refine dc_ev rfl (ev_index_map (k := k) (xs := fit r h f) sl136.h jz jz rfl hkl) ?_ | refine dc_ev0 rfl (by kernel_rfl) (ev_index_map (k := k) (xs := fit r h f) sl136.h jz jz rfl hkl) ?_
   first | refine dc_ev rfl (ev_fieldAddr fo30_0.h jz) ?_ | refine dc_ev rfl (ev_fieldAddr_i fo30_0.h jz) ?_
   first | refine dc_ev rfl (ev_load jz rfl ty3.h rfl) ?_ | refine dc_ev rfl (ev_load_i jz ty3.h rfl) ?_
   refine dc_ev rfl (ev_max2 jz jz) ?_
   refine dc_ev rfl (ev_build bi25.h rfl) ?_
   refine dc_eff rfl rfl (eff_store rfl jz jz rfl rfl ty25.h rfl rfl) (by apply HL.sub; repeat' (first | exact HL.nil _ | apply HL.same | apply HL.tok)) ?_
   refine dc_nil ?_
   refine aw_drawc [] [17] _ mo (by kernel_rfl) (HSub.mask [4] 0 _) ?_
   first | refine dc_ev rfl (ev_fieldAddr fo25_0.h jz) ?_ | refine dc_ev rfl (ev_fieldAddr_i fo25_0.h jz) ?_
   refine dc_ev0 rfl (by kernel_rfl) (ev_load jz rfl ty3.h rfl) ?_
   first | refine dc_ev rfl (ev_mv (v := .sl _ _) jz) ?_ | refine dc_ev rfl (ev_mv (v := .own _ _ _) jz) ?_ | refine dc_ev rfl (ev_mv (v := .raw _) jz) ?_ | refine dc_ev rfl (ev_mv (v := .slx _ _) jz) ?_ | refine dc_ev rfl (ev_mv (v := .msl _ _ _ _) jz) ?_
   refine dc_ev rfl (ev_mv (v := .raw _) jz) ?_
   first | refine dc_ev rfl (ev_index_map (k := k) (xs := fit r h f) sl136.h jz jz rfl hkl) ?_ | refine dc_ev0 rfl (by kernel_rfl) (ev_index_map (k := k) (xs := fit r h f) sl136.h jz jz rfl hkl) ?_
   first | refine dc_ev rfl (ev_fieldAddr fo30_1.h jz) ?_ | refine dc_ev rfl (ev_fieldAddr_i fo30_1.h jz) ?_
   first | refine dc_ev rfl (ev_load jz rfl ty3.h rfl) ?_ | refine dc_ev rfl (ev_load_i jz ty3.h rfl) ?_
   refine dc_ev rfl (ev_min2 jz jz) ?_
   first | refine dc_ev rfl (ev_fieldAddr fo25_1.h jz) ?_ | refine dc_ev rfl (ev_fieldAddr_i fo25_1.h jz) ?_
   refine dc_ev0 rfl (by kernel_rfl) (ev_load jz rfl ty3.h rfl) ?_
   first | refine dc_ev rfl (ev_mv (v := .sl _ _) jz) ?_ | refine dc_ev rfl (ev_mv (v := .own _ _ _) jz) ?_ | refine dc_ev rfl (ev_mv (v := .raw _) jz) ?_ | refine dc_ev rfl (ev_mv (v := .slx _ _) jz) ?_ | refine dc_ev rfl (ev_mv (v := .msl _ _ _ _) jz) ?_
   refine dc_ev rfl (ev_mv (v := .raw _) jz) ?_
   first | refine dc_ev rfl (ev_index_map (k := k) (xs := fit r h f) sl136.h jz jz rfl hkl) ?_ | refine dc_ev0 rfl (by kernel_rfl) (ev_index_map (k := k) (xs := fit r h f) sl136.h jz jz rfl hkl) ?_
   first | refine dc_ev rfl (ev_fieldAddr fo30_1.h jz) ?_ | refine dc_ev rfl (ev_fieldAddr_i fo30_1.h jz) ?_
   first | refine dc_ev rfl (ev_load jz rfl ty3.h rfl) ?_ | refine dc_ev rfl (ev_load_i jz ty3.h rfl) ?_
   refine dc_ev rfl (ev_max2 jz jz) ?_
   refine dc_ev rfl (ev_build bi25.h rfl) ?_
   refine dc_eff rfl rfl (eff_store rfl jz jz rfl rfl ty25.h rfl rfl) (by apply HL.sub; repeat' (first | exact HL.nil _ | apply HL.same | apply HL.tok)) ?_
   refine dc_nil ?_
   refine wz 3 ?_
   exact ⟨⟨k + 1, by omega⟩, by simp only; omega, sb 5 ⟨jz, jz, jz, jz, jz, jz, trivial⟩ (hH := (by rw [e1, e2, e3, e4] <;> rfl))⟩
  obtain rfl : k = (fit r h f).length := by omega
  have a1 : mnK ((fit r h f).map Rt.a) (fit r h f).length = mnL ((fit r h f).map Rt.a) := by have := mnK_all ((fit r h f).map Rt.a); rwa [List.length_map] at this
  have a2 : mxK ((fit r h f).map Rt.a) (fit r h f).length = mxL ((fit r h f).map Rt.a) := by have := mxK_all ((fit r h f).map Rt.a); rwa [List.length_map] at this
  have a3 : mnK ((fit r h f).map Rt.b) (fit r h f).length = mnL ((fit r h f).map Rt.b) := by have := mnK_all ((fit r h f).map Rt.b); rwa [List.length_map] at this
  have a4 : mxK ((fit r h f).map Rt.b) (fit r h f).length = mxL ((fit r h f).map Rt.b) := by have := mxK_all ((fit r h f).map Rt.b); rwa [List.length_map] at this
  refine wz 0 ?_
  refine aw_drawc [] [2, 3] _ mo (by kernel_rfl) (HSub.mask [1, 2] 0 _) ?_
  first | refine dc_ev rfl (ev_load_agg jz rfl ty25.h rfl) ?_ | refine dc_ev rfl (ev_load_agg_i jz ty25.h (by exact Nat.le_of_ble_eq_true rfl)) ?_
  first | refine dc_ev rfl (ev_load_agg jz rfl ty25.h rfl) ?_ | refine dc_ev rfl (ev_load_agg_i jz ty25.h (by exact Nat.le_of_ble_eq_true rfl)) ?_
  refine dc_eff rfl rfl (eff_store rfl jz jz rfl rfl ty25.h rfl rfl) (by apply HL.sub; repeat' (first | exact HL.nil _ | apply HL.same | apply HL.tok)) ?_
  refine dc_eff rfl rfl (eff_store rfl jz jz rfl rfl ty25.h rfl rfl) (by apply HL.sub; repeat' (first | exact HL.nil _ | apply HL.same | apply HL.tok)) ?_
  refine dc_nil ?_
  refine wz 0 ?_
  exact retQ_res (vs := [.agg _, .agg _]) rfl rfl ⟨resVar_cell rfl rfl ty25.h rfl, resVar_cell rfl rfl ty25.h rfl, trivial⟩ (less_tup ⟨Less.eq (by rw [a1, a2] <;> rfl), Less.eq (by rw [a3, a4] <;> rfl), trivial⟩)
end Go.Proofs.YtjpokekbjmdgmaaGreatDoor
namespace Go.Proofs.YtjpokekbjmdgmaaGreatDoor
open Go Go.Ab Ni Hd
instance en49 : EnT Tryz.prog 49 := ⟨Ent.of Tryz.func49 (by kernel_rfl) rfl⟩
theorem warpOf_get {r : Rg} {h m : Nat} {x : Rt} (hm : m < r.kinds.length) (hw : m < (warpOf r h x).length) : (warpOf r h x)[m] = (lom r h m x, him r h m x) := by
  simp [warpOf, warpK, lom, him]
theorem rexp_pure {r : Rg} (gB : RgB r) {h : Nat} (hhl : h < r.hides.length) {f : List Int} (hf : f.length = r.kinds.length) (hfd : fdOK r f = true) (hma : may r h f = true) {m : Nat} (hml : m < r.kinds.length) : APure Tryz.prog 49 [rgA r, I h, ints f, I m] (.agg [I (expOf r h f m).1, I (expOf r h f m).2]) := by
  refine ap Tryz.func49 (fun e0 he0 => ?_)
  refine wz 5 ?_
  refine kz az (rfitting_pure gB hhl hf hfd) ?_
  refine vz 1 ?_
  refine sq_nil ?_
  refine aw_seq ?_
  have hne : 0 < (fit r h f).length := by have := fit_ne gB hma; omega
  have hfl := fit_len gB h f
  have hw0 := warpOf_get (h := h) (x := (fit r h f)[0]) hml (by rw [warp_len]; exact hml)
  refine aw_drawc [9] [10] _ mo (by kernel_rfl) (HSub.mask [2] 0 _) ?_
  first | refine dc_ev rfl (ev_load_agg jz rfl ty27.h rfl) ?_ | refine dc_ev rfl (ev_load_agg_i jz ty27.h (by exact Nat.le_of_ble_eq_true rfl)) ?_
  refine dc_ev rfl (ev_mv (v := .raw _) jz) ?_
  first | refine dc_ev rfl (ev_mv (v := .sl _ _) jz) ?_ | refine dc_ev rfl (ev_mv (v := .own _ _ _) jz) ?_ | refine dc_ev rfl (ev_mv (v := .raw _) jz) ?_ | refine dc_ev rfl (ev_mv (v := .slx _ _) jz) ?_ | refine dc_ev rfl (ev_mv (v := .msl _ _ _ _) jz) ?_
  refine dc_ev rfl (ev_index_map (k := 0) (xs := fit r h f) sl136.h jz jz rfl hne) ?_
  first | refine dc_ev rfl (ev_load_agg jz rfl ty30.h rfl) ?_ | refine dc_ev rfl (ev_load_agg_i jz ty30.h (by exact Nat.le_of_ble_eq_true rfl)) ?_
  refine dc_ev rfl (ev_call en59.h jz (rwarped_pure gB hhl (rates_bd gB (fit_rt gB hne))) ⟨jz, jz, jz, trivial⟩) ?_
  refine dc_ev rfl (ev_mv (v := .raw _) jz) ?_
  refine dc_ev rfl (ev_index_map (k := m) (xs := warpOf r h (fit r h f)[0]) sl36.h jz jz rfl (by rw [warp_len]; exact hml)) ?_
  first | refine dc_ev rfl (ev_load_agg jz rfl ty25.h rfl) ?_ | refine dc_ev rfl (ev_load_agg_i jz ty25.h (by exact Nat.le_of_ble_eq_true rfl)) ?_
  refine dc_alloc rfl rfl z25.h ?_
  refine dc_eff rfl rfl (eff_store rfl jz jz rfl rfl ty25.h rfl rfl) (by apply HL.sub; repeat' (first | exact HL.nil _ | apply HL.same | apply HL.tok)) ?_
  refine dc_nil ?_
  refine wz 1 ?_
  refine aw_loopk (ι := { k : Nat // k ≤ (fit r h f).length }) [1, 3, 4, 8, 9, 10] (fun i => [(11, I i.1)]) (fun H i => H.set 2 (.cells [I (mnK ((fit r h f).map (lom r h m)) i.1), I (mxK ((fit r h f).map (him r h m)) i.1)])) (fun i => (fit r h f).length - i.1) (⟨0, Nat.zero_le _⟩) ⟨jz, jz, jz, jz, jz, jz, jz, trivial⟩ (by rw [(mK_0 (l := ((fit r h f).map (lom r h m))) (by simpa using hne)).1, (mK_0 (l := ((fit r h f).map (him r h m))) (by simpa using hne)).2, List.getElem_map, List.getElem_map, hw0]; rfl) ?_
  rintro ⟨k, hk⟩
  refine nz ?_
  refine wz 4 ?_
  refine iz (fun c_29 c_29' => ?_) (fun c_29 c_29' => ?_)
  ·have hkl : k < (fit r h f).length := by omega
   have hwk := warpOf_get (h := h) (x := (fit r h f)[k]) hml (by rw [warp_len]; exact hml)
   have e1 : mnK ((fit r h f).map (lom r h m)) (k + 1) = min (mnK ((fit r h f).map (lom r h m)) k) (lom r h m (fit r h f)[k]) := by rw [mnK_s (by simpa using hkl), List.getElem_map]
   have e2 : mxK ((fit r h f).map (him r h m)) (k + 1) = max (mxK ((fit r h f).map (him r h m)) k) (him r h m (fit r h f)[k]) := by rw [mxK_s (by simpa using hkl), List.getElem_map]
   refine wz 0 ?_
   refine aw_drawc [10] [11] _ mo (by kernel_rfl) (HSub.mask [3] 0 _) ?_
   first | refine dc_ev rfl (ev_load_agg jz rfl ty27.h rfl) ?_ | refine dc_ev rfl (ev_load_agg_i jz ty27.h (by exact Nat.le_of_ble_eq_true rfl)) ?_
   refine dc_ev rfl (ev_mv (v := .raw _) jz) ?_
   first | refine dc_ev rfl (ev_mv (v := .sl _ _) jz) ?_ | refine dc_ev rfl (ev_mv (v := .own _ _ _) jz) ?_ | refine dc_ev rfl (ev_mv (v := .raw _) jz) ?_ | refine dc_ev rfl (ev_mv (v := .slx _ _) jz) ?_ | refine dc_ev rfl (ev_mv (v := .msl _ _ _ _) jz) ?_
   refine dc_ev rfl (ev_mv (v := .raw _) jz) ?_
   refine dc_ev rfl (ev_index_map (k := k) (xs := fit r h f) sl136.h jz jz rfl hkl) ?_
   first | refine dc_ev rfl (ev_load_agg jz rfl ty30.h rfl) ?_ | refine dc_ev rfl (ev_load_agg_i jz ty30.h (by exact Nat.le_of_ble_eq_true rfl)) ?_
   refine dc_ev rfl (ev_call en59.h jz (rwarped_pure gB hhl (rates_bd gB (fit_rt gB hkl))) ⟨jz, jz, jz, trivial⟩) ?_
   refine dc_ev rfl (ev_mv (v := .raw _) jz) ?_
   refine dc_ev rfl (ev_index_map (k := m) (xs := warpOf r h (fit r h f)[k]) sl36.h jz jz rfl (by rw [warp_len]; exact hml)) ?_
   first | refine dc_ev rfl (ev_load_agg jz rfl ty25.h rfl) ?_ | refine dc_ev rfl (ev_load_agg_i jz ty25.h (by exact Nat.le_of_ble_eq_true rfl)) ?_
   refine dc_alloc rfl rfl z25.h ?_
   refine dc_eff rfl rfl (eff_store rfl jz jz rfl rfl ty25.h rfl rfl) (by apply HL.sub; repeat' (first | exact HL.nil _ | apply HL.same | apply HL.tok)) ?_
   refine dc_nil ?_
   refine wz 15 ?_
   exact ⟨⟨k + 1, by omega⟩, by simp only; omega, sb 3 ⟨jz, jz, jz, jz, jz, jz, jz, trivial⟩ (hH := (by rw [e1, e2, hwk] <;> rfl))⟩
  obtain rfl : k = (fit r h f).length := by omega
  have a1 : mnK ((fit r h f).map (lom r h m)) (fit r h f).length = mnL ((fit r h f).map (lom r h m)) := by have := mnK_all ((fit r h f).map (lom r h m)); rwa [List.length_map] at this
  have a2 : mxK ((fit r h f).map (him r h m)) (fit r h f).length = mxL ((fit r h f).map (him r h m)) := by have := mxK_all ((fit r h f).map (him r h m)); rwa [List.length_map] at this
  refine wz 2 ?_
  exact retQ_res (vs := [.agg _]) rfl rfl ⟨resVar_cell rfl rfl ty25.h rfl, trivial⟩ (Less.eq (by rw [a1, a2] <;> rfl))
theorem fitE_2 {r : Rg} {n : Int} {f : List Int} {b : Bool} (h : okF r n f = false) : fitE r n f b = 2 := by unfold fitE; rw [h]; rfl
theorem fitE_m {r : Rg} {n : Int} {f : List Int} : fitE r n f false = 2 := by unfold fitE; simp
theorem fitE_5 {r : Rg} {h : Nat} {f : List Int} (ho : okF r h f = true) (hm : may r h f = false) : fitE r h f true = 5 := by unfold fitE; rw [ho]; simp [hm]
theorem rt_e {r : Rg} {n : Int} {f : List Int} {e : Int} (hs : shB r = true) (hf : slimB f = true) (h : fitE r n f true = e) (he : e ≠ 0) : APure Tryz.prog 43 [rgA r, I n, ints f] (.tup [.agg [I 0, I 0], .agg [I 0, I 0], I e]) := by
  subst h; exact rates_bad r n f (shB_len hs).1 (shB_len hs).2.1 (shB_len hs).2.2 (slim_len hf) he
theorem jo_e {r : Rg} {n : Int} {f : List Int} {e : Int} (hs : shB r = true) (hf : slimB f = true) (h : fitE r n f true = e) (he : e ≠ 0) : APure Tryz.prog 44 [rgA r, I n, ints f] (.tup [ints [], I e]) := by
  subst h; exact joints_bad r n f (shB_len hs).1 (shB_len hs).2.1 (shB_len hs).2.2 (slim_len hf) he
theorem ex_e {r : Rg} {n : Int} {f : List Int} {mm e : Int} (hs : shB r = true) (hf : slimB f = true) (h : fitE r n f (msIn r mm) = e) (he : e ≠ 0) : APure Tryz.prog 45 [rgA r, I n, ints f, I mm] (.tup [.agg [I 0, I 0], I e]) := by
  subst h; exact expected_bad r n f mm (shB_len hs).1 (shB_len hs).2.1 (shB_len hs).2.2 (slim_len hf) he
theorem ms_b {r : Rg} {mm : Int} (hs : shB r = true) {b : Bool} (h : msIn r mm = b) : APure Tryz.prog 48 [rgA r, I mm] (B b) := by have q := rmeas_pure r mm (shB_len hs).1; rw [h] at q; exact q
theorem joi_len (r : Rg) (h : Nat) (f : List Int) : (jointsOf r h f).length = r.kinds.length := by simp [jointsOf]
end Go.Proofs.YtjpokekbjmdgmaaGreatDoor
namespace Go.Proofs.YtjpokekbjmdgmaaGreatDoor
open Go Go.Ab Ni Hd
theorem law8_a {r : Rg} {n : Int} {f : List Int} {mm : Int} (hs : shB r = false) : APure Tryz.prog 8 [rgA r, I n, ints f, I mm] (B true) := by
  refine ap Tryz.func8 (fun e0 he0 => ?_)
  refine wz 3 ?_
  refine kz az (short_f hs) ?_
  refine wz 7 ?_
  refine kz az (known_pure) ?_
  refine wz 1 ?_
  exact rz rfl jz
theorem law8_b {r : Rg} {n : Int} {f : List Int} {mm : Int} (hs : shB r = true) (hf : slimB f = false) : APure Tryz.prog 8 [rgA r, I n, ints f, I mm] (B true) := by
  refine ap Tryz.func8 (fun e0 he0 => ?_)
  refine wz 3 ?_
  refine kz az (short_t hs) ?_
  refine wz 3 ?_
  refine ky az (slim_f hf) ?_
  refine wz 3 ?_
  refine kz az (known_pure) ?_
  refine wz 1 ?_
  exact rz rfl jz
theorem law8_c {r : Rg} {n : Int} {f : List Int} {mm : Int} (hs : shB r = true) (hf : slimB f = true) (ho : okF r n f = false) : APure Tryz.prog 8 [rgA r, I n, ints f, I mm] (B true) := by
  refine ap Tryz.func8 (fun e0 he0 => ?_)
  refine wz 3 ?_
  refine kz az (short_t hs) ?_
  refine wz 3 ?_
  refine ky az (slim_t hf) ?_
  refine wz 6 ?_
  refine kz az (rt_e hs hf (e := 2) (fitE_2 ho) (by decide)) ?_
  refine wz 12 ?_
  refine kz az (jo_e hs hf (e := 2) (fitE_2 ho) (by decide)) ?_
  refine wz 9 ?_
  refine kz az (ex_e hs hf (e := 2) (fitE_2 ho) (by decide)) ?_
  refine wz 10 ?_
  refine kz az (asked_f hs hf ho) ?_
  refine wz 12 ?_
  refine sq_yes rfl rfl jz rfl (ev_less (ev_neq25 (a := 0) (b := 0) (c := 0) (e := 0) jz jz) (Less.eq (b := B false) (congrArg B (by decide)))) ?_
  refine wz 4 ?_
  refine sq_yes rfl rfl jz rfl (ev_less (ev_neq25 (a := 0) (b := 0) (c := 0) (e := 0) jz jz) (Less.eq (b := B false) (congrArg B (by decide)))) ?_
  refine wz 40 ?_
  refine sq_yes rfl rfl jz rfl (ev_less (ev_eql25 (a := 0) (b := 0) (c := 0) (e := 0) jz jz) (Less.eq (b := B true) (congrArg B (by decide)))) ?_
  refine wz 2 ?_
  refine ky az (known_pure) ?_
  refine wz 2 ?_
  exact rz rfl jz
theorem law8_d {r : Rg} {h : Nat} {f : List Int} {mm : Int} (hs : shB r = true) (hf : slimB f = true) (ho : okF r h f = true) (hhl : h < r.hides.length) (hm : may r h f = false) (hi : msIn r mm = false) : APure Tryz.prog 8 [rgA r, I h, ints f, I mm] (B true) := by
  refine ap Tryz.func8 (fun e0 he0 => ?_)
  refine wz 3 ?_
  refine kz az (short_t hs) ?_
  refine wz 3 ?_
  refine ky az (slim_t hf) ?_
  refine wz 6 ?_
  refine kz az (rt_e hs hf (e := 5) (fitE_5 ho hm) (by decide)) ?_
  refine wz 12 ?_
  refine kz az (jo_e hs hf (e := 5) (fitE_5 ho hm) (by decide)) ?_
  refine wz 9 ?_
  refine kz az (ex_e hs hf (e := 2) (by rw [hi]; exact fitE_m) (by decide)) ?_
  refine wz 10 ?_
  refine kz az (asked_t hs hf ho) ?_
  refine wz 5 ?_
  refine kz az (may_t ho hhl hm) ?_
  refine wz 12 ?_
  refine sq_yes rfl rfl jz rfl (ev_less (ev_neq25 (a := 0) (b := 0) (c := 0) (e := 0) jz jz) (Less.eq (b := B false) (congrArg B (by decide)))) ?_
  refine wz 4 ?_
  refine sq_yes rfl rfl jz rfl (ev_less (ev_neq25 (a := 0) (b := 0) (c := 0) (e := 0) jz jz) (Less.eq (b := B false) (congrArg B (by decide)))) ?_
  refine wz 17 ?_
  refine ky az (ms_b hs hi) ?_
  refine wz 23 ?_
  refine sq_yes rfl rfl jz rfl (ev_less (ev_eql25 (a := 0) (b := 0) (c := 0) (e := 0) jz jz) (Less.eq (b := B true) (congrArg B (by decide)))) ?_
  refine wz 2 ?_
  refine ky az (known_pure) ?_
  refine wz 2 ?_
  exact rz rfl jz
theorem law8_e {r : Rg} {h : Nat} {f : List Int} {mm : Int} (hs : shB r = true) (hf : slimB f = true) (ho : okF r h f = true) (hhl : h < r.hides.length) (hm : may r h f = false) (hi : msIn r mm = true) : APure Tryz.prog 8 [rgA r, I h, ints f, I mm] (B true) := by
  refine ap Tryz.func8 (fun e0 he0 => ?_)
  refine wz 3 ?_
  refine kz az (short_t hs) ?_
  refine wz 3 ?_
  refine ky az (slim_t hf) ?_
  refine wz 6 ?_
  refine kz az (rt_e hs hf (e := 5) (fitE_5 ho hm) (by decide)) ?_
  refine wz 12 ?_
  refine kz az (jo_e hs hf (e := 5) (fitE_5 ho hm) (by decide)) ?_
  refine wz 9 ?_
  refine kz az (ex_e hs hf (e := 5) (by rw [hi]; exact fitE_5 ho hm) (by decide)) ?_
  refine wz 10 ?_
  refine kz az (asked_t hs hf ho) ?_
  refine wz 5 ?_
  refine kz az (may_t ho hhl hm) ?_
  refine wz 12 ?_
  refine sq_yes rfl rfl jz rfl (ev_less (ev_neq25 (a := 0) (b := 0) (c := 0) (e := 0) jz jz) (Less.eq (b := B false) (congrArg B (by decide)))) ?_
  refine wz 4 ?_
  refine sq_yes rfl rfl jz rfl (ev_less (ev_neq25 (a := 0) (b := 0) (c := 0) (e := 0) jz jz) (Less.eq (b := B false) (congrArg B (by decide)))) ?_
  refine wz 17 ?_
  refine ky az (ms_b hs hi) ?_
  refine wz 22 ?_
  refine sq_yes rfl rfl jz rfl (ev_less (ev_eql25 (a := 0) (b := 0) (c := 0) (e := 0) jz jz) (Less.eq (b := B true) (congrArg B (by decide)))) ?_
  refine wz 2 ?_
  refine ky az (known_pure) ?_
  refine wz 2 ?_
  exact rz rfl jz
theorem law8_f {r : Rg} {h : Nat} {f : List Int} {mm : Int} (hs : shB r = true) (hf : slimB f = true) (ho : okF r h f = true) (hhl : h < r.hides.length) (hm : may r h f = true) {p q u v : Int} {jl : List Int} (h43 : APure Tryz.prog 43 [rgA r, I h, ints f] (.tup [.agg [I p, I q], .agg [I u, I v], I 0])) (h46 : APure Tryz.prog 46 [rgA r, I h, ints f] (.tup [.agg [I p, I q], .agg [I u, I v]])) (h44 : APure Tryz.prog 44 [rgA r, I h, ints f] (.tup [ints jl, I 0])) (h47 : APure Tryz.prog 47 [rgA r, I h, ints f] (ints jl)) (hjl : jl.length ≤ 1000000) (hi : msIn r mm = false) : APure Tryz.prog 8 [rgA r, I h, ints f, I mm] (B true) := by
  refine ap Tryz.func8 (fun e0 he0 => ?_)
  refine wz 3 ?_
  refine kz az (short_t hs) ?_
  refine wz 3 ?_
  refine ky az (slim_t hf) ?_
  refine wz 6 ?_
  refine kz az (h43) ?_
  refine wz 12 ?_
  refine kz az (h44) ?_
  refine wz 9 ?_
  refine kz az (ex_e hs hf (e := 2) (by rw [hi]; exact fitE_m) (by decide)) ?_
  refine wz 10 ?_
  refine kz az (asked_t hs hf ho) ?_
  refine wz 5 ?_
  refine kz az (may_t ho hhl hm) ?_
  refine wz 8 ?_
  refine kz az (h46) ?_
  refine vz 7 ?_
  refine sq_nil ?_
  refine aw_seq ?_
  refine nz ?_
  refine wz 5 ?_
  refine sq_yes rfl rfl jz rfl (ev_less (ev_neq25 (a := p) (b := q) (c := p) (e := q) jz jz) (Less.eq (b := B false) (congrArg B (by simp)))) ?_
  refine wz 4 ?_
  refine sq_yes rfl rfl jz rfl (ev_less (ev_neq25 (a := u) (b := v) (c := u) (e := v) jz jz) (Less.eq (b := B false) (congrArg B (by simp)))) ?_
  refine wz 10 ?_
  refine ky az (h47) ?_
  refine ky az (sameW_t hjl hjl rfl) ?_
  refine wz 17 ?_
  refine ky az (ms_b hs hi) ?_
  refine wz 14 ?_
  refine sq_yes rfl rfl jz rfl (ev_less (ev_eql25 (a := 0) (b := 0) (c := 0) (e := 0) jz jz) (Less.eq (b := B true) (congrArg B (by decide)))) ?_
  refine wz 2 ?_
  refine ky az (known_pure) ?_
  refine wz 2 ?_
  exact rz rfl jz
theorem law8_g {r : Rg} {h : Nat} {f : List Int} {m : Nat} (hs : shB r = true) (hf : slimB f = true) (ho : okF r h f = true) (hhl : h < r.hides.length) (hm : may r h f = true) {p q u v : Int} {jl : List Int} (h43 : APure Tryz.prog 43 [rgA r, I h, ints f] (.tup [.agg [I p, I q], .agg [I u, I v], I 0])) (h46 : APure Tryz.prog 46 [rgA r, I h, ints f] (.tup [.agg [I p, I q], .agg [I u, I v]])) (h44 : APure Tryz.prog 44 [rgA r, I h, ints f] (.tup [ints jl, I 0])) (h47 : APure Tryz.prog 47 [rgA r, I h, ints f] (ints jl)) (hjl : jl.length ≤ 1000000) {x y : Int} (h45 : APure Tryz.prog 45 [rgA r, I h, ints f, I m] (.tup [.agg [I x, I y], I 0])) (h49 : APure Tryz.prog 49 [rgA r, I h, ints f, I m] (.agg [I x, I y])) (hi : msIn r m = true) : APure Tryz.prog 8 [rgA r, I h, ints f, I m] (B true) := by
  refine ap Tryz.func8 (fun e0 he0 => ?_)
  refine wz 3 ?_
  refine kz az (short_t hs) ?_
  refine wz 3 ?_
  refine ky az (slim_t hf) ?_
  refine wz 6 ?_
  refine kz az (h43) ?_
  refine wz 12 ?_
  refine kz az (h44) ?_
  refine wz 9 ?_
  refine kz az (h45) ?_
  refine wz 10 ?_
  refine kz az (asked_t hs hf ho) ?_
  refine wz 5 ?_
  refine kz az (may_t ho hhl hm) ?_
  refine wz 8 ?_
  refine kz az (h46) ?_
  refine vz 7 ?_
  refine sq_nil ?_
  refine aw_seq ?_
  refine nz ?_
  refine wz 5 ?_
  refine sq_yes rfl rfl jz rfl (ev_less (ev_neq25 (a := p) (b := q) (c := p) (e := q) jz jz) (Less.eq (b := B false) (congrArg B (by simp)))) ?_
  refine wz 4 ?_
  refine sq_yes rfl rfl jz rfl (ev_less (ev_neq25 (a := u) (b := v) (c := u) (e := v) jz jz) (Less.eq (b := B false) (congrArg B (by simp)))) ?_
  refine wz 10 ?_
  refine ky az (h47) ?_
  refine ky az (sameW_t hjl hjl rfl) ?_
  refine wz 17 ?_
  refine ky az (ms_b hs hi) ?_
  refine vz 7 ?_
  refine aw_skip ?_
  refine aw_seq ?_
  refine nz ?_
  refine aw_draw 15 mo (by kernel_rfl) ?_
  refine dz 8 ?_
  refine dky az (h49) ?_
  refine dr_yes rfl rfl jz rfl (ev_less (ev_eql25 (a := x) (b := y) (c := x) (e := y) jz jz) (Less.eq (b := B true) (congrArg B (by simp)))) ?_
  refine dz 2 ?_
  refine dky az (known_pure) ?_
  refine dz 2 ?_
  refine wz 0 ?_
  exact rz rfl jz
/-- **HideRated.** -/
theorem law8 (r : Rg) (n : Int) (_ : -9223372036854775808 ≤ n) (_ : n ≤ 9223372036854775807) (f : List Int) (mm : Int) (_ : -9223372036854775808 ≤ mm) (_ : mm ≤ 9223372036854775807) : APure Tryz.prog 8 [rgA r, I n, ints f, I mm] (B true) := by
  cases hs : shB r with
  | false => exact law8_a hs
  | true =>
    cases hf : slimB f with
    | false => exact law8_b hs hf
    | true =>
      cases ho : okF r n f with
      | false => exact law8_c hs hf ho
      | true =>
        obtain ⟨_, ⟨h, rfl, hhl⟩, _⟩ := okF_facts ho
        cases hm : may r h f with
        | false =>
          cases hi : msIn r mm with
          | false => exact law8_d hs hf ho hhl hm hi
          | true => exact law8_e hs hf ho hhl hm hi
        | true =>
          cases hi : msIn r mm with
          | false => exact law8_f hs hf ho hhl hm (rates_ok (shB_len hs).1 (shB_len hs).2.1 (shB_len hs).2.2 (slim_len hf) ho hm) (rrates_pure (okF_facts ho).1 hhl (okF_facts ho).2.2.1 (okF_facts ho).2.2.2.2 hm) (joints_ok (shB_len hs).1 (shB_len hs).2.1 (shB_len hs).2.2 (slim_len hf) ho hm) (rjoints_pure (okF_facts ho).1 hhl (okF_facts ho).2.2.1 (okF_facts ho).2.2.2.2 hm) (by rw [joi_len]; exact (shB_len hs).1)  hi
          | true =>
            have hmm := msIn_iff.1 hi
            obtain ⟨m, rfl⟩ : ∃ m : Nat, mm = (m : Int) := ⟨mm.toNat, by omega⟩
            exact law8_g hs hf ho hhl hm (rates_ok (shB_len hs).1 (shB_len hs).2.1 (shB_len hs).2.2 (slim_len hf) ho hm) (rrates_pure (okF_facts ho).1 hhl (okF_facts ho).2.2.1 (okF_facts ho).2.2.2.2 hm) (joints_ok (shB_len hs).1 (shB_len hs).2.1 (shB_len hs).2.2 (slim_len hf) ho hm) (rjoints_pure (okF_facts ho).1 hhl (okF_facts ho).2.2.1 (okF_facts ho).2.2.2.2 hm) (by rw [joi_len]; exact (shB_len hs).1)  (expected_ok (shB_len hs).1 (shB_len hs).2.1 (shB_len hs).2.2 (slim_len hf) ho hm hi) (rexp_pure (okF_facts ho).1 hhl (okF_facts ho).2.2.1 (okF_facts ho).2.2.2.2 hm (by omega)) hi
end Go.Proofs.YtjpokekbjmdgmaaGreatDoor
