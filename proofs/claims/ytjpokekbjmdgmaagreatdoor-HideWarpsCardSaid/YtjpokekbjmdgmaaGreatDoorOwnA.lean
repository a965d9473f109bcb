/-
  A part of the proof: conditions: none beyond each theorem's own.
-/
import Derived.Test.YtjpokekbjmdgmaaGreatDoorLogicA
import Derived.RangeFuncCalls
import Derived.IntWalk
import Derived.Test.YtjpokekbjmdgmaaGreatDoorLogicD
import Derived.Laws.Small
import Derived.Deep.Slices
import Derived.OpenShut
import Derived.Carry
import Derived.Test.YtjpokekbjmdgmaaGreatDoorLogicC
import Derived.Test.YtjpokekbjmdgmaaGreatDoorSpecA
import Derived.Test.YtjpokekbjmdgmaaGreatDoorProg
import Derived.KernelRfl
import Derived.Lib.LaidTab
import Derived.Lib.ItoaNum
import Derived.Test.YtjpokekbjmdgmaaGreatDoorWalkB
import Derived.Test.YtjpokekbjmdgmaaGreatDoorWalkE
import Derived.Test.YtjpokekbjmdgmaaGreatDoorLogicB
import Derived.Test.YtjpokekbjmdgmaaGreatDoorShelf
import Derived.Test.YtjpokekbjmdgmaaGreatDoorWalkA
import Derived.Test.YtjpokekbjmdgmaaGreatDoorWalkC
import Derived.Test.YtjpokekbjmdgmaaGreatDoorWalkD
import Derived.Test.YtjpokekbjmdgmaaGreatDoorRow
set_option linter.all false
set_option maxRecDepth 100000
set_option maxHeartbeats 8000000
namespace Go.Ab
variable [Tabs]
theorem FW_room (r : Option Nat) (n : Nat) : (FW r).room n := fun _ h => by simp [FW] at h
variable {c : Ctx} {Q : AExit → St → Prop} {s : St}
end Go.Ab
namespace Go.Ab
variable [Tabs]
section types
variable {P : Program} {w : World}
end types
section ops
variable {P : Program} {r : Option Nat} {H : List AObj} {ρ : Operand → AV}
variable {d : Option Tmp} {t : TypeId} {p : String} {af : Array Edge} {g : Option (Nat × Bool)}
variable {x y z : Operand}
theorem ev_neg {k : IntKind} {n q : Int} {xt : TypeId} (hx : Less (ρ x) (.raw (.int k n))) (hq : k.wrap (0 - n) = q) : Ev P r ⟨d, .unOp .neg xt x, t, p, af, g⟩ H ρ (.raw (.int k q)) :=
  Ev.pure (by intro c h; cases h) fun e ρc _ _ hs => by
    have e1 := rep_raw hx (hs x (by simp [Op.operands]))
    exact ⟨.int k q, by rw [← hq]; simp [execOp, e1, Op.unary, Op.intArith], by rw [Rep]⟩
end ops
end Go.Ab
namespace Go.Ab
variable [Tabs]
section
variable {P : Program} {r : Option Nat} {H : List AObj} {ρ : Operand → AV}
variable {d : Option Tmp} {t : TypeId} {p : String} {af : Array Edge} {g : Option (Nat × Bool)} {x y : Operand}
theorem ev_bool2 {op : BinOp} {a b : Bool} {xt yt : TypeId} {v : AV} (hx : Less (ρ x) (.raw (.bool a))) (hy : Less (ρ y) (.raw (.bool b)))
    (hr : ∀ w e, ∃ u, (binOp op xt (.bool a) (.bool b)).run P w = .ok u w ∧ Rep e v u) : Ev P r ⟨d, .binOp op xt x y yt, t, p, af, g⟩ H ρ v :=
  Ev.pure (by intro c h; cases h) fun e ρc _ _ hs => by
    have e1 := rep_raw hx (hs x (by simp [Op.operands]))
    have e2 := rep_raw hy (hs y (by simp [Op.operands]))
    obtain ⟨u, h1, h2⟩ := hr e.w e
    refine ⟨u, ?_, h2⟩
    have hg : (eqGuard op xt x y (.bool a) (.bool b)).run P e.w = .ok () e.w := by
      unfold eqGuard; split <;> simp
    simp [execOp, e1, e2, hg, h1]
theorem ev_eqlB {a b : Bool} {xt yt : TypeId} (ht : P.underlying xt = some .bool) (hx : Less (ρ x) (.raw (.bool a))) (hy : Less (ρ y) (.raw (.bool b))) :
    Ev P r ⟨d, .binOp .eql xt x y yt, t, p, af, g⟩ H ρ (.raw (.bool (a == b))) :=
  ev_bool2 hx hy fun w e => ⟨_, run_eql_bool w xt a b ht, by rw [Rep]⟩
end
end Go.Ab
namespace Go.Ab
open Go.ChangeShapes Go.WideShapes
variable [Tabs]
theorem env0_ok {w : World} (h : Tabs.is w) (hb : ∀ b, Tabs.blk b → b < w.heap.size) : EnvOK (env0 w) :=
  ⟨fun b hb => by have hb' : w.heap.size ≤ b := hb
                  have : w.heap[b]? = none := by simpa using hb'
                  simp [env0, this], fun i o h => by simp [env0] at h, fun i j b hi => by simp [env0] at hi, fun i b hi => by simp [env0] at hi, h, fun b hk => ⟨hb b hk, fun i hi => by simp [env0] at hi⟩⟩
section
variable {H : Type} {enc : TypeId × Value → H} {P : Program} {w : World} {base : Nat} {spare : Nat → Bool} {held : Bool}
theorem trodAll_stays (hl : laidOutB P = true) {W W' : World} (hheap : ∀ b, b < W.heap.size → W'.heap[b]? = W.heap[b]?) {sp' : Nat → Bool} :
    ∀ {ts : List TypeId} {vs : List Value} {ds : List (DataW H)} {ps : List MemPlace}, (∀ t ∈ ts, P.readableRec t = true ∧ t < P.types.size) → DataW.TrodAll enc P W base (fun _ => true) true ts vs ds ps → (∀ p ∈ ps, p.block < W.heap.size) → (∀ p ∈ ps, sp' p.block = true) →
      DataW.TrodAll enc P W' base sp' true ts vs ds ps
  | [], _, _, _, _, h, _, _ => by
    obtain ⟨rfl, rfl, rfl⟩ := trodAll_nil h
    exact trodAll_mk0
  | t :: ts, _, _, _, ht, h, hlt, hs => by
    obtain ⟨v, vs1, d, ds1, a, b, rfl, rfl, rfl, h1, h2⟩ := trodAll_cons h
    refine trodAll_cons_mk (WideElems.Trod_stays hl (ht t (by simp)).1 (ht t (by simp)).2 h1 (fun p hp => ?_) (fun p hp => hs p (by simp [hp]))) (trodAll_stays hl hheap (fun u hu => ht u (List.mem_cons_of_mem _ hu)) h2 (fun p hp => hlt p (by simp [hp])) (fun p hp => hs p (by simp [hp])))
    have hb := hheap p.block (hlt p (by simp [hp]))
    cases p with
    | cell b o => exact cell?_of_heap hb
    | map b => exact hb
/-- **What a law's row asks of a call that returns true and leaves what it met.** -/
theorem post_true {f : Func} {s : ChangeSpec} {W W' : World} {args : Array Value} {ds gs : List (DataW H)} {before : List MemPlace} {tb : TypeId} (hl : laidOutB P = true) (hread : ∀ t ∈ f.params.toList, P.readableRec t = true ∧ t < P.types.size)
    (hres : f.resultTypes = #[tb]) (htb : P.underlying tb = some .bool) (hvars : s.vars = []) (hspec : (s.fn H ds).results = [.lit (.bool true)] ∧ (s.fn H ds).args = ds ∧ (s.fn H ds).vars = [])
    (hW : DataW.Whole enc P f.params.toList s.vars false W args.toList ds gs before) (hheap : ∀ b, b < W.heap.size → W'.heap[b]? = W.heap[b]?) (hst : Still W W') :
    s.post enc P f false true false false W args (.bool true) W' := by
  have hlt := hW.lt
  have hW0 := hW
  obtain ⟨p, q, h1, h2, rfl, _, _⟩ := hW
  rw [hvars] at h2
  obtain ⟨rfl, rfl⟩ := trodVars_none h2
  simp only [List.append_nil] at hlt
  obtain ⟨e1, e2, e3⟩ := hspec
  refine ⟨ds, [], p ++ [], [], p, [], hW0, ?_, ?_, ?_, ?_, fun h => by cases h⟩
  · rw [List.append_nil, e1, hres]
    exact trodAll_cons_mk (RowKit.shut_bool htb _) trodAll_mk0
  · rw [List.append_nil, e2]
    exact trodAll_stays hl hheap hread h1 hlt (fun p hp => by simpa using hlt p hp)
  · rw [List.append_nil, e3, hvars]; rfl
  · refine ⟨hst.1, hst.2, fun i hi => ?_⟩
    rw [hheap i hi]
    split <;> simp_all
theorem APure.law {f : FuncId} {args : List AV} {W : World} {vs : Array Value} (hc : APure P f args (.raw (.bool true))) (ht : Tabs.is W) (hb : ∀ b, Tabs.blk b → b < W.heap.size) (hr : RepL (env0 W) args vs.toList) :
    Calls P f vs W fun x W' => x = .returned (.bool true) ∧ (∀ b, b < W.heap.size → W'.heap[b]? = W.heap[b]?) ∧ Still W W' := by
  refine ((hc (env0 W) vs (env0_ok ht hb) hr).calls (fun k => FW_room none k)).mono ?_
  rintro x w' ⟨u, e', rfl, rfl, hx, hu⟩
  rw [Rep] at hu; subst hu
  exact ⟨rfl, hx.heap, hx.still⟩
end
end Go.Ab
namespace Go.Ab
variable [Tabs]
section seq
variable {c : Ctx} {ops : Array Oper} {Q : AExit → St → Prop} {rest : List Oper} {s : St} {i : Nat}
variable {d : Option Tmp} {op : Op} {t : TypeId} {p : String} {af : Array Edge}
end seq
section cond
variable {c : Ctx} {Q : AExit → St → Prop} {s : St} {x : Operand} {y z : Code}
end cond
section split
variable {c : Ctx} {ops : Array Oper} {Q : AExit → St → Prop} {s : St} {i : Nat} {l : List Oper}
end split
section draw
variable {c : Ctx} {H0 : List AObj} {ops : Array Oper} {Q : AExit → St → Prop} {m i : Nat} {s : St} {rest : List Oper}
variable {d : Option Tmp} {op : Op} {t : TypeId} {p : String} {af : Array Edge}
end draw
section ex
variable {c : Ctx} {Q : AExit → St → Prop} {K : St → Prop} {s : St} {id j : Nat}
end ex
section app
variable {c : Ctx} {ops : Array Oper} {Q : AExit → St → Prop} {s : St} {i : Nat} {o : Oper} {l m : List Oper} {H0 : List AObj} {k : Nat}
end app
theorem W (n : Nat) {p q : Prop} (k : q) (h : Cnt n → (Unit → q) → p := by
  intro hc hk
  repeat (
    replace hc := Cnt.pred hc
    repeat (with_reducible (first | refine xn ?_ | refine sa ?_ | refine sa0 ?_ | refine aw_seq ?_ | refine aw_region ?_ | refine sq_nil ?_ | refine aw_skip ?_ | refine aw_block ?_ | refine bn ?_ | refine aw_exit ?_ | refine xe ?_ | refine be ?_ | refine bo ?_ | refine gn ?_ | refine ge ?_ | refine xr ?_ | refine br ?_ | refine gr ?_ | refine aw_label ?_ | refine aw_scope ?_))
    first
    | ((with_reducible apply sq_ev); exact rfl; exact EV)
    | ((with_reducible apply sn1); exact rfl; exact rfl; exact GD J; exact rfl)
    | ((with_reducible apply sn0); exact rfl; exact rfl; exact GD J; exact rfl)
    | ((with_reducible apply sq_yes); exact rfl; exact rfl; exact GD J; exact rfl; exact EV)
    | ((with_reducible apply su); exact rfl; exact rfl; exact J; exact rfl)
    | ((with_reducible apply sq_box); exact rfl; exact J; exact rfl)
    | ((with_reducible apply sq_alloc); exact rfl; exact ZeO.h)
    | ((with_reducible apply sq_store); exact rfl; exact J; exact J; exact rfl; exact rfl; exact TyF.h; exact rfl; exact rfl)
    | ((with_reducible refine aw_true ?_ ?_); exact GD J)
    | ((with_reducible refine aw_false ?_ ?_); exact GD J))
  repeat (with_reducible (first | refine xn ?_ | refine sa ?_ | refine sa0 ?_ | refine aw_seq ?_ | refine aw_region ?_ | refine sq_nil ?_ | refine aw_skip ?_ | refine aw_block ?_ | refine bn ?_ | refine aw_exit ?_ | refine xe ?_ | refine be ?_ | refine bo ?_ | refine gn ?_ | refine ge ?_ | refine xr ?_ | refine br ?_ | refine gr ?_ | refine aw_label ?_ | refine aw_scope ?_ | refine aw_ret ?_))
  exact hk ()) : p := h ⟨⟩ fun _ => k
end Go.Ab
namespace Hd
open Ni (inn)
theorem chg_ref {off long x : Int} (h0 : 0 ≤ off) (h : 0 ≤ long) (hx : x ≤ 1000) : chg off long x = (decide (0 ≤ x) && decide (off * 1000 < max (x * 1000 - long) (-(x * 1000 - long)))) := by
  unfold chg
  rw [lo_eq, hi_eq h0 h]
  by_cases hp : 0 ≤ x
  · rw [Bool.eq_iff_iff]
    simp only [inn, hp, decide_true, Bool.true_and, Bool.not_eq_true', Bool.and_eq_false_iff, decide_eq_false_iff_not, decide_eq_true_eq]
    omega
  · simp [hp]
end Hd
namespace Hd
open Ni (inn)
theorem fd_bd {r : Rg} {f : List Int} (h : fdOK r f = true) {i : Nat} (hi : i < f.length) : -1 ≤ f[i] ∧ f[i] ≤ 1000 := (fdOK_iff.1 h).2 _ (List.getElem_mem hi)
end Hd
namespace Go.Proofs.YtjpokekbjmdgmaaGreatDoor
open Go Go.Ab Ni Hd
theorem rin_pure (n lo hi : Int) : APure Tryz.prog 74 [I n, I lo, I hi] (B (inn n lo hi)) := by
  refine ap Tryz.func74 (fun e0 he0 => ?_)
  refine wz 5 ?_
  refine sz 10 (fun g1 g1' => ?_) (fun g1 g1' => ?_)
  ·refine wz 5 ?_
   exact rz rfl (Less.eq (by simp [inn, *]))
  refine wz 5 ?_
  exact rz rfl (Less.eq (by simp [inn, *]))
end Go.Proofs.YtjpokekbjmdgmaaGreatDoor
namespace Go.Proofs.YtjpokekbjmdgmaaGreatDoor
open Go Go.Ab Ni Hd
theorem warped_bad (r : Rg) (n : Int) (x : Rt) (hk : r.kinds.length ≤ 1000000) (hh : r.hides.length ≤ 1000000) (hw : ∀ h ∈ r.hides, h.length ≤ 1000000) (ho : okW r n x = false) : APure Tryz.prog 26 [rgA r, I n, rtA x] (.tup [spans [], I 2]) := by
  refine ap Tryz.func26 (fun e0 he0 => ?_)
  refine wz 5 ?_
  refine kz az (isregister_pure r hk hh hw) ?_
  refine wz 2 ?_
  refine sz 14 (fun g1_3 g1_3' => ?_) (fun g1_3 g1_3' => ?_)
  ·refine wz 14 ?_
   exact retQ_pure (v := .tup [.raw _, .raw _]) rfl rfl (less_tup ⟨less_nil 2, jz, trivial⟩)
  refine wz 2 ?_
  refine ky az (ishide_pure r n hh) ?_
  refine wz 3 ?_
  refine sz 20 (fun g1_9 g1_9' => ?_) (fun g1_9 g1_9' => ?_)
  ·refine wz 8 ?_
   exact retQ_pure (v := .tup [.raw _, .raw _]) rfl rfl (less_tup ⟨less_nil 2, jz, trivial⟩)
  refine wz 2 ?_
  refine ky az (israted_pure r x) ?_
  refine wz 2 ?_
  refine iz (fun c_25 c_25' => ?_) (fun c_25 c_25' => ?_)
  ·refine wz 2 ?_
   exact retQ_pure (v := .tup [.raw _, .raw _]) rfl rfl (less_tup ⟨less_nil 2, jz, trivial⟩)
  exfalso
  revert ho
  unfold okW
  simp_all
theorem changes_bad (r : Rg) (n : Int) (f : List Int) (hk : r.kinds.length ≤ 1000000) (hh : r.hides.length ≤ 1000000) (hw : ∀ h ∈ r.hides, h.length ≤ 1000000) (hl : f.length ≤ 1000000) (x : Rt) (ho : okC r n f x = false) : APure Tryz.prog 27 [rgA r, I n, ints f, rtA x] (.tup [ints [], I 2]) := by
  refine ap Tryz.func27 (fun e0 he0 => ?_)
  refine wz 7 ?_
  refine kz az (finding_pure r n f hk hh hw hl) ?_
  refine wz 9 ?_
  refine sz 21 (fun g2_2 g2_2' => ?_) (fun g2_2 g2_2' => ?_)
  ·refine wz 8 ?_
   exact retQ_pure (v := .tup [.raw _, .raw _]) rfl rfl (less_tup ⟨less_nil 1, jz, trivial⟩)
  refine wz 2 ?_
  refine ky az (israted_pure r x) ?_
  refine wz 2 ?_
  refine iz (fun c_26 c_26' => ?_) (fun c_26 c_26' => ?_)
  ·refine wz 2 ?_
   exact retQ_pure (v := .tup [.raw _, .raw _]) rfl rfl (less_tup ⟨less_nil 1, jz, trivial⟩)
  exfalso
  revert ho
  unfold okC
  simp_all
end Go.Proofs.YtjpokekbjmdgmaaGreatDoor
namespace Go.Proofs.YtjpokekbjmdgmaaGreatDoor
open Go Go.Ab Ni Hd
def shB (r : Rg) : Bool := decide ((r.kinds.length ≤ 8 ∧ r.hides.length ≤ 8) ∧ ∀ i, (hi : i < r.hides.length) → i < 9 → r.hides[i].length ≤ 10)
theorem shB_fin {r : Rg} (h3 : ∀ i, (hi : i < r.hides.length) → i < 9 → r.hides[i].length ≤ 10) : shB r = (decide (r.kinds.length ≤ 8) && decide (r.hides.length ≤ 8)) := by
  rw [Bool.eq_iff_iff]; unfold shB; simp only [decide_eq_true_eq, Bool.and_eq_true]
  exact ⟨fun h => h.1, fun h => ⟨h, h3⟩⟩
theorem shB_row {r : Rg} {i : Nat} (hi : i < r.hides.length) (h9 : i < 9) (h : ¬ r.hides[i].length ≤ 10) : shB r = false := decide_eq_false fun q => h (q.2 i hi h9)
theorem shB_len {r : Rg} (h : shB r = true) : r.kinds.length ≤ 1000000 ∧ r.hides.length ≤ 1000000 ∧ (∀ h ∈ r.hides, h.length ≤ 1000000) := by
  have q := of_decide_eq_true h
  refine ⟨by omega, by omega, fun x hx => ?_⟩
  obtain ⟨i, hi, rfl⟩ := List.getElem_of_mem hx
  have := q.2 i hi (by omega); omega
theorem rg_kind {r : Rg} {i : Nat} (hi : i < r.kinds.length) (h : kdOK r.kinds[i] = false) : rgOK r = false := by
  have e : r.kinds.all kdOK = false := by rw [List.all_eq_false]; exact ⟨_, List.getElem_mem hi, by rw [h]; simp⟩
  unfold rgOK; rw [e]; simp
theorem rg_hide {r : Rg} {i : Nat} (hi : i < r.hides.length) (h : hdOK r.kinds.length r.hides[i] = false) : rgOK r = false := by
  have e : r.hides.all (hdOK r.kinds.length) = false := by rw [List.all_eq_false]; exact ⟨_, List.getElem_mem hi, by rw [h]; simp⟩
  unfold rgOK; rw [e]; simp
theorem hd_len {w : Nat} {h : List Int} (e : h.length ≠ w) : hdOK w h = false := by unfold hdOK; rw [decide_eq_false e]; rfl
theorem hd_num {w : Nat} {h : List Int} {j : Nat} (hj : j < h.length) (e : inn h[j] 1 500 = false) : hdOK w h = false := by
  have q : (h.all fun n => inn n 1 500) = false := by rw [List.all_eq_false]; exact ⟨_, List.getElem_mem hj, by rw [e]; simp⟩
  unfold hdOK; rw [q]; simp
theorem hd_yes {w : Nat} {h : List Int} (e : h.length = w) (k : ∀ j, (hj : j < h.length) → inn h[j] 1 500 = true) : hdOK w h = true := by
  unfold hdOK; rw [decide_eq_true e, List.all_eq_true.2 fun x hx => by obtain ⟨j, hj, rfl⟩ := List.getElem_of_mem hx; exact k j hj]; rfl
theorem all_of {α : Type} {q : α → Bool} {l : List α} (h : ∀ j, (hj : j < l.length) → q l[j] = true) : l.all q = true := List.all_eq_true.2 fun x hx => by obtain ⟨j, hj, rfl⟩ := List.getElem_of_mem hx; exact h j hj
theorem fd_bad {r : Rg} {f : List Int} {i : Nat} (hi : i < f.length) (h : inn f[i] (-1) 1000 = false) : fdOK r f = false := by
  have e : (f.all fun n => inn n (-1) 1000) = false := by rw [List.all_eq_false]; exact ⟨_, List.getElem_mem hi, by rw [h]; simp⟩
  unfold fdOK; rw [e]; simp
theorem short_pure (r : Rg) : APure Tryz.prog 20 [rgA r] (B (shB r)) := by
  refine ap Tryz.func20 (fun e0 he0 => ?_)
  refine wz 3 ?_
  refine aw_loopk (ι := { k : Nat // k ≤ r.hides.length ∧ k ≤ 9 ∧ ∀ i, (hi : i < r.hides.length) → i < k → r.hides[i].length ≤ 10 }) [1] (fun i => [(3, I i.1)]) (fun H i => H) (fun i => r.hides.length - i.1) (⟨0, Nat.zero_le _, by omega, by omega⟩) ⟨jz, jz, trivial⟩ rfl ?_
  rintro ⟨k, hk, hk9, hok⟩
  refine nz ?_
  refine wz 6 ?_
  refine sz 9 (fun g2_5 g2_5' => ?_) (fun g2_5 g2_5' => ?_)
  ·have hkl : k < r.hides.length := by omega
   refine wz 3 ?_
   refine iz (fun c_12 c_12' => ?_) (fun c_12 c_12' => ?_)
   ·have hk9b : k < 9 := by have := of_decide_eq_true c_12; omega
    refine wz 7 ?_
    refine iz (fun c_21 c_21' => ?_) (fun c_21 c_21' => ?_)
    ·have hbad := shB_row hkl hk9b (by omega)
     refine wz 1 ?_
     exact rz rfl (Less.eq (by rw [hbad]))
    refine wz 3 ?_
    exact ⟨⟨k + 1, by omega, by omega, fun i hi h => (by by_cases e : i = k; (subst e; omega); exact hok i hi (by omega))⟩, by simp only; omega, Sub.slots ⟨jz, jz, trivial⟩⟩
   refine wz 5 ?_
   refine sz 26 (fun g6_4 g6_4' => ?_) (fun g6_4 g6_4' => ?_)
   ·refine wz 6 ?_
    exact rz rfl (Less.eq (congrArg B (by have h9 := of_decide_eq_false c_12; rw [shB_fin (fun i hi h8 => hok i hi (by omega)), Bool.eq_iff_iff]; simp; omega)))
   refine wz 6 ?_
   exact rz rfl (Less.eq (congrArg B (by have h9 := of_decide_eq_false c_12; rw [shB_fin (fun i hi h8 => hok i hi (by omega)), Bool.eq_iff_iff]; simp; omega)))
  obtain rfl : k = r.hides.length := by omega
  refine wz 9 ?_
  refine sz 26 (fun g6_4 g6_4' => ?_) (fun g6_4 g6_4' => ?_)
  ·refine wz 6 ?_
   exact rz rfl (Less.eq (congrArg B (by rw [shB_fin (fun i hi _ => hok i hi hi), Bool.eq_iff_iff]; simp; omega)))
  refine wz 6 ?_
  exact rz rfl (Less.eq (congrArg B (by rw [shB_fin (fun i hi _ => hok i hi hi), Bool.eq_iff_iff]; simp; omega)))
theorem rspan_pure (a b : Int) (ha : -1000000 ≤ a ∧ a ≤ 1000000 ∨ True) : APure Tryz.prog 75 [.agg [I a, I b]] (B (spOK a b)) := by
  refine ap Tryz.func75 (fun e0 he0 => ?_)
  refine vz 2 ?_
  refine sq_nil ?_
  refine aw_seq ?_
  have hin : ∀ x lo hi : Int, inn x lo hi = true ↔ lo ≤ x ∧ x ≤ hi := fun x lo hi => by unfold inn; simp
  refine wz 2 ?_
  refine kz az (rin_pure _ _ _) ?_
  refine wz 1 ?_
  refine sz 6 (fun g1_3 g1_3' => ?_) (fun g1_3 g1_3' => ?_)
  ·have h1 := (hin _ _ _).1 g1_3
   refine wz 4 ?_
   refine ky az (rin_pure _ _ _) ?_
   refine wz 2 ?_
   refine sz 13 (fun g1_10 g1_10' => ?_) (fun g1_10 g1_10' => ?_)
   ·have h2 := (hin _ _ _).1 g1_10
    refine wz 8 ?_
    exact rz rfl (Less.eq (by unfold spOK; simp [*]))
   refine wz 8 ?_
   exact rz rfl (Less.eq (by unfold spOK; simp [*]))
  refine wz 15 ?_
  exact rz rfl (Less.eq (by unfold spOK; simp [*]))
theorem register_pure (r : Rg) (hk : r.kinds.length ≤ 1000000) (hh : r.hides.length ≤ 1000000) (hw : ∀ h ∈ r.hides, h.length ≤ 1000000) : APure Tryz.prog 21 [rgA r] (B (rgOK r)) := by
  refine ap Tryz.func21 (fun e0 he0 => ?_)
  refine wz 5 ?_
  refine kz az (rin_pure _ _ _) ?_
  refine wz 2 ?_
  refine sz 11 (fun g1_5 g1_5' => ?_) (fun g1_5 g1_5' => ?_)
  ·refine wz 8 ?_
   exact rz rfl (Less.eq (by unfold rgOK; simp_all))
  refine wz 3 ?_
  refine ky az (rin_pure _ _ _) ?_
  refine wz 2 ?_
  refine iz (fun c_17 c_17' => ?_) (fun c_17 c_17' => ?_)
  ·refine wz 1 ?_
   exact rz rfl (Less.eq (by unfold rgOK; simp_all))
  refine wz 1 ?_
  refine aw_loopk (ι := { k : Nat // k ≤ r.kinds.length ∧ ∀ i, (hi : i < r.kinds.length) → i < k → kdOK r.kinds[i] = true }) [1] (fun i => [(3, I i.1)]) (fun H i => H) (fun i => r.kinds.length - i.1) (⟨0, Nat.zero_le _, by omega⟩) ⟨jz, jz, trivial⟩ rfl ?_
  rintro ⟨k, hkk, hok⟩
  refine nz ?_
  refine wz 5 ?_
  refine iz (fun c_22 c_22' => ?_) (fun c_22 c_22' => ?_)
  ·have hkl : k < r.kinds.length := by omega
   refine wz 7 ?_
   refine sz 31 (fun g6_6 g6_6' => ?_) (fun g6_6 g6_6' => ?_)
   ·refine wz 7 ?_
    refine iz (fun c_38 c_38' => ?_) (fun c_38 c_38' => ?_)
    ·have hbad := rg_kind hkl (by unfold kdOK; have h5 := of_decide_eq_true c_38; exact decide_eq_false (by omega))
     refine wz 1 ?_
     exact rz rfl (Less.eq (by rw [hbad]))
    have hkd : kdOK r.kinds[k] = true := by unfold kdOK; have h5 := of_decide_eq_false c_38; exact decide_eq_true (by omega)
    refine wz 3 ?_
    exact ⟨⟨k + 1, by omega, fun i hi h => (by by_cases e : i = k; (subst e; exact hkd); exact hok i hi (by omega))⟩, by simp only; omega, Sub.slots ⟨jz, jz, trivial⟩⟩
   have hkd : kdOK r.kinds[k] = true := by unfold kdOK; exact decide_eq_true (by omega)
   refine wz 11 ?_
   exact ⟨⟨k + 1, by omega, fun i hi h => (by by_cases e : i = k; (subst e; exact hkd); exact hok i hi (by omega))⟩, by simp only; omega, Sub.slots ⟨jz, jz, trivial⟩⟩
  obtain rfl : k = r.kinds.length := by omega
  have hall1 : r.kinds.all kdOK = true := all_of fun j hj => hok j hj hj
  refine wz 1 ?_
  refine aw_loopk (ι := { k : Nat // k ≤ r.hides.length ∧ ∀ i, (hi : i < r.hides.length) → i < k → hdOK r.kinds.length r.hides[i] = true }) [1] (fun i => [(4, I i.1)]) (fun H i => H) (fun i => r.hides.length - i.1) (⟨0, Nat.zero_le _, by omega⟩) ⟨jz, jz, trivial⟩ rfl ?_
  rintro ⟨k, hkh, hok2⟩
  refine nz ?_
  refine wz 5 ?_
  refine iz (fun c_43 c_43' => ?_) (fun c_43 c_43' => ?_)
  ·have hhl : k < r.hides.length := by omega
   have hwl := hw _ (List.getElem_mem hhl)
   refine wz 0 ?_
   refine aw_draw 10 mo (by kernel_rfl) ?_
   refine dz 10 ?_
   refine wz 0 ?_
   refine iz (fun c_55 c_55' => ?_) (fun c_55 c_55' => ?_)
   ·have hbad := rg_hide hhl (hd_len (by omega))
    refine wz 1 ?_
    exact rz rfl (Less.eq (by rw [hbad]))
   have hle : r.hides[k].length = r.kinds.length := by omega
   refine wz 1 ?_
   refine aw_loopk (ι := { j : Nat // j ≤ r.hides[k].length ∧ ∀ i, (hi : i < r.hides[k].length) → i < j → inn r.hides[k][i] 1 500 = true }) [1, 4] (fun u => [(5, I u.1)]) (fun H u => H) (fun u => r.hides[k].length - u.1) (⟨0, Nat.zero_le _, by omega⟩) ⟨jz, jz, jz, trivial⟩ rfl ?_
   rintro ⟨j, hj, hok3⟩
   refine nz ?_
   refine wz 8 ?_
   refine iz (fun c_63 c_63' => ?_) (fun c_63 c_63' => ?_)
   ·have hjl : j < r.hides[k].length := by omega
    refine wz 8 ?_
    refine kz az (rin_pure _ _ _) ?_
    refine wz 1 ?_
    refine iz (fun c_75 c_75' => ?_) (fun c_75 c_75' => ?_)
    ·have hbad := rg_hide hhl (hd_num hjl (by simpa using c_75))
     refine wz 1 ?_
     exact rz rfl (Less.eq (by rw [hbad]))
    have hin : inn r.hides[k][j] 1 500 = true := by simpa using c_75
    refine wz 3 ?_
    exact ⟨⟨j + 1, by omega, fun i hi h => (by by_cases e : i = j; (subst e; exact hin); exact hok3 i hi (by omega))⟩, by simp only; omega, Sub.slots ⟨jz, jz, jz, trivial⟩⟩
   obtain rfl : j = r.hides[k].length := by omega
   refine wz 3 ?_
   exact ⟨⟨k + 1, by omega, fun i hi h => (by by_cases e : i = k; (subst e; exact hd_yes hle fun j hj => hok3 j hj hj); exact hok2 i hi (by omega))⟩, by simp only; omega, Sub.slots ⟨jz, jz, trivial⟩⟩
  obtain rfl : k = r.hides.length := by omega
  have hall2 : r.hides.all (hdOK r.kinds.length) = true := all_of fun j hj => hok2 j hj hj
  refine wz 2 ?_
  refine kz az (rspan_pure _ _ (.inr trivial)) ?_
  refine wz 1 ?_
  refine sz 79 (fun g18_3 g18_3' => ?_) (fun g18_3 g18_3' => ?_)
  ·refine wz 2 ?_
   refine ky az (rspan_pure _ _ (.inr trivial)) ?_
   refine wz 2 ?_
   refine sz 84 (fun g18_8 g18_8' => ?_) (fun g18_8 g18_8' => ?_)
   ·refine wz 2 ?_
    refine ky az (rin_pure _ _ _) ?_
    refine wz 2 ?_
    refine sz 89 (fun g18_13 g18_13' => ?_) (fun g18_13 g18_13' => ?_)
    ·refine wz 2 ?_
     refine ky az (rin_pure _ _ _) ?_
     refine wz 2 ?_
     exact rz rfl (Less.eq (by unfold rgOK; rw [hall1, hall2]; simp_all))
    refine wz 5 ?_
    exact rz rfl (Less.eq (by unfold rgOK; rw [hall1, hall2]; simp_all))
   refine wz 10 ?_
   exact rz rfl (Less.eq (by unfold rgOK; rw [hall1, hall2]; simp_all))
  refine wz 15 ?_
  exact rz rfl (Less.eq (by unfold rgOK; rw [hall1, hall2]; simp_all))
end Go.Proofs.YtjpokekbjmdgmaaGreatDoor
namespace Go.Proofs.YtjpokekbjmdgmaaGreatDoor
open Go Go.Ab Ni Hd
theorem short_t {r : Rg} (h : shB r = true) : APure Tryz.prog 20 [rgA r] (B true) := by have q := short_pure r; rw [h] at q; exact q
theorem short_f {r : Rg} (h : shB r = false) : APure Tryz.prog 20 [rgA r] (B false) := by have q := short_pure r; rw [h] at q; exact q
theorem reg_t {r : Rg} (hs : shB r = true) (h : rgOK r = true) : APure Tryz.prog 21 [rgA r] (B true) := by have q := register_pure r (shB_len hs).1 (shB_len hs).2.1 (shB_len hs).2.2; rw [h] at q; exact q
theorem reg_f {r : Rg} (hs : shB r = true) (h : rgOK r = false) : APure Tryz.prog 21 [rgA r] (B false) := by have q := register_pure r (shB_len hs).1 (shB_len hs).2.1 (shB_len hs).2.2; rw [h] at q; exact q
end Go.Proofs.YtjpokekbjmdgmaaGreatDoor
namespace Go.Proofs.YtjpokekbjmdgmaaGreatDoor
open Go Go.Ab Ni Hd
instance en105 : EnT Tryz.prog 105 := ⟨Ent.of Tryz.func105 (by kernel_rfl) rfl⟩
instance en114 : EnT Tryz.prog 114 := ⟨Ent.of Tryz.func114 (by kernel_rfl) rfl⟩
instance en59 : EnT Tryz.prog 59 := ⟨Ent.of Tryz.func59 (by kernel_rfl) rfl⟩
instance en60 : EnT Tryz.prog 60 := ⟨Ent.of Tryz.func60 (by kernel_rfl) rfl⟩
def slimB (l : List Int) : Bool := decide (l.length ≤ 10)
theorem slim_len {l : List Int} (h : slimB l = true) : l.length ≤ 1000000 := by have := of_decide_eq_true h; omega
theorem chg_bd {r : Rg} (gB : RgB r) {h m : Nat} (hh : h < r.hides.length) (hm : m < r.kinds.length) {x : Rt} (hx : (0 ≤ x.a ∧ x.a ≤ 1300) ∧ (0 ≤ x.b ∧ x.b ≤ 1300)) : 0 ≤ sz r h m * rm r x m ∧ sz r h m * rm r x m ≤ 650000 := long_bd gB hh hm (by unfold rm; split <;> omega)
theorem rhide_pure (r : Rg) (n : Int) (hh : r.hides.length ≤ 1000000) : APure Tryz.prog 22 [rgA r, I n] (B (hdIn r n)) := by
  refine ap Tryz.func22 (fun e0 he0 => ?_)
  refine wz 7 ?_
  refine kz az (rin_pure _ _ _) ?_
  refine wz 1 ?_
  exact rz rfl (Less.eq rfl)
theorem rrated_pure (r : Rg) (x : Rt) : APure Tryz.prog 23 [rgA r, rtA x] (B (rtOK r x)) := by
  refine ap Tryz.func23 (fun e0 he0 => ?_)
  refine wz 11 ?_
  refine kz az (rin_pure _ _ _) ?_
  refine wz 1 ?_
  refine sz 14 (fun g1_9 g1_9' => ?_) (fun g1_9 g1_9' => ?_)
  ·refine wz 8 ?_
   refine ky az (rin_pure _ _ _) ?_
   refine wz 2 ?_
   exact rz rfl (Less.eq (by unfold rtOK; simp [*]))
  refine wz 11 ?_
  exact rz rfl (Less.eq (by unfold rtOK; simp [*]))
theorem rfind_pure (r : Rg) (f : List Int) (hl : f.length ≤ 1000000) : APure Tryz.prog 24 [rgA r, ints f] (B (fdOK r f)) := by
  refine ap Tryz.func24 (fun e0 he0 => ?_)
  refine wz 3 ?_
  refine aw_loopk (ι := { k : Nat // k ≤ f.length ∧ ∀ i, (hi : i < f.length) → i < k → inn f[i] (-1) 1000 = true }) [1, 2] (fun i => [(5, I i.1)]) (fun H i => H) (fun i => f.length - i.1) (⟨0, Nat.zero_le _, by omega⟩) ⟨jz, jz, jz, trivial⟩ rfl ?_
  rintro ⟨k, hk, hok⟩
  refine nz ?_
  refine wz 4 ?_
  refine iz (fun c_9 c_9' => ?_) (fun c_9 c_9' => ?_)
  ·have hkl : k < f.length := by omega
   refine wz 4 ?_
   refine kz az (rin_pure _ _ _) ?_
   refine wz 1 ?_
   refine iz (fun c_17 c_17' => ?_) (fun c_17 c_17' => ?_)
   ·refine wz 1 ?_
    exact rz rfl (Less.eq (by rw [fd_bad hkl (by simpa using c_17)]))
   refine wz 3 ?_
   exact ⟨⟨k + 1, by omega, fun i hi h => (by by_cases e : i = k; (subst e; simpa using c_17); exact hok i hi (by omega))⟩, by simp only; omega, Sub.slots ⟨jz, jz, jz, trivial⟩⟩
  obtain rfl : k = f.length := by omega
  have hall : (f.all fun n => inn n (-1) 1000) = true := all_of fun j hj => hok j hj hj
  refine wz 7 ?_
  exact rz rfl (Less.eq (congrArg B (by unfold fdOK; rw [hall, Bool.and_true, Bool.eq_iff_iff]; simp; omega)))
theorem slim_pure (l : List Int) : APure Tryz.prog 30 [ints l] (B (slimB l)) := by
  refine ap Tryz.func30 (fun e0 he0 => ?_)
  refine wz 5 ?_
  exact rz rfl (Less.eq (congrArg B (by unfold slimB; rw [Bool.eq_iff_iff]; simp; omega)))
theorem rlong_pure {r : Rg} (gB : RgB r) {h m : Nat} (hhl : h < r.hides.length) (hml : m < r.kinds.length) {x : Rt} (hx : (0 ≤ x.a ∧ x.a ≤ 1300) ∧ (0 ≤ x.b ∧ x.b ≤ 1300)) : APure Tryz.prog 114 [rgA r, I h, I m, rtA x] (I (sz r h m * rm r x m)) := by
  refine ap Tryz.func114 (fun e0 he0 => ?_)
  refine vz 3 ?_
  refine sq_nil ?_
  refine aw_seq ?_
  refine aw_seq ?_
  have hq := chg_bd gB hhl hml hx
  have hmh : m < (r.hides[h]).length := by rw [gB.hl h hhl]; exact hml
  have hsz := sz_at gB hhl hml
  have hkd := kd_at hml
  refine wz 6 ?_
  refine iz (fun c_14 c_14' => ?_) (fun c_14 c_14' => ?_)
  ·have hrm : rm r x m = x.a := by unfold rm; rw [hkd, if_pos (by omega)]
   rw [hrm, hsz] at hq
   refine wz 0 ?_
   refine aw_draw 12 mo (by kernel_rfl) ?_
   refine dz 12 ?_
   refine wz 0 ?_
   exact rz rfl (Less.eq (by rw [hrm, hsz]))
  have hrm : rm r x m = x.b := by unfold rm; rw [hkd, if_neg (by omega)]
  rw [hrm, hsz] at hq
  refine wz 0 ?_
  refine aw_draw 12 mo (by kernel_rfl) ?_
  refine dz 12 ?_
  refine wz 0 ?_
  exact rz rfl (Less.eq (by rw [hrm, hsz]))
theorem rchanged_pure {r : Rg} (gB : RgB r) {h m : Nat} (hhl : h < r.hides.length) (hml : m < r.kinds.length) {x : Rt} (hx : (0 ≤ x.a ∧ x.a ≤ 1300) ∧ (0 ≤ x.b ∧ x.b ≤ 1300)) {f : List Int} (hf : f.length = r.kinds.length) (hfd : fdOK r f = true) : APure Tryz.prog 105 [rgA r, I h, ints f, I m, rtA x] (B (chB r h f (rm r x m) m)) := by
  refine ap Tryz.func105 (fun e0 he0 => ?_)
  refine vz 3 ?_
  refine sq_nil ?_
  refine aw_seq ?_
  have hq := chg_bd gB hhl hml hx
  have hmf : m < f.length := by omega
  have hfb := fd_bd hfd hmf
  have hoff := gB.off
  have hcr := chg_ref (off := r.off) (long := sz r h m * rm r x m) (x := f[m]) (by omega) hq.1 hfb.2
  have hgd : f.getD m 0 = f[m] := getD_at hmf
  refine aw_draw 12 mo (by kernel_rfl) ?_
  refine dz 9 ?_
  refine dkz az (rlong_pure gB hhl hml hx) ?_
  refine dz 2 ?_
  refine wz 6 ?_
  refine sz 28 (fun g2_5 g2_5' => ?_) (fun g2_5 g2_5' => ?_)
  ·refine wz 2 ?_
   refine sq_yes rfl rfl (less_b g2_5) rfl (ev_neg jz (by first | exact wr (by omega) (by omega) | (rw [show (0 : Int) - _ = -(_) from Int.zero_sub _]; exact wr (by omega) (by omega)))) ?_
   refine wz 7 ?_
   exact rz rfl (Less.eq (congrArg B (by unfold chB; rw [hgd, hcr, Bool.eq_iff_iff]; simp; omega)))
  refine wz 10 ?_
  exact rz rfl (Less.eq (congrArg B (by unfold chB; rw [hgd, hcr, Bool.eq_iff_iff]; simp; omega)))
end Go.Proofs.YtjpokekbjmdgmaaGreatDoor
namespace Go.Proofs.YtjpokekbjmdgmaaGreatDoor
open Go Go.Ab Ni Hd
def chP (r : Rg) (h : Nat) (f : List Int) (x : Rt) (k : Nat) : List Int := nums (fun m => chB r h f (rm r x m) m) k
theorem chP_len (r : Rg) (h : Nat) (f : List Int) (x : Rt) (k : Nat) : (chP r h f x k).length ≤ k := nums_len _ _
theorem lo_form (off L : Int) : max 0 ((L - off * 1000 + 1000 - 1).tdiv 1000) = Hd.lo off L := by unfold Hd.lo; rw [show L - off * 1000 + 1000 - 1 = L - 1000 * off + 999 by omega]
theorem hi_form (off L : Int) : min 1000 ((L + off * 1000).tdiv 1000) = Hd.hi off L := by unfold Hd.hi; rw [show L + off * 1000 = L + 1000 * off by omega]
theorem rchanges_pure {r : Rg} (gB : RgB r) {h : Nat} (hhl : h < r.hides.length) {x : Rt} (hx : (0 ≤ x.a ∧ x.a ≤ 1300) ∧ (0 ≤ x.b ∧ x.b ≤ 1300)) {f : List Int} (hf : f.length = r.kinds.length) (hfd : fdOK r f = true) : APure Tryz.prog 60 [rgA r, I h, ints f, rtA x] (ints (chA r h f x)) := by
  refine ap Tryz.func60 (fun e0 he0 => ?_)
  refine vz 5 ?_
  refine sq_nil ?_
  refine aw_block ?_
  refine aw_sub (sub_token 9 1 jz) ?_
  refine aw_loopk (ι := { k : Nat // k ≤ f.length }) [1, 2, 4, 7] (fun i => [(10, I i.1), (9, .own 2 1 ((chP r h f x i.1).map fun x => [I x]))]) (fun H i => H.set 2 (.tok ((chP r h f x i.1).map fun x => [I x]).length)) (fun i => f.length - i.1) (⟨0, Nat.zero_le _⟩) ⟨jz, jz, jz, jz, jz, jz, trivial⟩ rfl ?_
  rintro ⟨k, hk⟩
  refine nz ?_
  have hcl := chP_len r h f x k
  have hnk := gB.nk
  refine wz 4 ?_
  refine iz (fun c_14 c_14' => ?_) (fun c_14 c_14' => ?_)
  ·have hml : k < r.kinds.length := by omega
   refine wz 5 ?_
   refine kz az (rchanged_pure gB hhl hml hx hf hfd) ?_
   refine wz 0 ?_
   refine iz (fun c_22 c_22' => ?_) (fun c_22 c_22' => ?_)
   ·have eS : ((chP r h f x (k + 1)).map fun x => [I x]) = ((chP r h f x k).map fun x => [I x]) ++ [[I k]] := by unfold chP; rw [nums_succ, if_pos c_22, List.map_append]; rfl
    refine wz 2 ?_
    refine sq_ev rfl (ev_buildSlice (es := [[_]]) sf28.h rfl rfl rfl rfl) ?_
    first | refine sq_append rfl sf28.h Tryz.underlying28 rfl rfl jz (Nat.succ_pos _) (by simp; omega) (by simp; omega) ?_ | refine sq_append rfl sf28.h Tryz.underlying28 rfl rfl (less_slx _ _) (Nat.succ_pos _) (by simp; omega) (by simp; omega) ?_
    refine wz 4 ?_
    exact ⟨⟨k + 1, by omega⟩, by simp only; omega, sb 3 ⟨jz, Less.eq (by rw [eS] <;> rfl), jz, jz, jz, jz, trivial⟩ (hH := (congrArg (fun n => [_, _, AObj.tok n]) (congrArg List.length eS.symm)))⟩
   have eS : ((chP r h f x (k + 1)).map fun x => [I x]) = ((chP r h f x k).map fun x => [I x]) := by unfold chP; rw [nums_succ, if_neg (by rw [c_22]; simp)]
   refine wz 3 ?_
   exact ⟨⟨k + 1, by omega⟩, by simp only; omega, sb 3 ⟨jz, Less.eq (by rw [eS] <;> rfl), jz, jz, jz, jz, trivial⟩ (hH := (congrArg (fun n => [_, _, AObj.tok n]) (congrArg List.length eS.symm)))⟩
  obtain rfl : k = f.length := by omega
  refine wz 2 ?_
  exact retQ_pure (v := .own _ _ _) rfl rfl (Less.trans (less_own _ _ _) (Less.eq (by rw [hf]; rfl)))
theorem rwarped_pure {r : Rg} (gB : RgB r) {h : Nat} (hhl : h < r.hides.length) {x : Rt} (hx : (0 ≤ x.a ∧ x.a ≤ 1300) ∧ (0 ≤ x.b ∧ x.b ≤ 1300)) : APure Tryz.prog 59 [rgA r, I h, rtA x] (spans (warpOf r h x)) := by
  refine ap Tryz.func59 (fun e0 he0 => ?_)
  refine vz 5 ?_
  refine sq_nil ?_
  refine aw_block ?_
  refine aw_sub (sub_token 7 2 jz) ?_
  refine aw_loopk (ι := { k : Nat // k ≤ r.kinds.length }) [1, 3, 5] (fun i => [(8, I i.1), (7, .own 2 2 ((warpK r h x i.1).map fun s => [I s.1, I s.2]))]) (fun H i => H.set 2 (.tok ((warpK r h x i.1).map fun s => [I s.1, I s.2]).length)) (fun i => r.kinds.length - i.1) (⟨0, Nat.zero_le _⟩) ⟨jz, jz, jz, jz, jz, trivial⟩ rfl ?_
  rintro ⟨k, hk⟩
  refine nz ?_
  have hwl := warpK_len r h x k
  have hnk := gB.nk
  have hoff := gB.off
  refine wz 5 ?_
  refine iz (fun c_14 c_14' => ?_) (fun c_14 c_14' => ?_)
  ·have hml : k < r.kinds.length := by omega
   have hq := chg_bd gB hhl hml hx
   have hb1 := tdiv_bd (n := sz r h k * rm r x k - r.off * 1000 + 1000 - 1) (by omega)
   have hb2 := tdiv_bd (n := sz r h k * rm r x k + r.off * 1000) (by omega)
   have eS : ((warpK r h x (k + 1)).map fun s => [I s.1, I s.2]) = ((warpK r h x k).map fun s => [I s.1, I s.2]) ++ [[I (lo r.off (sz r h k * rm r x k)), I (hi r.off (sz r h k * rm r x k))]] := by rw [warpK_succ, List.map_append]; rfl
   refine wz 4 ?_
   refine kz az (rlong_pure gB hhl hml hx) ?_
   refine wz 9 ?_
   refine sq_ev rfl (ev_quo jz jz (by decide) (wr (by omega) (by omega))) ?_
   refine wz 6 ?_
   refine sq_ev rfl (ev_quo jz jz (by decide) (wr (by omega) (by omega))) ?_
   refine wz 2 ?_
   refine sq_ev rfl (ev_buildSlice (es := [[_, _]]) sf36.h rfl rfl rfl rfl) ?_
   first | refine sq_append rfl sf36.h Tryz.underlying36 rfl rfl jz (Nat.succ_pos _) (by simp; omega) (by simp; omega) ?_ | refine sq_append rfl sf36.h Tryz.underlying36 rfl rfl (less_slx _ _) (Nat.succ_pos _) (by simp; omega) (by simp; omega) ?_
   refine wz 4 ?_
   exact ⟨⟨k + 1, by omega⟩, by simp only; omega, sb 3 ⟨jz, Less.eq (by rw [eS, ← lo_form, ← hi_form] <;> rfl), jz, jz, jz, trivial⟩ (hH := (congrArg (fun n => [_, _, AObj.tok n]) (by rw [eS]; simp)))⟩
  obtain rfl : k = r.kinds.length := by omega
  refine wz 2 ?_
  exact retQ_pure (v := .own _ _ _) rfl rfl (less_own _ _ _)
end Go.Proofs.YtjpokekbjmdgmaaGreatDoor
namespace Go.Proofs.YtjpokekbjmdgmaaGreatDoor
open Go Go.Ab Ni Hd
instance en57 : EnT Tryz.prog 57 := ⟨Ent.of Tryz.func57 (by kernel_rfl) rfl⟩
instance un4 : UnD Tryz.prog 4 .bool := ⟨by kernel_rfl⟩
theorem slim_t {l : List Int} (h : slimB l = true) : APure Tryz.prog 30 [ints l] (B true) := by have q := slim_pure l; rw [h] at q; exact q
theorem slim_f {l : List Int} (h : slimB l = false) : APure Tryz.prog 30 [ints l] (B false) := by have q := slim_pure l; rw [h] at q; exact q
theorem find_t {r : Rg} {f : List Int} (hf : slimB f = true) (h : fdOK r f = true) : APure Tryz.prog 24 [rgA r, ints f] (B true) := by have q := rfind_pure r f (slim_len hf); rw [h] at q; exact q
theorem find_f {r : Rg} {f : List Int} (hf : slimB f = true) (h : fdOK r f = false) : APure Tryz.prog 24 [rgA r, ints f] (B false) := by have q := rfind_pure r f (slim_len hf); rw [h] at q; exact q
theorem chk_t {r : Rg} (hs : shB r = true) (h : rgOK r = true) : APure Tryz.prog 57 [rgA r] (I 0) := by have q := check_pure r (shB_len hs).1 (shB_len hs).2.1 (shB_len hs).2.2; rw [h] at q; exact q
theorem chk_f {r : Rg} (hs : shB r = true) (h : rgOK r = false) : APure Tryz.prog 57 [rgA r] (I 2) := by have q := check_pure r (shB_len hs).1 (shB_len hs).2.1 (shB_len hs).2.2; rw [h] at q; exact q
theorem hide_t {r : Rg} {n : Int} (hs : shB r = true) (h : hdIn r n = true) : APure Tryz.prog 22 [rgA r, I n] (B true) := by have q := rhide_pure r n (shB_len hs).2.1; rw [h] at q; exact q
theorem hide_f {r : Rg} {n : Int} (hs : shB r = true) (h : hdIn r n = false) : APure Tryz.prog 22 [rgA r, I n] (B false) := by have q := rhide_pure r n (shB_len hs).2.1; rw [h] at q; exact q
theorem rated_t {r : Rg} {x : Rt} (h : rtOK r x = true) : APure Tryz.prog 23 [rgA r, rtA x] (B true) := by have q := rrated_pure r x; rw [h] at q; exact q
theorem rated_f {r : Rg} {x : Rt} (h : rtOK r x = false) : APure Tryz.prog 23 [rgA r, rtA x] (B false) := by have q := rrated_pure r x; rw [h] at q; exact q
theorem okW_no {r : Rg} {n : Int} {x : Rt} (h : rgOK r = false ∨ hdIn r n = false ∨ rtOK r x = false) : okW r n x = false := by unfold okW; rcases h with h | h | h <;> rw [h] <;> simp
theorem okC_no {r : Rg} {n : Int} {f : List Int} {x : Rt} (h : rgOK r = false ∨ hdIn r n = false ∨ rtOK r x = false ∨ fdOK r f = false) : okC r n f x = false := by unfold okC okF; rcases h with h | h | h | h <;> rw [h] <;> simp
theorem wp_f {r : Rg} {n : Int} {x : Rt} (hs : shB r = true) (h : rgOK r = false ∨ hdIn r n = false ∨ rtOK r x = false) : APure Tryz.prog 26 [rgA r, I n, rtA x] (.tup [spans [], I 2]) := warped_bad r n x (shB_len hs).1 (shB_len hs).2.1 (shB_len hs).2.2 (okW_no h)
theorem cg_f {r : Rg} {n : Int} {f : List Int} {x : Rt} (hs : shB r = true) (hf : slimB f = true) (h : rgOK r = false ∨ hdIn r n = false ∨ rtOK r x = false ∨ fdOK r f = false) : APure Tryz.prog 27 [rgA r, I n, ints f, rtA x] (.tup [ints [], I 2]) := changes_bad r n f (shB_len hs).1 (shB_len hs).2.1 (shB_len hs).2.2 (slim_len hf) x (okC_no h)
theorem warp_len (r : Rg) (h : Nat) (x : Rt) : (warpOf r h x).length = r.kinds.length := by unfold warpOf; exact warpK_len r h x _
theorem law13_a {r : Rg} {n : Int} {f : List Int} {x : Rt} (hs : shB r = false) : APure Tryz.prog 13 [rgA r, I n, ints f, rtA x] (B true) := by
  refine ap Tryz.func13 (fun e0 he0 => ?_)
  refine wz 4 ?_
  refine kz az (short_f hs) ?_
  refine wz 7 ?_
  refine kz az (known_pure) ?_
  refine wz 1 ?_
  exact rz rfl jz
theorem law13_b {r : Rg} {n : Int} {f : List Int} {x : Rt} (hs : shB r = true) (hf : slimB f = false) : APure Tryz.prog 13 [rgA r, I n, ints f, rtA x] (B true) := by
  refine ap Tryz.func13 (fun e0 he0 => ?_)
  refine wz 4 ?_
  refine kz az (short_t hs) ?_
  refine wz 3 ?_
  refine ky az (slim_f hf) ?_
  refine wz 3 ?_
  refine kz az (known_pure) ?_
  refine wz 1 ?_
  exact rz rfl jz
theorem law13_c {r : Rg} {n : Int} {f : List Int} {x : Rt} (hs : shB r = true) (hf : slimB f = true) (hr : rgOK r = false) : APure Tryz.prog 13 [rgA r, I n, ints f, rtA x] (B true) := by
  refine ap Tryz.func13 (fun e0 he0 => ?_)
  refine wz 4 ?_
  refine kz az (short_t hs) ?_
  refine wz 3 ?_
  refine ky az (slim_t hf) ?_
  refine wz 4 ?_
  refine kz az (chk_f hs hr) ?_
  refine wz 4 ?_
  refine kz az (wp_f hs (.inl hr)) ?_
  refine wz 9 ?_
  refine kz az (cg_f hs hf (.inl hr)) ?_
  refine wz 6 ?_
  refine kz az (reg_f hs hr) ?_
  refine wz 17 ?_
  refine kz az (reg_f hs hr) ?_
  refine wz 28 ?_
  refine ky az (known_pure) ?_
  refine wz 2 ?_
  exact rz rfl jz
theorem law13_d {r : Rg} {n : Int} {f : List Int} {x : Rt} (hs : shB r = true) (hf : slimB f = true) (hr : rgOK r = true) (hh : hdIn r n = false) : APure Tryz.prog 13 [rgA r, I n, ints f, rtA x] (B true) := by
  refine ap Tryz.func13 (fun e0 he0 => ?_)
  refine wz 4 ?_
  refine kz az (short_t hs) ?_
  refine wz 3 ?_
  refine ky az (slim_t hf) ?_
  refine wz 4 ?_
  refine kz az (chk_t hs hr) ?_
  refine wz 4 ?_
  refine kz az (wp_f hs (.inr (.inl hh))) ?_
  refine wz 9 ?_
  refine kz az (cg_f hs hf (.inr (.inl hh))) ?_
  refine wz 6 ?_
  refine kz az (reg_t hs hr) ?_
  refine wz 4 ?_
  refine ky az (hide_f hs hh) ?_
  refine wz 12 ?_
  refine kz az (reg_t hs hr) ?_
  refine wz 28 ?_
  refine ky az (known_pure) ?_
  refine wz 2 ?_
  exact rz rfl jz
theorem law13_e {r : Rg} {n : Int} {f : List Int} {x : Rt} (hs : shB r = true) (hf : slimB f = true) (hr : rgOK r = true) (hh : hdIn r n = true) (hx : rtOK r x = false) : APure Tryz.prog 13 [rgA r, I n, ints f, rtA x] (B true) := by
  refine ap Tryz.func13 (fun e0 he0 => ?_)
  refine wz 4 ?_
  refine kz az (short_t hs) ?_
  refine wz 3 ?_
  refine ky az (slim_t hf) ?_
  refine wz 4 ?_
  refine kz az (chk_t hs hr) ?_
  refine wz 4 ?_
  refine kz az (wp_f hs (.inr (.inr hx))) ?_
  refine wz 9 ?_
  refine kz az (cg_f hs hf (.inr (.inr (.inl hx)))) ?_
  refine wz 6 ?_
  refine kz az (reg_t hs hr) ?_
  refine wz 4 ?_
  refine ky az (hide_t hs hh) ?_
  refine wz 5 ?_
  refine ky az (rated_f hx) ?_
  refine wz 6 ?_
  refine kz az (reg_t hs hr) ?_
  refine wz 28 ?_
  refine ky az (known_pure) ?_
  refine wz 2 ?_
  exact rz rfl jz
theorem law13_f {r : Rg} {h : Nat} {f : List Int} {x : Rt} (hs : shB r = true) (hf : slimB f = true) (hr : rgOK r = true) (hh : hdIn r h = true) (hhl : h < r.hides.length) (hx : rtOK r x = true) (hd : fdOK r f = false) : APure Tryz.prog 13 [rgA r, I h, ints f, rtA x] (B true) := by
  refine ap Tryz.func13 (fun e0 he0 => ?_)
  refine wz 4 ?_
  refine kz az (short_t hs) ?_
  refine wz 3 ?_
  refine ky az (slim_t hf) ?_
  refine wz 4 ?_
  refine kz az (chk_t hs hr) ?_
  refine wz 4 ?_
  refine kz az (warped_ok (shB_len hs).1 (shB_len hs).2.1 (shB_len hs).2.2 (show okW r h x = true by unfold okW; rw [hr, hh, hx]; rfl)) ?_
  refine wz 9 ?_
  refine kz az (cg_f hs hf (.inr (.inr (.inr hd)))) ?_
  refine wz 6 ?_
  refine kz az (reg_t hs hr) ?_
  refine wz 4 ?_
  refine ky az (hide_t hs hh) ?_
  refine wz 5 ?_
  refine ky az (rated_t hx) ?_
  refine wz 14 ?_
  refine ky az (rwarped_pure (rgOK_B hr) hhl (rates_bd (rgOK_B hr) hx)) ?_
  refine ky az (sames_t (by rw [warp_len]; exact (shB_len hs).1) (by rw [warp_len]; exact (shB_len hs).1) rfl) ?_
  refine wz 5 ?_
  refine kz az (find_f hf hd) ?_
  refine wz 10 ?_
  refine ky az (known_pure) ?_
  refine wz 2 ?_
  exact rz rfl jz
theorem law13_g {r : Rg} {h : Nat} {f : List Int} {x : Rt} (hs : shB r = true) (hf : slimB f = true) (hr : rgOK r = true) (hh : hdIn r h = true) (hhl : h < r.hides.length) (hx : rtOK r x = true) (hd : fdOK r f = true) : APure Tryz.prog 13 [rgA r, I h, ints f, rtA x] (B true) := by
  refine ap Tryz.func13 (fun e0 he0 => ?_)
  refine wz 4 ?_
  refine kz az (short_t hs) ?_
  refine wz 3 ?_
  refine ky az (slim_t hf) ?_
  refine wz 4 ?_
  refine kz az (chk_t hs hr) ?_
  refine wz 4 ?_
  refine kz az (warped_ok (shB_len hs).1 (shB_len hs).2.1 (shB_len hs).2.2 (show okW r h x = true by unfold okW; rw [hr, hh, hx]; rfl)) ?_
  refine wz 9 ?_
  refine kz az (changes_ok (shB_len hs).1 (shB_len hs).2.1 (shB_len hs).2.2 (slim_len hf) (show okC r h f x = true by unfold okC okF; rw [hr, hh, hx, hd]; rfl)) ?_
  refine wz 6 ?_
  refine kz az (reg_t hs hr) ?_
  refine wz 4 ?_
  refine ky az (hide_t hs hh) ?_
  refine wz 5 ?_
  refine ky az (rated_t hx) ?_
  refine wz 14 ?_
  refine ky az (rwarped_pure (rgOK_B hr) hhl (rates_bd (rgOK_B hr) hx)) ?_
  refine ky az (sames_t (by rw [warp_len]; exact (shB_len hs).1) (by rw [warp_len]; exact (shB_len hs).1) rfl) ?_
  refine wz 5 ?_
  refine kz az (find_t hf hd) ?_
  refine wz 10 ?_
  refine ky az (rchanges_pure (rgOK_B hr) hhl (rates_bd (rgOK_B hr) hx) (fdOK_iff.1 hd).1 hd) ?_
  refine ky az (same_t (by have h9 := chA_le (rgOK_B hr) h f x; exact h9) (by have h9 := chA_le (rgOK_B hr) h f x; exact h9) rfl) ?_
  refine wz 2 ?_
  refine ky az (known_pure) ?_
  refine wz 2 ?_
  exact rz rfl jz
/-- **HideWarps.** -/
theorem law13 (r : Rg) (n : Int) (_ : -9223372036854775808 ≤ n) (_ : n ≤ 9223372036854775807) (f : List Int) (x : Rt) : APure Tryz.prog 13 [rgA r, I n, ints f, rtA x] (B true) := by
  cases hs : shB r with
  | false => exact law13_a hs
  | true =>
    cases hf : slimB f with
    | false => exact law13_b hs hf
    | true =>
      cases hr : rgOK r with
      | false => exact law13_c hs hf hr
      | true =>
        cases hh : hdIn r n with
        | false => exact law13_d hs hf hr hh
        | true =>
          cases hx : rtOK r x with
          | false => exact law13_e hs hf hr hh hx
          | true =>
            have hi := hdIn_iff.1 hh
            obtain ⟨h, rfl⟩ : ∃ h : Nat, n = (h : Int) := ⟨n.toNat, by omega⟩
            cases hd : fdOK r f with
            | false => exact law13_f hs hf hr hh (by omega) hx hd
            | true => exact law13_g hs hf hr hh (by omega) hx hd
end Go.Proofs.YtjpokekbjmdgmaaGreatDoor
