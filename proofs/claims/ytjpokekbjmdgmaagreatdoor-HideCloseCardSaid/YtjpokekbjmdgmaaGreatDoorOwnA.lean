/-
  A part of the proof: conditions: none beyond each theorem's own.
-/
import Derived.Test.YtjpokekbjmdgmaaGreatDoorLogicA
import Derived.Test.YtjpokekbjmdgmaaGreatDoorLogicD
import Derived.Laws.Small
import Derived.Deep.Slices
import Derived.OpenShut
import Derived.Carry
import Derived.Test.YtjpokekbjmdgmaaGreatDoorLogicC
import Derived.IntWalk
import Derived.Test.YtjpokekbjmdgmaaGreatDoorSpecA
import Derived.Test.YtjpokekbjmdgmaaGreatDoorProg
import Derived.KernelRfl
import Derived.Lib.LaidTab
import Derived.Lib.ItoaNum
import Derived.Test.YtjpokekbjmdgmaaGreatDoorWalkC
import Derived.Test.YtjpokekbjmdgmaaGreatDoorWalkE
import Derived.Test.YtjpokekbjmdgmaaGreatDoorLogicB
import Derived.Test.YtjpokekbjmdgmaaGreatDoorShelf
import Derived.Test.YtjpokekbjmdgmaaGreatDoorWalkA
import Derived.Test.YtjpokekbjmdgmaaGreatDoorWalkB
import Derived.Test.YtjpokekbjmdgmaaGreatDoorWalkD
import Derived.Test.YtjpokekbjmdgmaaGreatDoorRow
set_option linter.all false
set_option maxRecDepth 100000
set_option maxHeartbeats 8000000
namespace Go.Ab
variable [Tabs]
theorem FW_room (r : Option Nat) (n : Nat) : (FW r).room n := fun _ h => by simp [FW] at h
variable {c : Ctx} {Q : AExit → St → Prop} {s : St}
end Go.Ab
namespace Go.Ab
variable [Tabs]
section
variable {P : Program} {r : Option Nat} {H : List AObj} {ρ : Operand → AV}
variable {d : Option Tmp} {t : TypeId} {p : String} {af : Array Edge} {g : Option (Nat × Bool)} {x y : Operand}
theorem ev_bool2 {op : BinOp} {a b : Bool} {xt yt : TypeId} {v : AV} (hx : Less (ρ x) (.raw (.bool a))) (hy : Less (ρ y) (.raw (.bool b)))
    (hr : ∀ w e, ∃ u, (binOp op xt (.bool a) (.bool b)).run P w = .ok u w ∧ Rep e v u) : Ev P r ⟨d, .binOp op xt x y yt, t, p, af, g⟩ H ρ v :=
  Ev.pure (by intro c h; cases h) fun e ρc _ _ hs => by
    have e1 := rep_raw hx (hs x (by simp [Op.operands]))
    have e2 := rep_raw hy (hs y (by simp [Op.operands]))
    obtain ⟨u, h1, h2⟩ := hr e.w e
    refine ⟨u, ?_, h2⟩
    have hg : (eqGuard op xt x y (.bool a) (.bool b)).run P e.w = .ok () e.w := by
      unfold eqGuard; split <;> simp
    simp [execOp, e1, e2, hg, h1]
theorem ev_neqB {a b : Bool} {xt yt : TypeId} (ht : P.underlying xt = some .bool) (hx : Less (ρ x) (.raw (.bool a))) (hy : Less (ρ y) (.raw (.bool b))) :
    Ev P r ⟨d, .binOp .neq xt x y yt, t, p, af, g⟩ H ρ (.raw (.bool (!(a == b)))) :=
  ev_bool2 hx hy fun w e => ⟨_, run_neq_bool w xt a b ht, by rw [Rep]⟩
end
end Go.Ab
namespace Go.Ab
open Go.ChangeShapes Go.WideShapes
variable [Tabs]
theorem env0_ok {w : World} (h : Tabs.is w) (hb : ∀ b, Tabs.blk b → b < w.heap.size) : EnvOK (env0 w) :=
  ⟨fun b hb => by have hb' : w.heap.size ≤ b := hb
                  have : w.heap[b]? = none := by simpa using hb'
                  simp [env0, this], fun i o h => by simp [env0] at h, fun i j b hi => by simp [env0] at hi, fun i b hi => by simp [env0] at hi, h, fun b hk => ⟨hb b hk, fun i hi => by simp [env0] at hi⟩⟩
section
variable {H : Type} {enc : TypeId × Value → H} {P : Program} {w : World} {base : Nat} {spare : Nat → Bool} {held : Bool}
theorem trodAll_stays (hl : laidOutB P = true) {W W' : World} (hheap : ∀ b, b < W.heap.size → W'.heap[b]? = W.heap[b]?) {sp' : Nat → Bool} :
    ∀ {ts : List TypeId} {vs : List Value} {ds : List (DataW H)} {ps : List MemPlace}, (∀ t ∈ ts, P.readableRec t = true ∧ t < P.types.size) → DataW.TrodAll enc P W base (fun _ => true) true ts vs ds ps → (∀ p ∈ ps, p.block < W.heap.size) → (∀ p ∈ ps, sp' p.block = true) →
      DataW.TrodAll enc P W' base sp' true ts vs ds ps
  | [], _, _, _, _, h, _, _ => by
    obtain ⟨rfl, rfl, rfl⟩ := trodAll_nil h
    exact trodAll_mk0
  | t :: ts, _, _, _, ht, h, hlt, hs => by
    obtain ⟨v, vs1, d, ds1, a, b, rfl, rfl, rfl, h1, h2⟩ := trodAll_cons h
    refine trodAll_cons_mk (WideElems.Trod_stays hl (ht t (by simp)).1 (ht t (by simp)).2 h1 (fun p hp => ?_) (fun p hp => hs p (by simp [hp]))) (trodAll_stays hl hheap (fun u hu => ht u (List.mem_cons_of_mem _ hu)) h2 (fun p hp => hlt p (by simp [hp])) (fun p hp => hs p (by simp [hp])))
    have hb := hheap p.block (hlt p (by simp [hp]))
    cases p with
    | cell b o => exact cell?_of_heap hb
    | map b => exact hb
/-- **What a law's row asks of a call that returns true and leaves what it met.** -/
theorem post_true {f : Func} {s : ChangeSpec} {W W' : World} {args : Array Value} {ds gs : List (DataW H)} {before : List MemPlace} {tb : TypeId} (hl : laidOutB P = true) (hread : ∀ t ∈ f.params.toList, P.readableRec t = true ∧ t < P.types.size)
    (hres : f.resultTypes = #[tb]) (htb : P.underlying tb = some .bool) (hvars : s.vars = []) (hspec : (s.fn H ds).results = [.lit (.bool true)] ∧ (s.fn H ds).args = ds ∧ (s.fn H ds).vars = [])
    (hW : DataW.Whole enc P f.params.toList s.vars false W args.toList ds gs before) (hheap : ∀ b, b < W.heap.size → W'.heap[b]? = W.heap[b]?) (hst : Still W W') :
    s.post enc P f false true false false W args (.bool true) W' := by
  have hlt := hW.lt
  have hW0 := hW
  obtain ⟨p, q, h1, h2, rfl, _, _⟩ := hW
  rw [hvars] at h2
  obtain ⟨rfl, rfl⟩ := trodVars_none h2
  simp only [List.append_nil] at hlt
  obtain ⟨e1, e2, e3⟩ := hspec
  refine ⟨ds, [], p ++ [], [], p, [], hW0, ?_, ?_, ?_, ?_, fun h => by cases h⟩
  · rw [List.append_nil, e1, hres]
    exact trodAll_cons_mk (RowKit.shut_bool htb _) trodAll_mk0
  · rw [List.append_nil, e2]
    exact trodAll_stays hl hheap hread h1 hlt (fun p hp => by simpa using hlt p hp)
  · rw [List.append_nil, e3, hvars]; rfl
  · refine ⟨hst.1, hst.2, fun i hi => ?_⟩
    rw [hheap i hi]
    split <;> simp_all
theorem APure.law {f : FuncId} {args : List AV} {W : World} {vs : Array Value} (hc : APure P f args (.raw (.bool true))) (ht : Tabs.is W) (hb : ∀ b, Tabs.blk b → b < W.heap.size) (hr : RepL (env0 W) args vs.toList) :
    Calls P f vs W fun x W' => x = .returned (.bool true) ∧ (∀ b, b < W.heap.size → W'.heap[b]? = W.heap[b]?) ∧ Still W W' := by
  refine ((hc (env0 W) vs (env0_ok ht hb) hr).calls (fun k => FW_room none k)).mono ?_
  rintro x w' ⟨u, e', rfl, rfl, hx, hu⟩
  rw [Rep] at hu; subst hu
  exact ⟨rfl, hx.heap, hx.still⟩
end
end Go.Ab
namespace Go.Ab
variable [Tabs]
section seq
variable {c : Ctx} {ops : Array Oper} {Q : AExit → St → Prop} {rest : List Oper} {s : St} {i : Nat}
variable {d : Option Tmp} {op : Op} {t : TypeId} {p : String} {af : Array Edge}
end seq
section cond
variable {c : Ctx} {Q : AExit → St → Prop} {s : St} {x : Operand} {y z : Code}
end cond
section split
variable {c : Ctx} {ops : Array Oper} {Q : AExit → St → Prop} {s : St} {i : Nat} {l : List Oper}
end split
section draw
variable {c : Ctx} {H0 : List AObj} {ops : Array Oper} {Q : AExit → St → Prop} {m i : Nat} {s : St} {rest : List Oper}
variable {d : Option Tmp} {op : Op} {t : TypeId} {p : String} {af : Array Edge}
theorem dn0 {j u : Nat} (hj : gslot ops j = some u) (ht : Nat.blt u c.nt = true) (hb : Less (sget s.sl u) (.raw (.bool true))) (hd : dOK c.nt d = true) (k : DR c H0 ops Q m (i + 1) rest (s.put d (.raw (.tuple #[])))) :
    DR c H0 ops Q m i (⟨d, op, t, p, af, some (j, false)⟩ :: rest) s := dr_no hj ht hb rfl hd k
theorem du {j u : Nat} {want : Bool} (hj : gslot ops j = some u) (ht : Nat.blt u c.nt = true) (hb : Less (sget s.sl u) (.raw (.tuple #[]))) (hd : dOK c.nt d = true) (k : DR c H0 ops Q m (i + 1) rest (s.put d (.raw (.tuple #[])))) :
    DR c H0 ops Q m i (⟨d, op, t, p, af, some (j, want)⟩ :: rest) s := dr_no hj ht hb rfl hd k
end draw
section ex
variable {c : Ctx} {Q : AExit → St → Prop} {K : St → Prop} {s : St} {id j : Nat}
end ex
section app
variable {c : Ctx} {ops : Array Oper} {Q : AExit → St → Prop} {s : St} {i : Nat} {o : Oper} {l m : List Oper} {H0 : List AObj} {k : Nat}
end app
theorem W (n : Nat) {p q : Prop} (k : q) (h : Cnt n → (Unit → q) → p := by
  intro hc hk
  repeat (
    replace hc := Cnt.pred hc
    repeat (with_reducible (first | refine xn ?_ | refine sa ?_ | refine sa0 ?_ | refine aw_seq ?_ | refine aw_region ?_ | refine sq_nil ?_ | refine aw_skip ?_ | refine aw_block ?_ | refine bn ?_ | refine aw_exit ?_ | refine xe ?_ | refine be ?_ | refine bo ?_ | refine gn ?_ | refine ge ?_ | refine xr ?_ | refine br ?_ | refine gr ?_ | refine aw_label ?_ | refine aw_scope ?_))
    first
    | ((with_reducible apply sq_ev); exact rfl; exact EV)
    | ((with_reducible apply sn1); exact rfl; exact rfl; exact GD J; exact rfl)
    | ((with_reducible apply sn0); exact rfl; exact rfl; exact GD J; exact rfl)
    | ((with_reducible apply sq_yes); exact rfl; exact rfl; exact GD J; exact rfl; exact EV)
    | ((with_reducible apply su); exact rfl; exact rfl; exact J; exact rfl)
    | ((with_reducible apply sq_box); exact rfl; exact J; exact rfl)
    | ((with_reducible apply sq_alloc); exact rfl; exact ZeO.h)
    | ((with_reducible apply sq_store); exact rfl; exact J; exact J; exact rfl; exact rfl; exact TyF.h; exact rfl; exact rfl)
    | ((with_reducible refine aw_true ?_ ?_); exact GD J)
    | ((with_reducible refine aw_false ?_ ?_); exact GD J))
  repeat (with_reducible (first | refine xn ?_ | refine sa ?_ | refine sa0 ?_ | refine aw_seq ?_ | refine aw_region ?_ | refine sq_nil ?_ | refine aw_skip ?_ | refine aw_block ?_ | refine bn ?_ | refine aw_exit ?_ | refine xe ?_ | refine be ?_ | refine bo ?_ | refine gn ?_ | refine ge ?_ | refine xr ?_ | refine br ?_ | refine gr ?_ | refine aw_label ?_ | refine aw_scope ?_ | refine aw_ret ?_))
  exact hk ()) : p := h ⟨⟩ fun _ => k
end Go.Ab
namespace Hd
open Ni (inn)
theorem lohi {r : Rg} (B : RgB r) {h m : Nat} {x : Rt} (hx : rtOK r x = true) (hh : h < r.hides.length) (hm : m < r.kinds.length) : 0 ≤ lo r.off (sz r h m * rm r x m) ∧ lo r.off (sz r h m * rm r x m) ≤ hi r.off (sz r h m * rm r x m) ∧ hi r.off (sz r h m * rm r x m) ≤ 1000 := by
  have h1 := B.off; have ha := B.a; have hb := B.b
  have hs := B.sz h m hh hm
  obtain ⟨x1, x2⟩ := rtOK_iff.1 hx
  have hr : 700 ≤ rm r x m ∧ rm r x m ≤ 1300 := by unfold rm; split <;> omega
  have hp : 0 ≤ sz r h m * rm r x m := Int.mul_nonneg (by omega) (by omega)
  have hq : sz r h m * rm r x m ≤ 500 * 1300 := Int.mul_le_mul (by omega) (by omega) (by omega) (by omega)
  rw [lo_eq, hi_eq (by omega) hp]; omega
end Hd
namespace Hd
open Ni (inn)
theorem mem_chA {r : Rg} {h : Nat} {f : List Int} {x : Rt} {m : Nat} : (m : Int) ∈ chA r h f x ↔ m < r.kinds.length ∧ chgM r h f m x = true := by
  unfold chA chgM
  rw [mem_nums]
  constructor
  · rintro ⟨k, h1, h2, e⟩
    have : m = k := by omega
    subst this; exact ⟨h1, h2⟩
  · rintro ⟨h1, h2⟩; exact ⟨m, h1, h2, rfl⟩
end Hd
namespace Go.Proofs.YtjpokekbjmdgmaaGreatDoor
open Go Go.Ab Ni Hd
theorem rin_pure (n lo hi : Int) : APure Tryz.prog 74 [I n, I lo, I hi] (B (inn n lo hi)) := by
  refine ap Tryz.func74 (fun e0 he0 => ?_)
  refine wz 5 ?_
  refine sz 10 (fun g1 g1' => ?_) (fun g1 g1' => ?_)
  ·refine wz 5 ?_
   exact rz rfl (Less.eq (by simp [inn, *]))
  refine wz 5 ?_
  exact rz rfl (Less.eq (by simp [inn, *]))
end Go.Proofs.YtjpokekbjmdgmaaGreatDoor
namespace Go.Proofs.YtjpokekbjmdgmaaGreatDoor
open Go Go.Ab Ni Hd
def okM (r : Rg) (l : List Int) : Bool := decide (∀ i, (hi : i < l.length) → msIn r l[i] = true ∧ (0 < i → l[i - 1] < l[i]))
theorem okM_no {r : Rg} {l : List Int} {i : Nat} (hi : i < l.length) (h : ¬ (msIn r l[i] = true ∧ (0 < i → l[i - 1] < l[i]))) : okM r l = false := by
  unfold okM; rw [decide_eq_false_iff_not]; exact fun q => h (q i hi)
theorem okM_yes {r : Rg} {l : List Int} (h : ∀ i, (hi : i < l.length) → msIn r l[i] = true ∧ (0 < i → l[i - 1] < l[i])) : okM r l = true := by unfold okM; exact decide_eq_true h
end Go.Proofs.YtjpokekbjmdgmaaGreatDoor
namespace Go.Proofs.YtjpokekbjmdgmaaGreatDoor
open Go Go.Ab Ni Hd
def shB (r : Rg) : Bool := decide ((r.kinds.length ≤ 8 ∧ r.hides.length ≤ 8) ∧ ∀ i, (hi : i < r.hides.length) → i < 9 → r.hides[i].length ≤ 10)
theorem shB_fin {r : Rg} (h3 : ∀ i, (hi : i < r.hides.length) → i < 9 → r.hides[i].length ≤ 10) : shB r = (decide (r.kinds.length ≤ 8) && decide (r.hides.length ≤ 8)) := by
  rw [Bool.eq_iff_iff]; unfold shB; simp only [decide_eq_true_eq, Bool.and_eq_true]
  exact ⟨fun h => h.1, fun h => ⟨h, h3⟩⟩
theorem shB_row {r : Rg} {i : Nat} (hi : i < r.hides.length) (h9 : i < 9) (h : ¬ r.hides[i].length ≤ 10) : shB r = false := decide_eq_false fun q => h (q.2 i hi h9)
theorem shB_len {r : Rg} (h : shB r = true) : r.kinds.length ≤ 1000000 ∧ r.hides.length ≤ 1000000 ∧ (∀ h ∈ r.hides, h.length ≤ 1000000) := by
  have q := of_decide_eq_true h
  refine ⟨by omega, by omega, fun x hx => ?_⟩
  obtain ⟨i, hi, rfl⟩ := List.getElem_of_mem hx
  have := q.2 i hi (by omega); omega
theorem rg_kind {r : Rg} {i : Nat} (hi : i < r.kinds.length) (h : kdOK r.kinds[i] = false) : rgOK r = false := by
  have e : r.kinds.all kdOK = false := by rw [List.all_eq_false]; exact ⟨_, List.getElem_mem hi, by rw [h]; simp⟩
  unfold rgOK; rw [e]; simp
theorem rg_hide {r : Rg} {i : Nat} (hi : i < r.hides.length) (h : hdOK r.kinds.length r.hides[i] = false) : rgOK r = false := by
  have e : r.hides.all (hdOK r.kinds.length) = false := by rw [List.all_eq_false]; exact ⟨_, List.getElem_mem hi, by rw [h]; simp⟩
  unfold rgOK; rw [e]; simp
theorem hd_len {w : Nat} {h : List Int} (e : h.length ≠ w) : hdOK w h = false := by unfold hdOK; rw [decide_eq_false e]; rfl
theorem hd_num {w : Nat} {h : List Int} {j : Nat} (hj : j < h.length) (e : inn h[j] 1 500 = false) : hdOK w h = false := by
  have q : (h.all fun n => inn n 1 500) = false := by rw [List.all_eq_false]; exact ⟨_, List.getElem_mem hj, by rw [e]; simp⟩
  unfold hdOK; rw [q]; simp
theorem hd_yes {w : Nat} {h : List Int} (e : h.length = w) (k : ∀ j, (hj : j < h.length) → inn h[j] 1 500 = true) : hdOK w h = true := by
  unfold hdOK; rw [decide_eq_true e, List.all_eq_true.2 fun x hx => by obtain ⟨j, hj, rfl⟩ := List.getElem_of_mem hx; exact k j hj]; rfl
theorem all_of {α : Type} {q : α → Bool} {l : List α} (h : ∀ j, (hj : j < l.length) → q l[j] = true) : l.all q = true := List.all_eq_true.2 fun x hx => by obtain ⟨j, hj, rfl⟩ := List.getElem_of_mem hx; exact h j hj
theorem fd_bad {r : Rg} {f : List Int} {i : Nat} (hi : i < f.length) (h : inn f[i] (-1) 1000 = false) : fdOK r f = false := by
  have e : (f.all fun n => inn n (-1) 1000) = false := by rw [List.all_eq_false]; exact ⟨_, List.getElem_mem hi, by rw [h]; simp⟩
  unfold fdOK; rw [e]; simp
theorem short_pure (r : Rg) : APure Tryz.prog 20 [rgA r] (B (shB r)) := by
  refine ap Tryz.func20 (fun e0 he0 => ?_)
  refine wz 3 ?_
  refine aw_loopk (ι := { k : Nat // k ≤ r.hides.length ∧ k ≤ 9 ∧ ∀ i, (hi : i < r.hides.length) → i < k → r.hides[i].length ≤ 10 }) [1] (fun i => [(3, I i.1)]) (fun H i => H) (fun i => r.hides.length - i.1) (⟨0, Nat.zero_le _, by omega, by omega⟩) ⟨jz, jz, trivial⟩ rfl ?_
  rintro ⟨k, hk, hk9, hok⟩
  refine nz ?_
  refine wz 6 ?_
  refine sz 9 (fun g2_5 g2_5' => ?_) (fun g2_5 g2_5' => ?_)
  ·have hkl : k < r.hides.length := by omega
   refine wz 3 ?_
   refine iz (fun c_12 c_12' => ?_) (fun c_12 c_12' => ?_)
   ·have hk9b : k < 9 := by have := of_decide_eq_true c_12; omega
    refine wz 7 ?_
    refine iz (fun c_21 c_21' => ?_) (fun c_21 c_21' => ?_)
    ·have hbad := shB_row hkl hk9b (by omega)
     refine wz 1 ?_
     exact rz rfl (Less.eq (by rw [hbad]))
    refine wz 3 ?_
    exact ⟨⟨k + 1, by omega, by omega, fun i hi h => (by by_cases e : i = k; (subst e; omega); exact hok i hi (by omega))⟩, by simp only; omega, Sub.slots ⟨jz, jz, trivial⟩⟩
   refine wz 5 ?_
   refine sz 26 (fun g6_4 g6_4' => ?_) (fun g6_4 g6_4' => ?_)
   ·refine wz 6 ?_
    exact rz rfl (Less.eq (congrArg B (by have h9 := of_decide_eq_false c_12; rw [shB_fin (fun i hi h8 => hok i hi (by omega)), Bool.eq_iff_iff]; simp; omega)))
   refine wz 6 ?_
   exact rz rfl (Less.eq (congrArg B (by have h9 := of_decide_eq_false c_12; rw [shB_fin (fun i hi h8 => hok i hi (by omega)), Bool.eq_iff_iff]; simp; omega)))
  obtain rfl : k = r.hides.length := by omega
  refine wz 9 ?_
  refine sz 26 (fun g6_4 g6_4' => ?_) (fun g6_4 g6_4' => ?_)
  ·refine wz 6 ?_
   exact rz rfl (Less.eq (congrArg B (by rw [shB_fin (fun i hi _ => hok i hi hi), Bool.eq_iff_iff]; simp; omega)))
  refine wz 6 ?_
  exact rz rfl (Less.eq (congrArg B (by rw [shB_fin (fun i hi _ => hok i hi hi), Bool.eq_iff_iff]; simp; omega)))
theorem rspan_pure (a b : Int) (ha : -1000000 ≤ a ∧ a ≤ 1000000 ∨ True) : APure Tryz.prog 75 [.agg [I a, I b]] (B (spOK a b)) := by
  refine ap Tryz.func75 (fun e0 he0 => ?_)
  refine vz 2 ?_
  refine sq_nil ?_
  refine aw_seq ?_
  have hin : ∀ x lo hi : Int, inn x lo hi = true ↔ lo ≤ x ∧ x ≤ hi := fun x lo hi => by unfold inn; simp
  refine wz 2 ?_
  refine kz az (rin_pure _ _ _) ?_
  refine wz 1 ?_
  refine sz 6 (fun g1_3 g1_3' => ?_) (fun g1_3 g1_3' => ?_)
  ·have h1 := (hin _ _ _).1 g1_3
   refine wz 4 ?_
   refine ky az (rin_pure _ _ _) ?_
   refine wz 2 ?_
   refine sz 13 (fun g1_10 g1_10' => ?_) (fun g1_10 g1_10' => ?_)
   ·have h2 := (hin _ _ _).1 g1_10
    refine wz 8 ?_
    exact rz rfl (Less.eq (by unfold spOK; simp [*]))
   refine wz 8 ?_
   exact rz rfl (Less.eq (by unfold spOK; simp [*]))
  refine wz 15 ?_
  exact rz rfl (Less.eq (by unfold spOK; simp [*]))
theorem register_pure (r : Rg) (hk : r.kinds.length ≤ 1000000) (hh : r.hides.length ≤ 1000000) (hw : ∀ h ∈ r.hides, h.length ≤ 1000000) : APure Tryz.prog 21 [rgA r] (B (rgOK r)) := by
  refine ap Tryz.func21 (fun e0 he0 => ?_)
  refine wz 5 ?_
  refine kz az (rin_pure _ _ _) ?_
  refine wz 2 ?_
  refine sz 11 (fun g1_5 g1_5' => ?_) (fun g1_5 g1_5' => ?_)
  ·refine wz 8 ?_
   exact rz rfl (Less.eq (by unfold rgOK; simp_all))
  refine wz 3 ?_
  refine ky az (rin_pure _ _ _) ?_
  refine wz 2 ?_
  refine iz (fun c_17 c_17' => ?_) (fun c_17 c_17' => ?_)
  ·refine wz 1 ?_
   exact rz rfl (Less.eq (by unfold rgOK; simp_all))
  refine wz 1 ?_
  refine aw_loopk (ι := { k : Nat // k ≤ r.kinds.length ∧ ∀ i, (hi : i < r.kinds.length) → i < k → kdOK r.kinds[i] = true }) [1] (fun i => [(3, I i.1)]) (fun H i => H) (fun i => r.kinds.length - i.1) (⟨0, Nat.zero_le _, by omega⟩) ⟨jz, jz, trivial⟩ rfl ?_
  rintro ⟨k, hkk, hok⟩
  refine nz ?_
  refine wz 5 ?_
  refine iz (fun c_22 c_22' => ?_) (fun c_22 c_22' => ?_)
  ·have hkl : k < r.kinds.length := by omega
   refine wz 7 ?_
   refine sz 31 (fun g6_6 g6_6' => ?_) (fun g6_6 g6_6' => ?_)
   ·refine wz 7 ?_
    refine iz (fun c_38 c_38' => ?_) (fun c_38 c_38' => ?_)
    ·have hbad := rg_kind hkl (by unfold kdOK; have h5 := of_decide_eq_true c_38; exact decide_eq_false (by omega))
     refine wz 1 ?_
     exact rz rfl (Less.eq (by rw [hbad]))
    have hkd : kdOK r.kinds[k] = true := by unfold kdOK; have h5 := of_decide_eq_false c_38; exact decide_eq_true (by omega)
    refine wz 3 ?_
    exact ⟨⟨k + 1, by omega, fun i hi h => (by by_cases e : i = k; (subst e; exact hkd); exact hok i hi (by omega))⟩, by simp only; omega, Sub.slots ⟨jz, jz, trivial⟩⟩
   have hkd : kdOK r.kinds[k] = true := by unfold kdOK; exact decide_eq_true (by omega)
   refine wz 11 ?_
   exact ⟨⟨k + 1, by omega, fun i hi h => (by by_cases e : i = k; (subst e; exact hkd); exact hok i hi (by omega))⟩, by simp only; omega, Sub.slots ⟨jz, jz, trivial⟩⟩
  obtain rfl : k = r.kinds.length := by omega
  have hall1 : r.kinds.all kdOK = true := all_of fun j hj => hok j hj hj
  refine wz 1 ?_
  refine aw_loopk (ι := { k : Nat // k ≤ r.hides.length ∧ ∀ i, (hi : i < r.hides.length) → i < k → hdOK r.kinds.length r.hides[i] = true }) [1] (fun i => [(4, I i.1)]) (fun H i => H) (fun i => r.hides.length - i.1) (⟨0, Nat.zero_le _, by omega⟩) ⟨jz, jz, trivial⟩ rfl ?_
  rintro ⟨k, hkh, hok2⟩
  refine nz ?_
  refine wz 5 ?_
  refine iz (fun c_43 c_43' => ?_) (fun c_43 c_43' => ?_)
  ·have hhl : k < r.hides.length := by omega
   have hwl := hw _ (List.getElem_mem hhl)
   refine wz 0 ?_
   refine aw_draw 10 mo (by kernel_rfl) ?_
   refine dz 10 ?_
   refine wz 0 ?_
   refine iz (fun c_55 c_55' => ?_) (fun c_55 c_55' => ?_)
   ·have hbad := rg_hide hhl (hd_len (by omega))
    refine wz 1 ?_
    exact rz rfl (Less.eq (by rw [hbad]))
   have hle : r.hides[k].length = r.kinds.length := by omega
   refine wz 1 ?_
   refine aw_loopk (ι := { j : Nat // j ≤ r.hides[k].length ∧ ∀ i, (hi : i < r.hides[k].length) → i < j → inn r.hides[k][i] 1 500 = true }) [1, 4] (fun u => [(5, I u.1)]) (fun H u => H) (fun u => r.hides[k].length - u.1) (⟨0, Nat.zero_le _, by omega⟩) ⟨jz, jz, jz, trivial⟩ rfl ?_
   rintro ⟨j, hj, hok3⟩
   refine nz ?_
   refine wz 8 ?_
   refine iz (fun c_63 c_63' => ?_) (fun c_63 c_63' => ?_)
   ·have hjl : j < r.hides[k].length := by omega
    refine wz 8 ?_
    refine kz az (rin_pure _ _ _) ?_
    refine wz 1 ?_
    refine iz (fun c_75 c_75' => ?_) (fun c_75 c_75' => ?_)
    ·have hbad := rg_hide hhl (hd_num hjl (by simpa using c_75))
     refine wz 1 ?_
     exact rz rfl (Less.eq (by rw [hbad]))
    have hin : inn r.hides[k][j] 1 500 = true := by simpa using c_75
    refine wz 3 ?_
    exact ⟨⟨j + 1, by omega, fun i hi h => (by by_cases e : i = j; (subst e; exact hin); exact hok3 i hi (by omega))⟩, by simp only; omega, Sub.slots ⟨jz, jz, jz, trivial⟩⟩
   obtain rfl : j = r.hides[k].length := by omega
   refine wz 3 ?_
   exact ⟨⟨k + 1, by omega, fun i hi h => (by by_cases e : i = k; (subst e; exact hd_yes hle fun j hj => hok3 j hj hj); exact hok2 i hi (by omega))⟩, by simp only; omega, Sub.slots ⟨jz, jz, trivial⟩⟩
  obtain rfl : k = r.hides.length := by omega
  have hall2 : r.hides.all (hdOK r.kinds.length) = true := all_of fun j hj => hok2 j hj hj
  refine wz 2 ?_
  refine kz az (rspan_pure _ _ (.inr trivial)) ?_
  refine wz 1 ?_
  refine sz 79 (fun g18_3 g18_3' => ?_) (fun g18_3 g18_3' => ?_)
  ·refine wz 2 ?_
   refine ky az (rspan_pure _ _ (.inr trivial)) ?_
   refine wz 2 ?_
   refine sz 84 (fun g18_8 g18_8' => ?_) (fun g18_8 g18_8' => ?_)
   ·refine wz 2 ?_
    refine ky az (rin_pure _ _ _) ?_
    refine wz 2 ?_
    refine sz 89 (fun g18_13 g18_13' => ?_) (fun g18_13 g18_13' => ?_)
    ·refine wz 2 ?_
     refine ky az (rin_pure _ _ _) ?_
     refine wz 2 ?_
     exact rz rfl (Less.eq (by unfold rgOK; rw [hall1, hall2]; simp_all))
    refine wz 5 ?_
    exact rz rfl (Less.eq (by unfold rgOK; rw [hall1, hall2]; simp_all))
   refine wz 10 ?_
   exact rz rfl (Less.eq (by unfold rgOK; rw [hall1, hall2]; simp_all))
  refine wz 15 ?_
  exact rz rfl (Less.eq (by unfold rgOK; rw [hall1, hall2]; simp_all))
end Go.Proofs.YtjpokekbjmdgmaaGreatDoor
namespace Go.Proofs.YtjpokekbjmdgmaaGreatDoor
open Go Go.Ab Ni Hd
theorem short_t {r : Rg} (h : shB r = true) : APure Tryz.prog 20 [rgA r] (B true) := by have q := short_pure r; rw [h] at q; exact q
theorem short_f {r : Rg} (h : shB r = false) : APure Tryz.prog 20 [rgA r] (B false) := by have q := short_pure r; rw [h] at q; exact q
theorem reg_t {r : Rg} (hs : shB r = true) (h : rgOK r = true) : APure Tryz.prog 21 [rgA r] (B true) := by have q := register_pure r (shB_len hs).1 (shB_len hs).2.1 (shB_len hs).2.2; rw [h] at q; exact q
theorem reg_f {r : Rg} (hs : shB r = true) (h : rgOK r = false) : APure Tryz.prog 21 [rgA r] (B false) := by have q := register_pure r (shB_len hs).1 (shB_len hs).2.1 (shB_len hs).2.2; rw [h] at q; exact q
end Go.Proofs.YtjpokekbjmdgmaaGreatDoor
namespace Go.Proofs.YtjpokekbjmdgmaaGreatDoor
open Go Go.Ab Ni Hd
theorem rhide_pure (r : Rg) (n : Int) (hh : r.hides.length ≤ 1000000) : APure Tryz.prog 22 [rgA r, I n] (B (hdIn r n)) := by
  refine ap Tryz.func22 (fun e0 he0 => ?_)
  refine wz 7 ?_
  refine kz az (rin_pure _ _ _) ?_
  refine wz 1 ?_
  exact rz rfl (Less.eq rfl)
theorem rmeas_pure (r : Rg) (n : Int) (hk : r.kinds.length ≤ 1000000) : APure Tryz.prog 48 [rgA r, I n] (B (msIn r n)) := by
  refine ap Tryz.func48 (fun e0 he0 => ?_)
  refine wz 7 ?_
  refine kz az (rin_pure _ _ _) ?_
  refine wz 1 ?_
  exact rz rfl (Less.eq rfl)
theorem rrated_pure (r : Rg) (x : Rt) : APure Tryz.prog 23 [rgA r, rtA x] (B (rtOK r x)) := by
  refine ap Tryz.func23 (fun e0 he0 => ?_)
  refine wz 11 ?_
  refine kz az (rin_pure _ _ _) ?_
  refine wz 1 ?_
  refine sz 14 (fun g1_9 g1_9' => ?_) (fun g1_9 g1_9' => ?_)
  ·refine wz 8 ?_
   refine ky az (rin_pure _ _ _) ?_
   refine wz 2 ?_
   exact rz rfl (Less.eq (by unfold rtOK; simp [*]))
  refine wz 11 ?_
  exact rz rfl (Less.eq (by unfold rtOK; simp [*]))
theorem rfind_pure (r : Rg) (f : List Int) (hl : f.length ≤ 1000000) : APure Tryz.prog 24 [rgA r, ints f] (B (fdOK r f)) := by
  refine ap Tryz.func24 (fun e0 he0 => ?_)
  refine wz 3 ?_
  refine aw_loopk (ι := { k : Nat // k ≤ f.length ∧ ∀ i, (hi : i < f.length) → i < k → inn f[i] (-1) 1000 = true }) [1, 2] (fun i => [(5, I i.1)]) (fun H i => H) (fun i => f.length - i.1) (⟨0, Nat.zero_le _, by omega⟩) ⟨jz, jz, jz, trivial⟩ rfl ?_
  rintro ⟨k, hk, hok⟩
  refine nz ?_
  refine wz 4 ?_
  refine iz (fun c_9 c_9' => ?_) (fun c_9 c_9' => ?_)
  ·have hkl : k < f.length := by omega
   refine wz 4 ?_
   refine kz az (rin_pure _ _ _) ?_
   refine wz 1 ?_
   refine iz (fun c_17 c_17' => ?_) (fun c_17 c_17' => ?_)
   ·refine wz 1 ?_
    exact rz rfl (Less.eq (by rw [fd_bad hkl (by simpa using c_17)]))
   refine wz 3 ?_
   exact ⟨⟨k + 1, by omega, fun i hi h => (by by_cases e : i = k; (subst e; simpa using c_17); exact hok i hi (by omega))⟩, by simp only; omega, Sub.slots ⟨jz, jz, jz, trivial⟩⟩
  obtain rfl : k = f.length := by omega
  have hall : (f.all fun n => inn n (-1) 1000) = true := all_of fun j hj => hok j hj hj
  refine wz 7 ?_
  exact rz rfl (Less.eq (congrArg B (by unfold fdOK; rw [hall, Bool.and_true, Bool.eq_iff_iff]; simp; omega)))
theorem has_pure (l : List Int) (n : Int) (hl : l.length ≤ 1000000) : APure Tryz.prog 29 [ints l, I n] (B (decide (n ∈ l))) := by
  refine ap Tryz.func29 (fun e0 he0 => ?_)
  refine wz 2 ?_
  refine aw_loopk (ι := { k : Nat // k ≤ l.length ∧ ∀ i, (hi : i < l.length) → i < k → l[i] ≠ n }) [0, 1] (fun i => [(5, I i.1)]) (fun H i => H) (fun i => l.length - i.1) (⟨0, Nat.zero_le _, by omega⟩) ⟨jz, jz, jz, trivial⟩ rfl ?_
  rintro ⟨k, hk, hok⟩
  refine nz ?_
  refine wz 4 ?_
  refine iz (fun c_9 c_9' => ?_) (fun c_9 c_9' => ?_)
  ·have hkl : k < l.length := by omega
   refine wz 6 ?_
   refine iz (fun c_17 c_17' => ?_) (fun c_17 c_17' => ?_)
   ·refine wz 1 ?_
    exact rz rfl (Less.eq (by rw [decide_eq_true (by rw [← of_decide_eq_true c_17]; exact List.getElem_mem hkl)]))
   refine wz 3 ?_
   exact ⟨⟨k + 1, by omega, fun i hi h => (by by_cases e : i = k; (subst e; exact of_decide_eq_false c_17); exact hok i hi (by omega))⟩, by simp only; omega, Sub.slots ⟨jz, jz, jz, trivial⟩⟩
  obtain rfl : k = l.length := by omega
  refine wz 1 ?_
  exact rz rfl (Less.eq (by rw [decide_eq_false (fun q => by obtain ⟨i, hi, e⟩ := List.getElem_of_mem q; exact hok i hi hi e)]))
theorem rmeasures_pure (r : Rg) (l : List Int) (hk : r.kinds.length ≤ 1000000) (hl : l.length ≤ 1000000) : APure Tryz.prog 28 [rgA r, ints l] (B (okM r l)) := by
  refine ap Tryz.func28 (fun e0 he0 => ?_)
  refine wz 3 ?_
  refine aw_loopk (ι := { k : Nat // k ≤ l.length ∧ ∀ i, (hi : i < l.length) → i < k → msIn r l[i] = true ∧ (0 < i → l[i - 1] < l[i]) }) [1, 2] (fun i => [(5, I i.1)]) (fun H i => H) (fun i => l.length - i.1) (⟨0, Nat.zero_le _, by omega⟩) ⟨jz, jz, jz, trivial⟩ rfl ?_
  rintro ⟨k, hk1, hok⟩
  refine nz ?_
  refine wz 4 ?_
  refine iz (fun c_9 c_9' => ?_) (fun c_9 c_9' => ?_)
  ·have hkl : k < l.length := by omega
   refine wz 0 ?_
   refine aw_draw 23 mo (by kernel_rfl) ?_
   refine dz 5 ?_
   refine dkz az (rmeas_pure r _ hk) ?_
   refine dz 2 ?_
   refine dsz 19 (fun g4_7 g4_7' => ?_) (fun g4_7 g4_7' => ?_)
   ·have hms : msIn r l[k] = false := by simpa using g4_7
    have hno : okM r l = false := okM_no hkl (fun q => by rw [hms] at q; exact Bool.noConfusion q.1)
    refine dz 15 ?_
    refine wz 2 ?_
    exact rz rfl (Less.eq (by rw [hno]))
   have hms : msIn r l[k] = true := by simpa using g4_7
   refine dz 3 ?_
   refine dsz 22 (fun g4_10 g4_10' => ?_) (fun g4_10 g4_10' => ?_)
   ·refine dz 7 ?_
    refine dr_yes rfl rfl (less_b g4_10) rfl (ev_index_map (k := k - 1) sl28.h jz jz (by omega) (by omega)) ?_
    refine dz 4 ?_
    refine wz 0 ?_
    refine iz (fun c_34 c_34' => ?_) (fun c_34 c_34' => ?_)
    ·have hno : okM r l = false := okM_no hkl (fun q => by have h5 := q.2 (by omega); have h6 := of_decide_eq_true c_34; omega)
     refine wz 1 ?_
     exact rz rfl (Less.eq (by rw [hno]))
    have hst : msIn r l[k] = true ∧ (0 < k → l[k - 1] < l[k]) := ⟨hms, fun q => by have := of_decide_eq_false c_34; omega⟩
    refine wz 3 ?_
    exact ⟨⟨k + 1, by omega, fun i hi q => by rcases Nat.lt_or_ge i k with q2 | q2; exact hok i hi q2; (obtain rfl : i = k := by omega); exact hst⟩, by simp only; omega, Sub.slots ⟨jz, jz, jz, trivial⟩⟩
   have hst : msIn r l[k] = true ∧ (0 < k → l[k - 1] < l[k]) := ⟨hms, fun q => by omega⟩
   refine dz 12 ?_
   refine wz 4 ?_
   exact ⟨⟨k + 1, by omega, fun i hi q => by rcases Nat.lt_or_ge i k with q2 | q2; exact hok i hi q2; (obtain rfl : i = k := by omega); exact hst⟩, by simp only; omega, Sub.slots ⟨jz, jz, jz, trivial⟩⟩
  obtain rfl : k = l.length := by omega
  have hall := okM_yes fun i hi => hok i hi hi
  refine wz 1 ?_
  exact rz rfl (Less.eq (by rw [hall]))
end Go.Proofs.YtjpokekbjmdgmaaGreatDoor
namespace Go.Proofs.YtjpokekbjmdgmaaGreatDoor
open Go Go.Ab Ni Hd
instance un4 : UnD Tryz.prog 4 .bool := ⟨by kernel_rfl⟩
theorem warp_len (r : Rg) (h : Nat) (x : Rt) : (warpOf r h x).length = r.kinds.length := by unfold warpOf; exact warpK_len r h x _
end Go.Proofs.YtjpokekbjmdgmaaGreatDoor
namespace Go.Proofs.YtjpokekbjmdgmaaGreatDoor
open Go Go.Ab Ni Hd
def frm (now : List Int) : Nat := if h : 0 < now.length then (now[now.length - 1]).toNat + 1 else 0
end Go.Proofs.YtjpokekbjmdgmaaGreatDoor
namespace Go.Proofs.YtjpokekbjmdgmaaGreatDoor
open Go Go.Ab Ni Hd
theorem warpOf_get {r : Rg} {h m : Nat} {x : Rt} (hm : m < r.kinds.length) (hw : m < (warpOf r h x).length) : (warpOf r h x)[m] = (lom r h m x, him r h m x) := by
  simp [warpOf, warpK, lom, him]
end Go.Proofs.YtjpokekbjmdgmaaGreatDoor
namespace Go.Proofs.YtjpokekbjmdgmaaGreatDoor
open Go Go.Ab Ni Hd
theorem rfindL_pure (r : Rg) (f : List Int) (hl : (f.length : Int) ≤ 9223372036854775807) : APure Tryz.prog 24 [rgA r, ints f] (B (fdOK r f)) := by
  refine ap Tryz.func24 (fun e0 he0 => ?_)
  refine wz 3 ?_
  refine aw_loopk (ι := { k : Nat // k ≤ f.length ∧ ∀ i, (hi : i < f.length) → i < k → inn f[i] (-1) 1000 = true }) [1, 2] (fun i => [(5, I i.1)]) (fun H i => H) (fun i => f.length - i.1) (⟨0, Nat.zero_le _, by omega⟩) ⟨jz, jz, jz, trivial⟩ rfl ?_
  rintro ⟨k, hk, hok⟩
  refine nz ?_
  refine wz 4 ?_
  refine iz (fun c_9 c_9' => ?_) (fun c_9 c_9' => ?_)
  ·have hkl : k < f.length := by omega
   refine wz 4 ?_
   refine kz az (rin_pure _ _ _) ?_
   refine wz 1 ?_
   refine iz (fun c_17 c_17' => ?_) (fun c_17 c_17' => ?_)
   ·refine wz 1 ?_
    exact rz rfl (Less.eq (by rw [fd_bad hkl (by simpa using c_17)]))
   refine wz 3 ?_
   exact ⟨⟨k + 1, by omega, fun i hi h => (by by_cases e : i = k; (subst e; simpa using c_17); exact hok i hi (by omega))⟩, by simp only; omega, Sub.slots ⟨jz, jz, jz, trivial⟩⟩
  obtain rfl : k = f.length := by omega
  have hall : (f.all fun n => inn n (-1) 1000) = true := all_of fun j hj => hok j hj hj
  refine wz 7 ?_
  exact rz rfl (Less.eq (congrArg B (by unfold fdOK; rw [hall, Bool.and_true, Bool.eq_iff_iff]; simp; omega)))
theorem find_any (r : Rg) {f : List Int} (hl : (f.length : Int) ≤ 9223372036854775807) {b : Bool} (h : fdOK r f = b) : APure Tryz.prog 24 [rgA r, ints f] (B b) := by have q := rfindL_pure r f hl; rw [h] at q; exact q
theorem hide_b {r : Rg} {n : Int} (hs : shB r = true) {b : Bool} (h : hdIn r n = b) : APure Tryz.prog 22 [rgA r, I n] (B b) := by have q := rhide_pure r n (shB_len hs).2.1; rw [h] at q; exact q
theorem rated_b {r : Rg} {x : Rt} {b : Bool} (h : rtOK r x = b) : APure Tryz.prog 23 [rgA r, rtA x] (B b) := by have q := rrated_pure r x; rw [h] at q; exact q
theorem slim_of {r : Rg} {f : List Int} (hr : rgOK r = true) (hd : fdOK r f = true) : f.length ≤ 1000000 := by have h1 := (rgOK_B hr).nk; have h2 := (fdOK_iff.1 hd).1; omega
theorem okM_of {r : Rg} {l : List Int} (h1 : l.Pairwise (· < ·)) (h2 : ∀ x ∈ l, ∃ m : Nat, x = m ∧ m < r.kinds.length) : okM r l = true :=
  okM_yes fun i hi => ⟨by obtain ⟨m, e, hm⟩ := h2 _ (List.getElem_mem hi); rw [msIn_iff, e]; omega, fun q => List.pairwise_iff_getElem.1 h1 (i - 1) i (by omega) hi (by omega)⟩
theorem chA_okM (r : Rg) (h : Nat) (f : List Int) (x : Rt) : okM r (chA r h f x) = true :=
  okM_of (nums_rising _ _) fun n hn => by obtain ⟨m, hm, _, e⟩ := mem_nums.1 hn; exact ⟨m, e, hm⟩
theorem measL_b {r : Rg} {l : List Int} (hs : shB r = true) (hl : l.length ≤ 1000000) {b : Bool} (h : okM r l = b) : APure Tryz.prog 28 [rgA r, ints l] (B b) := by have q := rmeasures_pure r l (shB_len hs).1 hl; rw [h] at q; exact q
theorem law3_0 {r : Rg} {n : Int} {f : List Int} {x : Rt}  (hs : shB r = false) (hl : (f.length : Int) ≤ 9223372036854775807) : APure Tryz.prog 3 [rgA r, I n, ints f, rtA x] (B true) := by
  refine ap Tryz.func3 (fun e0 he0 => ?_)
  refine wz 4 ?_
  refine kz az (short_f hs) ?_
  refine wz 25 ?_
  refine kz az (known_pure) ?_
  refine wz 1 ?_
  exact rz rfl jz
theorem law3_1 {r : Rg} {n : Int} {f : List Int} {x : Rt} (hs : shB r = true) (hr : rgOK r = false) (hl : (f.length : Int) ≤ 9223372036854775807) : APure Tryz.prog 3 [rgA r, I n, ints f, rtA x] (B true) := by
  refine ap Tryz.func3 (fun e0 he0 => ?_)
  refine wz 4 ?_
  refine kz az (short_t hs) ?_
  refine wz 3 ?_
  refine ky az (reg_f hs hr) ?_
  refine wz 21 ?_
  refine kz az (known_pure) ?_
  refine wz 1 ?_
  exact rz rfl jz
theorem law3_2 {r : Rg} {n : Int} {f : List Int} {x : Rt} (hs : shB r = true) (hr : rgOK r = true) (hh : hdIn r n = false) (hl : (f.length : Int) ≤ 9223372036854775807) : APure Tryz.prog 3 [rgA r, I n, ints f, rtA x] (B true) := by
  refine ap Tryz.func3 (fun e0 he0 => ?_)
  refine wz 4 ?_
  refine kz az (short_t hs) ?_
  refine wz 3 ?_
  refine ky az (reg_t hs hr) ?_
  refine wz 5 ?_
  refine ky az (hide_b hs hh) ?_
  refine wz 15 ?_
  refine kz az (known_pure) ?_
  refine wz 1 ?_
  exact rz rfl jz
theorem law3_3 {r : Rg} {n : Int} {f : List Int} {x : Rt} (hs : shB r = true) (hr : rgOK r = true) (hh : hdIn r n = true) (hx : rtOK r x = false) (hl : (f.length : Int) ≤ 9223372036854775807) : APure Tryz.prog 3 [rgA r, I n, ints f, rtA x] (B true) := by
  refine ap Tryz.func3 (fun e0 he0 => ?_)
  refine wz 4 ?_
  refine kz az (short_t hs) ?_
  refine wz 3 ?_
  refine ky az (reg_t hs hr) ?_
  refine wz 5 ?_
  refine ky az (hide_b hs hh) ?_
  refine wz 5 ?_
  refine ky az (rated_b hx) ?_
  refine wz 9 ?_
  refine kz az (known_pure) ?_
  refine wz 1 ?_
  exact rz rfl jz
theorem law3_4 {r : Rg} {n : Int} {f : List Int} {x : Rt} (hs : shB r = true) (hr : rgOK r = true) (hh : hdIn r n = true) (hx : rtOK r x = true) (hd : fdOK r f = false) (hl : (f.length : Int) ≤ 9223372036854775807) : APure Tryz.prog 3 [rgA r, I n, ints f, rtA x] (B true) := by
  refine ap Tryz.func3 (fun e0 he0 => ?_)
  refine wz 4 ?_
  refine kz az (short_t hs) ?_
  refine wz 3 ?_
  refine ky az (reg_t hs hr) ?_
  refine wz 5 ?_
  refine ky az (hide_b hs hh) ?_
  refine wz 5 ?_
  refine ky az (rated_b hx) ?_
  refine wz 5 ?_
  refine ky az (find_any r hl hd) ?_
  refine wz 3 ?_
  refine kz az (known_pure) ?_
  refine wz 1 ?_
  exact rz rfl jz
theorem law3_m {r : Rg} {h : Nat} {f : List Int} {x : Rt} (hs : shB r = true) (hr : rgOK r = true) (hh : hdIn r h = true) (hhl : h < r.hides.length) (hx : rtOK r x = true) (hd : fdOK r f = true) (hl : (f.length : Int) ≤ 9223372036854775807) : APure Tryz.prog 3 [rgA r, I h, ints f, rtA x] (B true) := by
  refine ap Tryz.func3 (fun e0 he0 => ?_)
  refine aw_seq ?_
  have hfk := (fdOK_iff.1 hd).1
  have hwl := warp_len r h x
  have hnk := (rgOK_B hr).nk
  refine wz 4 ?_
  refine kz az (short_t hs) ?_
  refine wz 3 ?_
  refine ky az (reg_t hs hr) ?_
  refine wz 5 ?_
  refine ky az (hide_b hs hh) ?_
  refine wz 5 ?_
  refine ky az (rated_b hx) ?_
  refine wz 5 ?_
  refine ky az (find_any r hl hd) ?_
  refine wz 6 ?_
  refine kz az (warped_ok (shB_len hs).1 (shB_len hs).2.1 (shB_len hs).2.2 (show okW r h x = true by unfold okW; rw [hr, hh, hx]; rfl)) ?_
  refine wz 9 ?_
  refine kz az (changes_ok (shB_len hs).1 (shB_len hs).2.1 (shB_len hs).2.2 (slim_of hr hd) (show okC r h f x = true by unfold okC okF; rw [hr, hh, hx, hd]; rfl)) ?_
  refine wz 19 ?_
  refine sz 70 (fun g5_13 g5_13' => ?_) (fun g5_13 g5_13' => ?_)
  ·exfalso
   omega
  refine wz 2 ?_
  refine ky az (measL_b hs (by have := chA_le (rgOK_B hr) h f x; omega) (chA_okM r h f x)) ?_
  refine wz 4 ?_
  refine aw_loopk (ι := { k : Nat // k ≤ f.length }) [2, 9, 11] (fun i => [(13, I i.1)]) (fun H i => H) (fun i => f.length - i.1) (⟨0, Nat.zero_le _⟩) ⟨jz, jz, jz, jz, trivial⟩ rfl ?_
  rintro ⟨k, hk⟩
  refine nz ?_
  refine wz 4 ?_
  refine iz (fun c_79 c_79' => ?_) (fun c_79 c_79' => ?_)
  ·have hkl : k < f.length := by omega
   have hkw : k < (warpOf r h x).length := by omega
   have hwk : (warpOf r h x)[k] = _ := warpOf_get (by omega) hkw
   have hlh := lohi (rgOK_B hr) (m := k) hx hhl (by omega)
   have hck : decide ((k : Int) ∈ chA r h f x) = chg r.off (sz r h k * rm r x k) f[k] := by rw [Bool.eq_iff_iff, decide_eq_true_eq, mem_chA]; unfold chgM chB; rw [getD_at hkl]; simp; omega
   refine wz 0 ?_
   refine aw_draw 30 mo (by kernel_rfl) ?_
   refine dz 6 ?_
   refine dsz 87 (fun g10_5 g10_5' => ?_) (fun g10_5 g10_5' => ?_)
   ·refine dz 6 ?_
    refine dr_yes rfl rfl (less_b g10_5) rfl (ev_index_map (k := k) (xs := warpOf r h x) sl36.h jz jz rfl hkw) ?_
    refine dz 4 ?_
    refine dsz 98 (fun g10_16 g10_16' => ?_) (fun g10_16 g10_16' => ?_)
    ·refine dz 13 ?_
     refine wz 0 ?_
     refine aw_draw 34 mo (by kernel_rfl) ?_
     refine dz 2 ?_
     refine dr_ev rfl (ev_index_map (k := k) (xs := warpOf r h x) sl36.h jz jz rfl hkw) ?_
     refine dz 4 ?_
     refine dsz 117 (fun g11_6 g11_6' => ?_) (fun g11_6 g11_6' => ?_)
     ·exfalso
      rw [hwk] at *
      simp only [lom] at *
      omega
     refine dz 2 ?_
     refine dr_yes rfl rfl (less_b g11_6) rfl (ev_index_map (k := k) (xs := warpOf r h x) sl36.h jz jz rfl hkw) ?_
     refine dz 5 ?_
     refine dsz 125 (fun g11_14 g11_14' => ?_) (fun g11_14 g11_14' => ?_)
     ·exfalso
      rw [hwk] at *
      simp only [him] at *
      omega
     refine dz 2 ?_
     refine dr_yes rfl rfl (less_b g11_14) rfl (ev_index_map (k := k) (xs := warpOf r h x) sl36.h jz jz rfl hkw) ?_
     refine dz 4 ?_
     refine dr_yes rfl rfl (less_b g11_14) rfl (ev_index_map (k := k) (xs := warpOf r h x) sl36.h jz jz rfl hkw) ?_
     refine dz 5 ?_
     refine dsz 138 (fun g11_27 g11_27' => ?_) (fun g11_27 g11_27' => ?_)
     ·exfalso
      rw [hwk] at *
      simp only [lom, him] at *
      omega
     refine dz 3 ?_
     refine dky az (has_pure _ _ (by have := chA_le (rgOK_B hr) h f x; omega)) ?_
     refine dz 2 ?_
     refine wz 0 ?_
     refine iz (fun c_144 c_144' => ?_) (fun c_144 c_144' => ?_)
     ·exfalso
      have hcv : chg r.off (sz r h k * rm r x k) f[k] = (decide (0 ≤ f[k]) && (decide (f[k] < lo r.off (sz r h k * rm r x k)) || decide (hi r.off (sz r h k * rm r x k) < f[k]))) := by unfold chg inn; rw [Bool.eq_iff_iff]; first | (simp; done) | (simp; omega)
      rw [hck, hcv] at c_144'
      rw [hwk] at *
      simp only [lom, him] at *
      by_cases q1 : f[k] < lo r.off (sz r h k * rm r x k) <;> by_cases q2 : hi r.off (sz r h k * rm r x k) < f[k] <;> by_cases q3 : 0 ≤ f[k] <;> first | omega | (simp [q1, q2, q3] at c_144'; done)
     refine wz 3 ?_
     exact ⟨⟨k + 1, by omega⟩, by simp only; omega, Sub.slots ⟨jz, jz, jz, jz, trivial⟩⟩
    refine dz 6 ?_
    refine dr_yes rfl rfl (less_b g10_16) rfl (ev_index_map (k := k) (xs := warpOf r h x) sl36.h jz jz rfl hkw) ?_
    refine dz 6 ?_
    refine wz 0 ?_
    refine aw_draw 34 mo (by kernel_rfl) ?_
    refine dz 2 ?_
    refine dr_ev rfl (ev_index_map (k := k) (xs := warpOf r h x) sl36.h jz jz rfl hkw) ?_
    refine dz 4 ?_
    refine dsz 117 (fun g11_6 g11_6' => ?_) (fun g11_6 g11_6' => ?_)
    ·exfalso
     rw [hwk] at *
     simp only [lom] at *
     omega
    refine dz 2 ?_
    refine dr_yes rfl rfl (less_b g11_6) rfl (ev_index_map (k := k) (xs := warpOf r h x) sl36.h jz jz rfl hkw) ?_
    refine dz 5 ?_
    refine dsz 125 (fun g11_14 g11_14' => ?_) (fun g11_14 g11_14' => ?_)
    ·exfalso
     rw [hwk] at *
     simp only [him] at *
     omega
    refine dz 2 ?_
    refine dr_yes rfl rfl (less_b g11_14) rfl (ev_index_map (k := k) (xs := warpOf r h x) sl36.h jz jz rfl hkw) ?_
    refine dz 4 ?_
    refine dr_yes rfl rfl (less_b g11_14) rfl (ev_index_map (k := k) (xs := warpOf r h x) sl36.h jz jz rfl hkw) ?_
    refine dz 5 ?_
    refine dsz 138 (fun g11_27 g11_27' => ?_) (fun g11_27 g11_27' => ?_)
    ·exfalso
     rw [hwk] at *
     simp only [lom, him] at *
     omega
    refine dz 3 ?_
    refine dky az (has_pure _ _ (by have := chA_le (rgOK_B hr) h f x; omega)) ?_
    refine dz 2 ?_
    refine wz 0 ?_
    refine iz (fun c_144 c_144' => ?_) (fun c_144 c_144' => ?_)
    ·exfalso
     have hcv : chg r.off (sz r h k * rm r x k) f[k] = (decide (0 ≤ f[k]) && (decide (f[k] < lo r.off (sz r h k * rm r x k)) || decide (hi r.off (sz r h k * rm r x k) < f[k]))) := by unfold chg inn; rw [Bool.eq_iff_iff]; first | (simp; done) | (simp; omega)
     rw [hck, hcv] at c_144'
     rw [hwk] at *
     simp only [lom, him] at *
     by_cases q1 : f[k] < lo r.off (sz r h k * rm r x k) <;> by_cases q2 : hi r.off (sz r h k * rm r x k) < f[k] <;> by_cases q3 : 0 ≤ f[k] <;> first | omega | (simp [q1, q2, q3] at c_144'; done)
    refine wz 3 ?_
    exact ⟨⟨k + 1, by omega⟩, by simp only; omega, Sub.slots ⟨jz, jz, jz, jz, trivial⟩⟩
   refine dz 24 ?_
   refine wz 0 ?_
   refine aw_draw 34 mo (by kernel_rfl) ?_
   refine dz 2 ?_
   refine dr_ev rfl (ev_index_map (k := k) (xs := warpOf r h x) sl36.h jz jz rfl hkw) ?_
   refine dz 4 ?_
   refine dsz 117 (fun g11_6 g11_6' => ?_) (fun g11_6 g11_6' => ?_)
   ·exfalso
    rw [hwk] at *
    simp only [lom] at *
    omega
   refine dz 2 ?_
   refine dr_yes rfl rfl (less_b g11_6) rfl (ev_index_map (k := k) (xs := warpOf r h x) sl36.h jz jz rfl hkw) ?_
   refine dz 5 ?_
   refine dsz 125 (fun g11_14 g11_14' => ?_) (fun g11_14 g11_14' => ?_)
   ·exfalso
    rw [hwk] at *
    simp only [him] at *
    omega
   refine dz 2 ?_
   refine dr_yes rfl rfl (less_b g11_14) rfl (ev_index_map (k := k) (xs := warpOf r h x) sl36.h jz jz rfl hkw) ?_
   refine dz 4 ?_
   refine dr_yes rfl rfl (less_b g11_14) rfl (ev_index_map (k := k) (xs := warpOf r h x) sl36.h jz jz rfl hkw) ?_
   refine dz 5 ?_
   refine dsz 138 (fun g11_27 g11_27' => ?_) (fun g11_27 g11_27' => ?_)
   ·exfalso
    rw [hwk] at *
    simp only [lom, him] at *
    omega
   refine dz 3 ?_
   refine dky az (has_pure _ _ (by have := chA_le (rgOK_B hr) h f x; omega)) ?_
   refine dz 2 ?_
   refine wz 0 ?_
   refine iz (fun c_144 c_144' => ?_) (fun c_144 c_144' => ?_)
   ·exfalso
    have hcv : chg r.off (sz r h k * rm r x k) f[k] = (decide (0 ≤ f[k]) && (decide (f[k] < lo r.off (sz r h k * rm r x k)) || decide (hi r.off (sz r h k * rm r x k) < f[k]))) := by unfold chg inn; rw [Bool.eq_iff_iff]; first | (simp; done) | (simp; omega)
    rw [hck, hcv] at c_144'
    rw [hwk] at *
    simp only [lom, him] at *
    by_cases q1 : f[k] < lo r.off (sz r h k * rm r x k) <;> by_cases q2 : hi r.off (sz r h k * rm r x k) < f[k] <;> by_cases q3 : 0 ≤ f[k] <;> first | omega | (simp [q1, q2, q3] at c_144'; done)
   refine wz 3 ?_
   exact ⟨⟨k + 1, by omega⟩, by simp only; omega, Sub.slots ⟨jz, jz, jz, jz, trivial⟩⟩
  refine wz 0 ?_
  refine kz az (known_pure) ?_
  refine wz 1 ?_
  exact rz rfl jz
/-- **HideClose.** -/
theorem law3 (r : Rg) (n : Int) (_ : -9223372036854775808 ≤ n) (_ : n ≤ 9223372036854775807) (f : List Int) (hl : (f.length : Int) ≤ 9223372036854775807) (x : Rt) : APure Tryz.prog 3 [rgA r, I n, ints f, rtA x] (B true) := by
  cases hs : shB r with
  | false => exact law3_0 hs hl
  | true =>
    cases hr : rgOK r with
    | false => exact law3_1 hs hr hl
    | true =>
      cases hh : hdIn r n with
      | false => exact law3_2 hs hr hh hl
      | true =>
        cases hx : rtOK r x with
        | false => exact law3_3 hs hr hh hx hl
        | true =>
          cases hd : fdOK r f with
          | false => exact law3_4 hs hr hh hx hd hl
          | true =>
            have hi := hdIn_iff.1 hh
            obtain ⟨h, rfl⟩ : ∃ h : Nat, n = (h : Int) := ⟨n.toNat, by omega⟩
            exact law3_m hs hr hh (by omega) hx hd hl
end Go.Proofs.YtjpokekbjmdgmaaGreatDoor
