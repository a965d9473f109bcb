/-
  A part of the proof: conditions: none beyond each theorem's own.
-/
import Derived.Test.YtjpokekbjmdgmaaGreatDoorLogicA
import Derived.Test.YtjpokekbjmdgmaaGreatDoorLogicD
import Derived.Laws.Small
import Derived.Deep.Slices
import Derived.OpenShut
import Derived.Carry
import Derived.Test.YtjpokekbjmdgmaaGreatDoorLogicC
import Derived.IntWalk
import Derived.Test.YtjpokekbjmdgmaaGreatDoorSpecA
import Derived.Test.YtjpokekbjmdgmaaGreatDoorProg
import Derived.KernelRfl
import Derived.Lib.LaidTab
import Derived.Lib.ItoaNum
import Derived.Test.YtjpokekbjmdgmaaGreatDoorWalkE
import Derived.Test.YtjpokekbjmdgmaaGreatDoorLogicB
import Derived.Test.YtjpokekbjmdgmaaGreatDoorShelf
import Derived.Test.YtjpokekbjmdgmaaGreatDoorWalkA
import Derived.Test.YtjpokekbjmdgmaaGreatDoorWalkB
import Derived.Test.YtjpokekbjmdgmaaGreatDoorWalkC
import Derived.Test.YtjpokekbjmdgmaaGreatDoorWalkD
import Derived.Test.YtjpokekbjmdgmaaGreatDoorRow
set_option linter.all false
set_option maxRecDepth 100000
set_option maxHeartbeats 8000000
namespace Go.Ab
variable [Tabs]
theorem FW_room (r : Option Nat) (n : Nat) : (FW r).room n := fun _ h => by simp [FW] at h
variable {c : Ctx} {Q : AExit → St → Prop} {s : St}
end Go.Ab
namespace Go.Ab
variable [Tabs]
section
variable {P : Program} {r : Option Nat} {H : List AObj} {ρ : Operand → AV}
variable {d : Option Tmp} {t : TypeId} {p : String} {af : Array Edge} {g : Option (Nat × Bool)} {x y : Operand}
theorem ev_bool2 {op : BinOp} {a b : Bool} {xt yt : TypeId} {v : AV} (hx : Less (ρ x) (.raw (.bool a))) (hy : Less (ρ y) (.raw (.bool b)))
    (hr : ∀ w e, ∃ u, (binOp op xt (.bool a) (.bool b)).run P w = .ok u w ∧ Rep e v u) : Ev P r ⟨d, .binOp op xt x y yt, t, p, af, g⟩ H ρ v :=
  Ev.pure (by intro c h; cases h) fun e ρc _ _ hs => by
    have e1 := rep_raw hx (hs x (by simp [Op.operands]))
    have e2 := rep_raw hy (hs y (by simp [Op.operands]))
    obtain ⟨u, h1, h2⟩ := hr e.w e
    refine ⟨u, ?_, h2⟩
    have hg : (eqGuard op xt x y (.bool a) (.bool b)).run P e.w = .ok () e.w := by
      unfold eqGuard; split <;> simp
    simp [execOp, e1, e2, hg, h1]
theorem ev_neqB {a b : Bool} {xt yt : TypeId} (ht : P.underlying xt = some .bool) (hx : Less (ρ x) (.raw (.bool a))) (hy : Less (ρ y) (.raw (.bool b))) :
    Ev P r ⟨d, .binOp .neq xt x y yt, t, p, af, g⟩ H ρ (.raw (.bool (!(a == b)))) :=
  ev_bool2 hx hy fun w e => ⟨_, run_neq_bool w xt a b ht, by rw [Rep]⟩
end
end Go.Ab
namespace Go.Ab
open Go.ChangeShapes Go.WideShapes
variable [Tabs]
theorem env0_ok {w : World} (h : Tabs.is w) (hb : ∀ b, Tabs.blk b → b < w.heap.size) : EnvOK (env0 w) :=
  ⟨fun b hb => by have hb' : w.heap.size ≤ b := hb
                  have : w.heap[b]? = none := by simpa using hb'
                  simp [env0, this], fun i o h => by simp [env0] at h, fun i j b hi => by simp [env0] at hi, fun i b hi => by simp [env0] at hi, h, fun b hk => ⟨hb b hk, fun i hi => by simp [env0] at hi⟩⟩
section
variable {H : Type} {enc : TypeId × Value → H} {P : Program} {w : World} {base : Nat} {spare : Nat → Bool} {held : Bool}
theorem trodAll_stays (hl : laidOutB P = true) {W W' : World} (hheap : ∀ b, b < W.heap.size → W'.heap[b]? = W.heap[b]?) {sp' : Nat → Bool} :
    ∀ {ts : List TypeId} {vs : List Value} {ds : List (DataW H)} {ps : List MemPlace}, (∀ t ∈ ts, P.readableRec t = true ∧ t < P.types.size) → DataW.TrodAll enc P W base (fun _ => true) true ts vs ds ps → (∀ p ∈ ps, p.block < W.heap.size) → (∀ p ∈ ps, sp' p.block = true) →
      DataW.TrodAll enc P W' base sp' true ts vs ds ps
  | [], _, _, _, _, h, _, _ => by
    obtain ⟨rfl, rfl, rfl⟩ := trodAll_nil h
    exact trodAll_mk0
  | t :: ts, _, _, _, ht, h, hlt, hs => by
    obtain ⟨v, vs1, d, ds1, a, b, rfl, rfl, rfl, h1, h2⟩ := trodAll_cons h
    refine trodAll_cons_mk (WideElems.Trod_stays hl (ht t (by simp)).1 (ht t (by simp)).2 h1 (fun p hp => ?_) (fun p hp => hs p (by simp [hp]))) (trodAll_stays hl hheap (fun u hu => ht u (List.mem_cons_of_mem _ hu)) h2 (fun p hp => hlt p (by simp [hp])) (fun p hp => hs p (by simp [hp])))
    have hb := hheap p.block (hlt p (by simp [hp]))
    cases p with
    | cell b o => exact cell?_of_heap hb
    | map b => exact hb
/-- **What a law's row asks of a call that returns true and leaves what it met.** -/
theorem post_true {f : Func} {s : ChangeSpec} {W W' : World} {args : Array Value} {ds gs : List (DataW H)} {before : List MemPlace} {tb : TypeId} (hl : laidOutB P = true) (hread : ∀ t ∈ f.params.toList, P.readableRec t = true ∧ t < P.types.size)
    (hres : f.resultTypes = #[tb]) (htb : P.underlying tb = some .bool) (hvars : s.vars = []) (hspec : (s.fn H ds).results = [.lit (.bool true)] ∧ (s.fn H ds).args = ds ∧ (s.fn H ds).vars = [])
    (hW : DataW.Whole enc P f.params.toList s.vars false W args.toList ds gs before) (hheap : ∀ b, b < W.heap.size → W'.heap[b]? = W.heap[b]?) (hst : Still W W') :
    s.post enc P f false true false false W args (.bool true) W' := by
  have hlt := hW.lt
  have hW0 := hW
  obtain ⟨p, q, h1, h2, rfl, _, _⟩ := hW
  rw [hvars] at h2
  obtain ⟨rfl, rfl⟩ := trodVars_none h2
  simp only [List.append_nil] at hlt
  obtain ⟨e1, e2, e3⟩ := hspec
  refine ⟨ds, [], p ++ [], [], p, [], hW0, ?_, ?_, ?_, ?_, fun h => by cases h⟩
  · rw [List.append_nil, e1, hres]
    exact trodAll_cons_mk (RowKit.shut_bool htb _) trodAll_mk0
  · rw [List.append_nil, e2]
    exact trodAll_stays hl hheap hread h1 hlt (fun p hp => by simpa using hlt p hp)
  · rw [List.append_nil, e3, hvars]; rfl
  · refine ⟨hst.1, hst.2, fun i hi => ?_⟩
    rw [hheap i hi]
    split <;> simp_all
theorem APure.law {f : FuncId} {args : List AV} {W : World} {vs : Array Value} (hc : APure P f args (.raw (.bool true))) (ht : Tabs.is W) (hb : ∀ b, Tabs.blk b → b < W.heap.size) (hr : RepL (env0 W) args vs.toList) :
    Calls P f vs W fun x W' => x = .returned (.bool true) ∧ (∀ b, b < W.heap.size → W'.heap[b]? = W.heap[b]?) ∧ Still W W' := by
  refine ((hc (env0 W) vs (env0_ok ht hb) hr).calls (fun k => FW_room none k)).mono ?_
  rintro x w' ⟨u, e', rfl, rfl, hx, hu⟩
  rw [Rep] at hu; subst hu
  exact ⟨rfl, hx.heap, hx.still⟩
end
end Go.Ab
namespace Go.Ab
variable [Tabs]
section seq
variable {c : Ctx} {ops : Array Oper} {Q : AExit → St → Prop} {rest : List Oper} {s : St} {i : Nat}
variable {d : Option Tmp} {op : Op} {t : TypeId} {p : String} {af : Array Edge}
end seq
section cond
variable {c : Ctx} {Q : AExit → St → Prop} {s : St} {x : Operand} {y z : Code}
end cond
section split
variable {c : Ctx} {ops : Array Oper} {Q : AExit → St → Prop} {s : St} {i : Nat} {l : List Oper}
end split
section draw
variable {c : Ctx} {H0 : List AObj} {ops : Array Oper} {Q : AExit → St → Prop} {m i : Nat} {s : St} {rest : List Oper}
variable {d : Option Tmp} {op : Op} {t : TypeId} {p : String} {af : Array Edge}
theorem dn0 {j u : Nat} (hj : gslot ops j = some u) (ht : Nat.blt u c.nt = true) (hb : Less (sget s.sl u) (.raw (.bool true))) (hd : dOK c.nt d = true) (k : DR c H0 ops Q m (i + 1) rest (s.put d (.raw (.tuple #[])))) :
    DR c H0 ops Q m i (⟨d, op, t, p, af, some (j, false)⟩ :: rest) s := dr_no hj ht hb rfl hd k
end draw
section ex
variable {c : Ctx} {Q : AExit → St → Prop} {K : St → Prop} {s : St} {id j : Nat}
end ex
section app
variable {c : Ctx} {ops : Array Oper} {Q : AExit → St → Prop} {s : St} {i : Nat} {o : Oper} {l m : List Oper} {H0 : List AObj} {k : Nat}
end app
theorem W (n : Nat) {p q : Prop} (k : q) (h : Cnt n → (Unit → q) → p := by
  intro hc hk
  repeat (
    replace hc := Cnt.pred hc
    repeat (with_reducible (first | refine xn ?_ | refine sa ?_ | refine sa0 ?_ | refine aw_seq ?_ | refine aw_region ?_ | refine sq_nil ?_ | refine aw_skip ?_ | refine aw_block ?_ | refine bn ?_ | refine aw_exit ?_ | refine xe ?_ | refine be ?_ | refine bo ?_ | refine gn ?_ | refine ge ?_ | refine xr ?_ | refine br ?_ | refine gr ?_ | refine aw_label ?_ | refine aw_scope ?_))
    first
    | ((with_reducible apply sq_ev); exact rfl; exact EV)
    | ((with_reducible apply sn1); exact rfl; exact rfl; exact GD J; exact rfl)
    | ((with_reducible apply sn0); exact rfl; exact rfl; exact GD J; exact rfl)
    | ((with_reducible apply sq_yes); exact rfl; exact rfl; exact GD J; exact rfl; exact EV)
    | ((with_reducible apply su); exact rfl; exact rfl; exact J; exact rfl)
    | ((with_reducible apply sq_box); exact rfl; exact J; exact rfl)
    | ((with_reducible apply sq_alloc); exact rfl; exact ZeO.h)
    | ((with_reducible apply sq_store); exact rfl; exact J; exact J; exact rfl; exact rfl; exact TyF.h; exact rfl; exact rfl)
    | ((with_reducible refine aw_true ?_ ?_); exact GD J)
    | ((with_reducible refine aw_false ?_ ?_); exact GD J))
  repeat (with_reducible (first | refine xn ?_ | refine sa ?_ | refine sa0 ?_ | refine aw_seq ?_ | refine aw_region ?_ | refine sq_nil ?_ | refine aw_skip ?_ | refine aw_block ?_ | refine bn ?_ | refine aw_exit ?_ | refine xe ?_ | refine be ?_ | refine bo ?_ | refine gn ?_ | refine ge ?_ | refine xr ?_ | refine br ?_ | refine gr ?_ | refine aw_label ?_ | refine aw_scope ?_ | refine aw_ret ?_))
  exact hk ()) : p := h ⟨⟩ fun _ => k
end Go.Ab
namespace Hd
open Ni (inn)
def lentS (r : Rg) (h : Nat) (x : Rt) (off free : List Int) : Nat → List Int × Int
  | 0 => ([], 0)
  | k + 1 => if 0 ≤ free.getD k 0 ∧ (lentS r h x off free k).2 < r.mends then ((lentS r h x off free k).1 ++ [free.getD k 0], (lentS r h x off free k).2 + 1)
    else ((lentS r h x off free k).1 ++ [if 0 ≤ off.getD k 0 then min (lo r.off (sz r h k * rm r x k) + off.getD k 0) (hi r.off (sz r h k * rm r x k)) else -1], (lentS r h x off free k).2)
theorem lent_len (r : Rg) (h : Nat) (x : Rt) (off free : List Int) : ∀ k, (lentS r h x off free k).1.length = k
  | 0 => rfl
  | k + 1 => by unfold lentS; split <;> simp [lent_len r h x off free k]
theorem lent_cnt {r : Rg} (h0 : 0 ≤ r.mends) (h : Nat) (x : Rt) (off free : List Int) : ∀ k, 0 ≤ (lentS r h x off free k).2 ∧ (lentS r h x off free k).2 ≤ r.mends
  | 0 => by unfold lentS; simp; exact h0
  | k + 1 => by have ih := lent_cnt h0 h x off free k; unfold lentS; split <;> simp only <;> omega
theorem getD_app {α : Type} {l m : List α} {d : α} {i : Nat} (h : i < l.length) : (l ++ m).getD i d = l.getD i d := by
  unfold List.getD; rw [List.getElem?_append_left h]
theorem getD_last {α : Type} {l : List α} {a d : α} {i : Nat} (h : l.length = i) : (l ++ [a]).getD i d = a := by
  subst h; unfold List.getD; simp
theorem lohi {r : Rg} (B : RgB r) {h m : Nat} {x : Rt} (hx : rtOK r x = true) (hh : h < r.hides.length) (hm : m < r.kinds.length) : 0 ≤ lo r.off (sz r h m * rm r x m) ∧ lo r.off (sz r h m * rm r x m) ≤ hi r.off (sz r h m * rm r x m) ∧ hi r.off (sz r h m * rm r x m) ≤ 1000 := by
  have h1 := B.off; have ha := B.a; have hb := B.b
  have hs := B.sz h m hh hm
  obtain ⟨x1, x2⟩ := rtOK_iff.1 hx
  have hr : 700 ≤ rm r x m ∧ rm r x m ≤ 1300 := by unfold rm; split <;> omega
  have hp : 0 ≤ sz r h m * rm r x m := Int.mul_nonneg (by omega) (by omega)
  have hq : sz r h m * rm r x m ≤ 500 * 1300 := Int.mul_le_mul (by omega) (by omega) (by omega) (by omega)
  rw [lo_eq, hi_eq (by omega) hp]; omega
theorem lent_chg {r : Rg} (B : RgB r) {h : Nat} {x : Rt} (hx : rtOK r x = true) (hh : h < r.hides.length) (off free : List Int) : ∀ k, k ≤ r.kinds.length →
    (((List.range k).countP fun m => chB r h (lentS r h x off free k).1 (rm r x m) m : Nat) : Int) ≤ (lentS r h x off free k).2
  | 0, _ => by simp [lentS]
  | k + 1, hk => by
    have ih := lent_chg B hx hh off free k (by omega)
    have hl := lent_len r h x off free k
    have pre : ∀ a, ((List.range k).countP fun m => chB r h ((lentS r h x off free k).1 ++ [a]) (rm r x m) m) = (List.range k).countP fun m => chB r h (lentS r h x off free k).1 (rm r x m) m := fun a => by
      refine List.countP_congr fun m hm => ?_
      have hm := List.mem_range.1 hm
      unfold chB; rw [getD_app (by omega)]
    rw [List.range_succ, List.countP_append]
    rw [lentS]
    split
    · simp only
      rw [pre]
      have : (List.countP (fun m => chB r h ((lentS r h x off free k).1 ++ [free.getD k 0]) (rm r x m) m) [k]) ≤ 1 := List.countP_le_length
      omega
    · simp only
      rw [pre]
      have hz : chB r h ((lentS r h x off free k).1 ++ [if 0 ≤ off.getD k 0 then min (lo r.off (sz r h k * rm r x k) + off.getD k 0) (hi r.off (sz r h k * rm r x k)) else -1]) (rm r x k) k = false := by
        unfold chB
        rw [getD_last hl]
        have := lohi B hx hh (m := k) (by omega)
        split
        · unfold chg inn
          rw [Bool.and_eq_false_iff]
          right
          simp only [Bool.not_eq_false', Bool.and_eq_true, decide_eq_true_eq]
          omega
        · exact chg_neg (by omega)
      simp only [List.countP_cons, List.countP_nil, hz]
      simp
      exact ih
def lentF (r : Rg) (h : Nat) (x : Rt) (off free : List Int) : List Int := (lentS r h x off free r.kinds.length).1
/-- **A hide that was lent may be the one.** -/
theorem lent_may {r : Rg} (B : RgB r) {h : Nat} {x : Rt} (hx : rtOK r x = true) (hh : h < r.hides.length) (off free : List Int) : may r h (lentF r h x off free) = true := by
  refine (may_iff B).2 ⟨x, hx, ?_⟩
  have h1 := lent_chg B hx hh off free r.kinds.length (Nat.le_refl _)
  have h2 := lent_cnt B.mends.1 h x off free r.kinds.length
  unfold chA
  rw [nums_count]
  exact Int.le_trans h1 h2.2
theorem lent_bd {r : Rg} (B : RgB r) {h : Nat} {x : Rt} (hx : rtOK r x = true) (hh : h < r.hides.length) {off free : List Int} (ho : ∀ i, i < r.kinds.length → -1 ≤ off.getD i 0) (hf : ∀ i, i < r.kinds.length → -1 ≤ free.getD i 0 ∧ free.getD i 0 ≤ 1000) : ∀ k, k ≤ r.kinds.length → ∀ n ∈ (lentS r h x off free k).1, -1 ≤ n ∧ n ≤ 1000
  | 0, _, n, hn => by simp [lentS] at hn
  | k + 1, hk, n, hn => by
    have ih := lent_bd B hx hh ho hf k (by omega)
    unfold lentS at hn
    split at hn
    · rcases List.mem_append.1 hn with hn | hn
      · exact ih n hn
      · rw [List.mem_singleton] at hn; subst hn; exact hf k (by omega)
    · rcases List.mem_append.1 hn with hn | hn
      · exact ih n hn
      · rw [List.mem_singleton] at hn; subst hn
        have := lohi B hx hh (m := k) (by omega)
        have := ho k (by omega)
        split <;> omega
theorem who_cnt (r : Rg) (f : List Int) (v : Int) : (whoOf r f).count v = (List.range r.hides.length).countP fun h => decide (wordOf r f h = v) := by
  unfold whoOf
  rw [List.count_eq_countP, List.countP_map]
  refine List.countP_congr fun h _ => ?_
  simp [beq_iff_eq]
theorem who_may (r : Rg) (f : List Int) : (whoOf r f).count 2 = if (mays r f).length = 1 then 0 else (mays r f).length := by
  rw [who_cnt]
  split
  · rename_i e
    rw [List.countP_eq_zero]
    intro h _
    unfold wordOf; rw [if_pos e]; split <;> simp
  · rename_i e
    unfold mays
    rw [← List.countP_eq_length_filter]
    refine List.countP_congr fun h _ => ?_
    unfold wordOf; rw [if_neg e]; cases may r h f <;> simp
theorem who_sure (r : Rg) (f : List Int) : (whoOf r f).count 3 = if (mays r f).length = 1 then 1 else 0 := by
  rw [who_cnt]
  split
  · rename_i e
    rw [← e]
    conv => rhs; unfold mays
    rw [← List.countP_eq_length_filter]
    refine List.countP_congr fun h _ => ?_
    unfold wordOf; rw [if_pos e]; cases may r h f <;> simp
  · rename_i e
    rw [List.countP_eq_zero]
    intro h _
    unfold wordOf; rw [if_neg e]; split <;> simp
end Hd
namespace Hd
open Ni (inn)
theorem fd_bd {r : Rg} {f : List Int} (h : fdOK r f = true) {i : Nat} (hi : i < f.length) : -1 ≤ f[i] ∧ f[i] ≤ 1000 := (fdOK_iff.1 h).2 _ (List.getElem_mem hi)
end Hd
namespace Go.Proofs.YtjpokekbjmdgmaaGreatDoor
open Go Go.Ab Ni Hd
theorem rin_pure (n lo hi : Int) : APure Tryz.prog 74 [I n, I lo, I hi] (B (inn n lo hi)) := by
  refine ap Tryz.func74 (fun e0 he0 => ?_)
  refine wz 5 ?_
  refine sz 10 (fun g1 g1' => ?_) (fun g1 g1' => ?_)
  ·refine wz 5 ?_
   exact rz rfl (Less.eq (by simp [inn, *]))
  refine wz 5 ?_
  exact rz rfl (Less.eq (by simp [inn, *]))
end Go.Proofs.YtjpokekbjmdgmaaGreatDoor
namespace Go.Proofs.YtjpokekbjmdgmaaGreatDoor
open Go Go.Ab Ni Hd
def shB (r : Rg) : Bool := decide ((r.kinds.length ≤ 8 ∧ r.hides.length ≤ 8) ∧ ∀ i, (hi : i < r.hides.length) → i < 9 → r.hides[i].length ≤ 10)
theorem shB_fin {r : Rg} (h3 : ∀ i, (hi : i < r.hides.length) → i < 9 → r.hides[i].length ≤ 10) : shB r = (decide (r.kinds.length ≤ 8) && decide (r.hides.length ≤ 8)) := by
  rw [Bool.eq_iff_iff]; unfold shB; simp only [decide_eq_true_eq, Bool.and_eq_true]
  exact ⟨fun h => h.1, fun h => ⟨h, h3⟩⟩
theorem shB_row {r : Rg} {i : Nat} (hi : i < r.hides.length) (h9 : i < 9) (h : ¬ r.hides[i].length ≤ 10) : shB r = false := decide_eq_false fun q => h (q.2 i hi h9)
theorem shB_len {r : Rg} (h : shB r = true) : r.kinds.length ≤ 1000000 ∧ r.hides.length ≤ 1000000 ∧ (∀ h ∈ r.hides, h.length ≤ 1000000) := by
  have q := of_decide_eq_true h
  refine ⟨by omega, by omega, fun x hx => ?_⟩
  obtain ⟨i, hi, rfl⟩ := List.getElem_of_mem hx
  have := q.2 i hi (by omega); omega
theorem rg_kind {r : Rg} {i : Nat} (hi : i < r.kinds.length) (h : kdOK r.kinds[i] = false) : rgOK r = false := by
  have e : r.kinds.all kdOK = false := by rw [List.all_eq_false]; exact ⟨_, List.getElem_mem hi, by rw [h]; simp⟩
  unfold rgOK; rw [e]; simp
theorem rg_hide {r : Rg} {i : Nat} (hi : i < r.hides.length) (h : hdOK r.kinds.length r.hides[i] = false) : rgOK r = false := by
  have e : r.hides.all (hdOK r.kinds.length) = false := by rw [List.all_eq_false]; exact ⟨_, List.getElem_mem hi, by rw [h]; simp⟩
  unfold rgOK; rw [e]; simp
theorem hd_len {w : Nat} {h : List Int} (e : h.length ≠ w) : hdOK w h = false := by unfold hdOK; rw [decide_eq_false e]; rfl
theorem hd_num {w : Nat} {h : List Int} {j : Nat} (hj : j < h.length) (e : inn h[j] 1 500 = false) : hdOK w h = false := by
  have q : (h.all fun n => inn n 1 500) = false := by rw [List.all_eq_false]; exact ⟨_, List.getElem_mem hj, by rw [e]; simp⟩
  unfold hdOK; rw [q]; simp
theorem hd_yes {w : Nat} {h : List Int} (e : h.length = w) (k : ∀ j, (hj : j < h.length) → inn h[j] 1 500 = true) : hdOK w h = true := by
  unfold hdOK; rw [decide_eq_true e, List.all_eq_true.2 fun x hx => by obtain ⟨j, hj, rfl⟩ := List.getElem_of_mem hx; exact k j hj]; rfl
theorem all_of {α : Type} {q : α → Bool} {l : List α} (h : ∀ j, (hj : j < l.length) → q l[j] = true) : l.all q = true := List.all_eq_true.2 fun x hx => by obtain ⟨j, hj, rfl⟩ := List.getElem_of_mem hx; exact h j hj
theorem fd_bad {r : Rg} {f : List Int} {i : Nat} (hi : i < f.length) (h : inn f[i] (-1) 1000 = false) : fdOK r f = false := by
  have e : (f.all fun n => inn n (-1) 1000) = false := by rw [List.all_eq_false]; exact ⟨_, List.getElem_mem hi, by rw [h]; simp⟩
  unfold fdOK; rw [e]; simp
theorem short_pure (r : Rg) : APure Tryz.prog 20 [rgA r] (B (shB r)) := by
  refine ap Tryz.func20 (fun e0 he0 => ?_)
  refine wz 3 ?_
  refine aw_loopk (ι := { k : Nat // k ≤ r.hides.length ∧ k ≤ 9 ∧ ∀ i, (hi : i < r.hides.length) → i < k → r.hides[i].length ≤ 10 }) [1] (fun i => [(3, I i.1)]) (fun H i => H) (fun i => r.hides.length - i.1) (⟨0, Nat.zero_le _, by omega, by omega⟩) ⟨jz, jz, trivial⟩ rfl ?_
  rintro ⟨k, hk, hk9, hok⟩
  refine nz ?_
  refine wz 6 ?_
  refine sz 9 (fun g2_5 g2_5' => ?_) (fun g2_5 g2_5' => ?_)
  ·have hkl : k < r.hides.length := by omega
   refine wz 3 ?_
   refine iz (fun c_12 c_12' => ?_) (fun c_12 c_12' => ?_)
   ·have hk9b : k < 9 := by have := of_decide_eq_true c_12; omega
    refine wz 7 ?_
    refine iz (fun c_21 c_21' => ?_) (fun c_21 c_21' => ?_)
    ·have hbad := shB_row hkl hk9b (by omega)
     refine wz 1 ?_
     exact rz rfl (Less.eq (by rw [hbad]))
    refine wz 3 ?_
    exact ⟨⟨k + 1, by omega, by omega, fun i hi h => (by by_cases e : i = k; (subst e; omega); exact hok i hi (by omega))⟩, by simp only; omega, Sub.slots ⟨jz, jz, trivial⟩⟩
   refine wz 5 ?_
   refine sz 26 (fun g6_4 g6_4' => ?_) (fun g6_4 g6_4' => ?_)
   ·refine wz 6 ?_
    exact rz rfl (Less.eq (congrArg B (by have h9 := of_decide_eq_false c_12; rw [shB_fin (fun i hi h8 => hok i hi (by omega)), Bool.eq_iff_iff]; simp; omega)))
   refine wz 6 ?_
   exact rz rfl (Less.eq (congrArg B (by have h9 := of_decide_eq_false c_12; rw [shB_fin (fun i hi h8 => hok i hi (by omega)), Bool.eq_iff_iff]; simp; omega)))
  obtain rfl : k = r.hides.length := by omega
  refine wz 9 ?_
  refine sz 26 (fun g6_4 g6_4' => ?_) (fun g6_4 g6_4' => ?_)
  ·refine wz 6 ?_
   exact rz rfl (Less.eq (congrArg B (by rw [shB_fin (fun i hi _ => hok i hi hi), Bool.eq_iff_iff]; simp; omega)))
  refine wz 6 ?_
  exact rz rfl (Less.eq (congrArg B (by rw [shB_fin (fun i hi _ => hok i hi hi), Bool.eq_iff_iff]; simp; omega)))
theorem rspan_pure (a b : Int) (ha : -1000000 ≤ a ∧ a ≤ 1000000 ∨ True) : APure Tryz.prog 75 [.agg [I a, I b]] (B (spOK a b)) := by
  refine ap Tryz.func75 (fun e0 he0 => ?_)
  refine vz 2 ?_
  refine sq_nil ?_
  refine aw_seq ?_
  have hin : ∀ x lo hi : Int, inn x lo hi = true ↔ lo ≤ x ∧ x ≤ hi := fun x lo hi => by unfold inn; simp
  refine wz 2 ?_
  refine kz az (rin_pure _ _ _) ?_
  refine wz 1 ?_
  refine sz 6 (fun g1_3 g1_3' => ?_) (fun g1_3 g1_3' => ?_)
  ·have h1 := (hin _ _ _).1 g1_3
   refine wz 4 ?_
   refine ky az (rin_pure _ _ _) ?_
   refine wz 2 ?_
   refine sz 13 (fun g1_10 g1_10' => ?_) (fun g1_10 g1_10' => ?_)
   ·have h2 := (hin _ _ _).1 g1_10
    refine wz 8 ?_
    exact rz rfl (Less.eq (by unfold spOK; simp [*]))
   refine wz 8 ?_
   exact rz rfl (Less.eq (by unfold spOK; simp [*]))
  refine wz 15 ?_
  exact rz rfl (Less.eq (by unfold spOK; simp [*]))
theorem register_pure (r : Rg) (hk : r.kinds.length ≤ 1000000) (hh : r.hides.length ≤ 1000000) (hw : ∀ h ∈ r.hides, h.length ≤ 1000000) : APure Tryz.prog 21 [rgA r] (B (rgOK r)) := by
  refine ap Tryz.func21 (fun e0 he0 => ?_)
  refine wz 5 ?_
  refine kz az (rin_pure _ _ _) ?_
  refine wz 2 ?_
  refine sz 11 (fun g1_5 g1_5' => ?_) (fun g1_5 g1_5' => ?_)
  ·refine wz 8 ?_
   exact rz rfl (Less.eq (by unfold rgOK; simp_all))
  refine wz 3 ?_
  refine ky az (rin_pure _ _ _) ?_
  refine wz 2 ?_
  refine iz (fun c_17 c_17' => ?_) (fun c_17 c_17' => ?_)
  ·refine wz 1 ?_
   exact rz rfl (Less.eq (by unfold rgOK; simp_all))
  refine wz 1 ?_
  refine aw_loopk (ι := { k : Nat // k ≤ r.kinds.length ∧ ∀ i, (hi : i < r.kinds.length) → i < k → kdOK r.kinds[i] = true }) [1] (fun i => [(3, I i.1)]) (fun H i => H) (fun i => r.kinds.length - i.1) (⟨0, Nat.zero_le _, by omega⟩) ⟨jz, jz, trivial⟩ rfl ?_
  rintro ⟨k, hkk, hok⟩
  refine nz ?_
  refine wz 5 ?_
  refine iz (fun c_22 c_22' => ?_) (fun c_22 c_22' => ?_)
  ·have hkl : k < r.kinds.length := by omega
   refine wz 7 ?_
   refine sz 31 (fun g6_6 g6_6' => ?_) (fun g6_6 g6_6' => ?_)
   ·refine wz 7 ?_
    refine iz (fun c_38 c_38' => ?_) (fun c_38 c_38' => ?_)
    ·have hbad := rg_kind hkl (by unfold kdOK; have h5 := of_decide_eq_true c_38; exact decide_eq_false (by omega))
     refine wz 1 ?_
     exact rz rfl (Less.eq (by rw [hbad]))
    have hkd : kdOK r.kinds[k] = true := by unfold kdOK; have h5 := of_decide_eq_false c_38; exact decide_eq_true (by omega)
    refine wz 3 ?_
    exact ⟨⟨k + 1, by omega, fun i hi h => (by by_cases e : i = k; (subst e; exact hkd); exact hok i hi (by omega))⟩, by simp only; omega, Sub.slots ⟨jz, jz, trivial⟩⟩
   have hkd : kdOK r.kinds[k] = true := by unfold kdOK; exact decide_eq_true (by omega)
   refine wz 11 ?_
   exact ⟨⟨k + 1, by omega, fun i hi h => (by by_cases e : i = k; (subst e; exact hkd); exact hok i hi (by omega))⟩, by simp only; omega, Sub.slots ⟨jz, jz, trivial⟩⟩
  obtain rfl : k = r.kinds.length := by omega
  have hall1 : r.kinds.all kdOK = true := all_of fun j hj => hok j hj hj
  refine wz 1 ?_
  refine aw_loopk (ι := { k : Nat // k ≤ r.hides.length ∧ ∀ i, (hi : i < r.hides.length) → i < k → hdOK r.kinds.length r.hides[i] = true }) [1] (fun i => [(4, I i.1)]) (fun H i => H) (fun i => r.hides.length - i.1) (⟨0, Nat.zero_le _, by omega⟩) ⟨jz, jz, trivial⟩ rfl ?_
  rintro ⟨k, hkh, hok2⟩
  refine nz ?_
  refine wz 5 ?_
  refine iz (fun c_43 c_43' => ?_) (fun c_43 c_43' => ?_)
  ·have hhl : k < r.hides.length := by omega
   have hwl := hw _ (List.getElem_mem hhl)
   refine wz 0 ?_
   refine aw_draw 10 mo (by kernel_rfl) ?_
   refine dz 10 ?_
   refine wz 0 ?_
   refine iz (fun c_55 c_55' => ?_) (fun c_55 c_55' => ?_)
   ·have hbad := rg_hide hhl (hd_len (by omega))
    refine wz 1 ?_
    exact rz rfl (Less.eq (by rw [hbad]))
   have hle : r.hides[k].length = r.kinds.length := by omega
   refine wz 1 ?_
   refine aw_loopk (ι := { j : Nat // j ≤ r.hides[k].length ∧ ∀ i, (hi : i < r.hides[k].length) → i < j → inn r.hides[k][i] 1 500 = true }) [1, 4] (fun u => [(5, I u.1)]) (fun H u => H) (fun u => r.hides[k].length - u.1) (⟨0, Nat.zero_le _, by omega⟩) ⟨jz, jz, jz, trivial⟩ rfl ?_
   rintro ⟨j, hj, hok3⟩
   refine nz ?_
   refine wz 8 ?_
   refine iz (fun c_63 c_63' => ?_) (fun c_63 c_63' => ?_)
   ·have hjl : j < r.hides[k].length := by omega
    refine wz 8 ?_
    refine kz az (rin_pure _ _ _) ?_
    refine wz 1 ?_
    refine iz (fun c_75 c_75' => ?_) (fun c_75 c_75' => ?_)
    ·have hbad := rg_hide hhl (hd_num hjl (by simpa using c_75))
     refine wz 1 ?_
     exact rz rfl (Less.eq (by rw [hbad]))
    have hin : inn r.hides[k][j] 1 500 = true := by simpa using c_75
    refine wz 3 ?_
    exact ⟨⟨j + 1, by omega, fun i hi h => (by by_cases e : i = j; (subst e; exact hin); exact hok3 i hi (by omega))⟩, by simp only; omega, Sub.slots ⟨jz, jz, jz, trivial⟩⟩
   obtain rfl : j = r.hides[k].length := by omega
   refine wz 3 ?_
   exact ⟨⟨k + 1, by omega, fun i hi h => (by by_cases e : i = k; (subst e; exact hd_yes hle fun j hj => hok3 j hj hj); exact hok2 i hi (by omega))⟩, by simp only; omega, Sub.slots ⟨jz, jz, trivial⟩⟩
  obtain rfl : k = r.hides.length := by omega
  have hall2 : r.hides.all (hdOK r.kinds.length) = true := all_of fun j hj => hok2 j hj hj
  refine wz 2 ?_
  refine kz az (rspan_pure _ _ (.inr trivial)) ?_
  refine wz 1 ?_
  refine sz 79 (fun g18_3 g18_3' => ?_) (fun g18_3 g18_3' => ?_)
  ·refine wz 2 ?_
   refine ky az (rspan_pure _ _ (.inr trivial)) ?_
   refine wz 2 ?_
   refine sz 84 (fun g18_8 g18_8' => ?_) (fun g18_8 g18_8' => ?_)
   ·refine wz 2 ?_
    refine ky az (rin_pure _ _ _) ?_
    refine wz 2 ?_
    refine sz 89 (fun g18_13 g18_13' => ?_) (fun g18_13 g18_13' => ?_)
    ·refine wz 2 ?_
     refine ky az (rin_pure _ _ _) ?_
     refine wz 2 ?_
     exact rz rfl (Less.eq (by unfold rgOK; rw [hall1, hall2]; simp_all))
    refine wz 5 ?_
    exact rz rfl (Less.eq (by unfold rgOK; rw [hall1, hall2]; simp_all))
   refine wz 10 ?_
   exact rz rfl (Less.eq (by unfold rgOK; rw [hall1, hall2]; simp_all))
  refine wz 15 ?_
  exact rz rfl (Less.eq (by unfold rgOK; rw [hall1, hall2]; simp_all))
end Go.Proofs.YtjpokekbjmdgmaaGreatDoor
namespace Go.Proofs.YtjpokekbjmdgmaaGreatDoor
open Go Go.Ab Ni Hd
theorem short_t {r : Rg} (h : shB r = true) : APure Tryz.prog 20 [rgA r] (B true) := by have q := short_pure r; rw [h] at q; exact q
theorem short_f {r : Rg} (h : shB r = false) : APure Tryz.prog 20 [rgA r] (B false) := by have q := short_pure r; rw [h] at q; exact q
theorem reg_t {r : Rg} (hs : shB r = true) (h : rgOK r = true) : APure Tryz.prog 21 [rgA r] (B true) := by have q := register_pure r (shB_len hs).1 (shB_len hs).2.1 (shB_len hs).2.2; rw [h] at q; exact q
theorem reg_f {r : Rg} (hs : shB r = true) (h : rgOK r = false) : APure Tryz.prog 21 [rgA r] (B false) := by have q := register_pure r (shB_len hs).1 (shB_len hs).2.1 (shB_len hs).2.2; rw [h] at q; exact q
end Go.Proofs.YtjpokekbjmdgmaaGreatDoor
namespace Go.Proofs.YtjpokekbjmdgmaaGreatDoor
open Go Go.Ab Ni Hd
def slimB (l : List Int) : Bool := decide (l.length ≤ 10)
theorem slim_len {l : List Int} (h : slimB l = true) : l.length ≤ 1000000 := by have := of_decide_eq_true h; omega
theorem rhide_pure (r : Rg) (n : Int) (hh : r.hides.length ≤ 1000000) : APure Tryz.prog 22 [rgA r, I n] (B (hdIn r n)) := by
  refine ap Tryz.func22 (fun e0 he0 => ?_)
  refine wz 7 ?_
  refine kz az (rin_pure _ _ _) ?_
  refine wz 1 ?_
  exact rz rfl (Less.eq rfl)
theorem rrated_pure (r : Rg) (x : Rt) : APure Tryz.prog 23 [rgA r, rtA x] (B (rtOK r x)) := by
  refine ap Tryz.func23 (fun e0 he0 => ?_)
  refine wz 11 ?_
  refine kz az (rin_pure _ _ _) ?_
  refine wz 1 ?_
  refine sz 14 (fun g1_9 g1_9' => ?_) (fun g1_9 g1_9' => ?_)
  ·refine wz 8 ?_
   refine ky az (rin_pure _ _ _) ?_
   refine wz 2 ?_
   exact rz rfl (Less.eq (by unfold rtOK; simp [*]))
  refine wz 11 ?_
  exact rz rfl (Less.eq (by unfold rtOK; simp [*]))
end Go.Proofs.YtjpokekbjmdgmaaGreatDoor
namespace Go.Proofs.YtjpokekbjmdgmaaGreatDoor
open Go Go.Ab Ni Hd
instance un4 : UnD Tryz.prog 4 .bool := ⟨by kernel_rfl⟩
theorem whob_t {r : Rg} {f : List Int} (hs : shB r = true) (hf : slimB f = true) (ho : okWho r f = true) (hn : 0 < (mays r f).length) : APure Tryz.prog 39 [rgA r, ints f] (.tup [ints (whoOf r f), I 0]) := who_ok (shB_len hs).1 (shB_len hs).2.1 (shB_len hs).2.2 (slim_len hf) ho hn
theorem okWho_of {r : Rg} {f : List Int} (hr : rgOK r = true) (hd : fdOK r f = true) : okWho r f = true := by unfold okWho; rw [hr, hd]; rfl
theorem whoOf_len (r : Rg) (f : List Int) : (whoOf r f).length = r.hides.length := by simp [whoOf]
theorem warp_len (r : Rg) (h : Nat) (x : Rt) : (warpOf r h x).length = r.kinds.length := by unfold warpOf; exact warpK_len r h x _
end Go.Proofs.YtjpokekbjmdgmaaGreatDoor
namespace Go.Proofs.YtjpokekbjmdgmaaGreatDoor
open Go Go.Ab Ni Hd
def frm (now : List Int) : Nat := if h : 0 < now.length then (now[now.length - 1]).toNat + 1 else 0
end Go.Proofs.YtjpokekbjmdgmaaGreatDoor
namespace Go.Proofs.YtjpokekbjmdgmaaGreatDoor
open Go Go.Ab Ni Hd
theorem warpOf_get {r : Rg} {h m : Nat} {x : Rt} (hm : m < r.kinds.length) (hw : m < (warpOf r h x).length) : (warpOf r h x)[m] = (lom r h m x, him r h m x) := by
  simp [warpOf, warpK, lom, him]
end Go.Proofs.YtjpokekbjmdgmaaGreatDoor
namespace Go.Proofs.YtjpokekbjmdgmaaGreatDoor
open Go Go.Ab Ni Hd
theorem rfindL_pure (r : Rg) (f : List Int) (hl : (f.length : Int) ≤ 9223372036854775807) : APure Tryz.prog 24 [rgA r, ints f] (B (fdOK r f)) := by
  refine ap Tryz.func24 (fun e0 he0 => ?_)
  refine wz 3 ?_
  refine aw_loopk (ι := { k : Nat // k ≤ f.length ∧ ∀ i, (hi : i < f.length) → i < k → inn f[i] (-1) 1000 = true }) [1, 2] (fun i => [(5, I i.1)]) (fun H i => H) (fun i => f.length - i.1) (⟨0, Nat.zero_le _, by omega⟩) ⟨jz, jz, jz, trivial⟩ rfl ?_
  rintro ⟨k, hk, hok⟩
  refine nz ?_
  refine wz 4 ?_
  refine iz (fun c_9 c_9' => ?_) (fun c_9 c_9' => ?_)
  ·have hkl : k < f.length := by omega
   refine wz 4 ?_
   refine kz az (rin_pure _ _ _) ?_
   refine wz 1 ?_
   refine iz (fun c_17 c_17' => ?_) (fun c_17 c_17' => ?_)
   ·refine wz 1 ?_
    exact rz rfl (Less.eq (by rw [fd_bad hkl (by simpa using c_17)]))
   refine wz 3 ?_
   exact ⟨⟨k + 1, by omega, fun i hi h => (by by_cases e : i = k; (subst e; simpa using c_17); exact hok i hi (by omega))⟩, by simp only; omega, Sub.slots ⟨jz, jz, jz, trivial⟩⟩
  obtain rfl : k = f.length := by omega
  have hall : (f.all fun n => inn n (-1) 1000) = true := all_of fun j hj => hok j hj hj
  refine wz 7 ?_
  exact rz rfl (Less.eq (congrArg B (by unfold fdOK; rw [hall, Bool.and_true, Bool.eq_iff_iff]; simp; omega)))
theorem find_any (r : Rg) {f : List Int} (hl : (f.length : Int) ≤ 9223372036854775807) {b : Bool} (h : fdOK r f = b) : APure Tryz.prog 24 [rgA r, ints f] (B b) := by have q := rfindL_pure r f hl; rw [h] at q; exact q
theorem hide_b {r : Rg} {n : Int} (hs : shB r = true) {b : Bool} (h : hdIn r n = b) : APure Tryz.prog 22 [rgA r, I n] (B b) := by have q := rhide_pure r n (shB_len hs).2.1; rw [h] at q; exact q
theorem rated_b {r : Rg} {x : Rt} {b : Bool} (h : rtOK r x = b) : APure Tryz.prog 23 [rgA r, rtA x] (B b) := by have q := rrated_pure r x; rw [h] at q; exact q
end Go.Proofs.YtjpokekbjmdgmaaGreatDoor
namespace Go.Proofs.YtjpokekbjmdgmaaGreatDoor
open Go Go.Ab Ni Hd
theorem lent_t {r : Rg} {h : Nat} {x : Rt} {o f : List Int} {k : Nat} {b : Int} (hb : f.getD k 0 = b) (hc : 0 ≤ b ∧ (lentS r h x o f k).2 < r.mends) : lentS r h x o f (k + 1) = ((lentS r h x o f k).1 ++ [b], (lentS r h x o f k).2 + 1) := by subst hb; rw [lentS, if_pos hc]
theorem lent_p {r : Rg} {h : Nat} {x : Rt} {o f : List Int} {k : Nat} {a b : Int} {w : Int × Int} (hw : w = (lom r h k x, him r h k x)) (ha : o.getD k 0 = a) (hb : f.getD k 0 = b) (hc : ¬ (0 ≤ b ∧ (lentS r h x o f k).2 < r.mends)) (h0 : 0 ≤ a) : lentS r h x o f (k + 1) = ((lentS r h x o f k).1 ++ [min (w.1 + a) w.2], (lentS r h x o f k).2) := by subst ha hb hw; rw [lentS, if_neg hc, if_pos h0]; rfl
theorem lent_n {r : Rg} {h : Nat} {x : Rt} {o f : List Int} {k : Nat} {a b : Int} (ha : o.getD k 0 = a) (hb : f.getD k 0 = b) (hc : ¬ (0 ≤ b ∧ (lentS r h x o f k).2 < r.mends)) (h0 : ¬ 0 ≤ a) : lentS r h x o f (k + 1) = ((lentS r h x o f k).1 ++ [-1], (lentS r h x o f k).2) := by subst ha hb; rw [lentS, if_neg hc, if_neg h0]
def wcnt (r : Rg) (f : List Int) (v : Int) (k : Nat) : Nat := ((whoOf r f).take k).count v
theorem wcnt_succ {r : Rg} {f : List Int} {v : Int} {k : Nat} (hk : k < (whoOf r f).length) : wcnt r f v (k + 1) = wcnt r f v k + if (whoOf r f)[k] = v then 1 else 0 := by
  unfold wcnt; rw [List.take_succ_eq_append_getElem hk, List.count_append, List.count_singleton]; simp
theorem wcnt_all (r : Rg) (f : List Int) (v : Int) : wcnt r f v (whoOf r f).length = (whoOf r f).count v := by unfold wcnt; rw [List.take_length]
theorem wcnt_le (r : Rg) (f : List Int) (v : Int) (k : Nat) : wcnt r f v k ≤ r.hides.length := by
  have h1 := List.count_le_length (a := v) (l := (whoOf r f).take k)
  have h2 := whoOf_len r f
  rw [List.length_take] at h1; unfold wcnt; omega
theorem who_at {r : Rg} {f : List Int} {k : Nat} (hk : k < (whoOf r f).length) : (whoOf r f)[k] = wordOf r f k := by simp [whoOf]
theorem word_bd (r : Rg) (f : List Int) (k : Nat) : 1 ≤ wordOf r f k ∧ wordOf r f k ≤ 3 ∧ (wordOf r f k = 1 ↔ r.mends < fews r k f) := by
  unfold wordOf may
  by_cases q : fews r k f ≤ r.mends
  · rw [decide_eq_true q, if_pos rfl]; split <;> omega
  · rw [decide_eq_false q, if_neg (by simp)]; omega
theorem who_end {r : Rg} {f : List Int} {h : Nat} (hm : may r h f = true) (hh : h < (whoOf r f).length) : ((mays r f).length = 1 ∧ wcnt r f 2 r.hides.length = 0 ∧ wcnt r f 3 r.hides.length = 1 ∧ (whoOf r f)[h] = 3) ∨ (2 ≤ (mays r f).length ∧ wcnt r f 2 r.hides.length = (mays r f).length ∧ wcnt r f 3 r.hides.length = 0) := by
  have a2 := wcnt_all r f 2
  have a3 := wcnt_all r f 3
  have hl := whoOf_len r f
  rw [who_may, hl] at a2
  rw [who_sure, hl] at a3
  have hp : 0 < (mays r f).length := List.length_pos_of_mem (List.mem_filter.2 ⟨List.mem_range.2 (by omega), hm⟩)
  by_cases q : (mays r f).length = 1
  · rw [if_pos q] at a2 a3; exact .inl ⟨q, a2, a3, by rw [who_at]; unfold wordOf; rw [hm, if_pos rfl, if_pos q]⟩
  · rw [if_neg q] at a2 a3; exact .inr ⟨by omega, a2, a3⟩
theorem mays_pos {r : Rg} {h : Nat} {f : List Int} (hh : h < r.hides.length) (hm : may r h f = true) : 0 < (mays r f).length :=
  List.length_pos_of_mem (List.mem_filter.2 ⟨List.mem_range.2 hh, hm⟩)
theorem law7_0 {r : Rg} {n : Int} {x : Rt} {o f : List Int}  (hs : shB r = false) (hl : (f.length : Int) ≤ 9223372036854775807) : APure Tryz.prog 7 [rgA r, I n, rtA x, ints o, ints f] (B true) := by
  refine ap Tryz.func7 (fun e0 he0 => ?_)
  refine wz 4 ?_
  refine kz az (short_f hs) ?_
  refine wz 33 ?_
  refine kz az (known_pure) ?_
  refine wz 1 ?_
  exact rz rfl jz
theorem law7_1 {r : Rg} {n : Int} {x : Rt} {o f : List Int} (hs : shB r = true) (hr : rgOK r = false) (hl : (f.length : Int) ≤ 9223372036854775807) : APure Tryz.prog 7 [rgA r, I n, rtA x, ints o, ints f] (B true) := by
  refine ap Tryz.func7 (fun e0 he0 => ?_)
  refine wz 4 ?_
  refine kz az (short_t hs) ?_
  refine wz 3 ?_
  refine ky az (reg_f hs hr) ?_
  refine wz 29 ?_
  refine kz az (known_pure) ?_
  refine wz 1 ?_
  exact rz rfl jz
theorem law7_2 {r : Rg} {n : Int} {x : Rt} {o f : List Int} (hs : shB r = true) (hr : rgOK r = true) (hh : hdIn r n = false) (hl : (f.length : Int) ≤ 9223372036854775807) : APure Tryz.prog 7 [rgA r, I n, rtA x, ints o, ints f] (B true) := by
  refine ap Tryz.func7 (fun e0 he0 => ?_)
  refine wz 4 ?_
  refine kz az (short_t hs) ?_
  refine wz 3 ?_
  refine ky az (reg_t hs hr) ?_
  refine wz 5 ?_
  refine ky az (hide_b hs hh) ?_
  refine wz 23 ?_
  refine kz az (known_pure) ?_
  refine wz 1 ?_
  exact rz rfl jz
theorem law7_3 {r : Rg} {n : Int} {x : Rt} {o f : List Int} (hs : shB r = true) (hr : rgOK r = true) (hh : hdIn r n = true) (hx : rtOK r x = false) (hl : (f.length : Int) ≤ 9223372036854775807) : APure Tryz.prog 7 [rgA r, I n, rtA x, ints o, ints f] (B true) := by
  refine ap Tryz.func7 (fun e0 he0 => ?_)
  refine wz 4 ?_
  refine kz az (short_t hs) ?_
  refine wz 3 ?_
  refine ky az (reg_t hs hr) ?_
  refine wz 5 ?_
  refine ky az (hide_b hs hh) ?_
  refine wz 5 ?_
  refine ky az (rated_b hx) ?_
  refine wz 17 ?_
  refine kz az (known_pure) ?_
  refine wz 1 ?_
  exact rz rfl jz
theorem law7_4 {r : Rg} {n : Int} {x : Rt} {o f : List Int} (hs : shB r = true) (hr : rgOK r = true) (hh : hdIn r n = true) (hx : rtOK r x = true) (hlo : o.length ≠ r.kinds.length) (hl : (f.length : Int) ≤ 9223372036854775807) : APure Tryz.prog 7 [rgA r, I n, rtA x, ints o, ints f] (B true) := by
  refine ap Tryz.func7 (fun e0 he0 => ?_)
  refine wz 4 ?_
  refine kz az (short_t hs) ?_
  refine wz 3 ?_
  refine ky az (reg_t hs hr) ?_
  refine wz 5 ?_
  refine ky az (hide_b hs hh) ?_
  refine wz 5 ?_
  refine ky az (rated_b hx) ?_
  refine wz 11 ?_
  refine sz 52 (fun g1_28 g1_28' => ?_) (fun g1_28 g1_28' => ?_)
  ·refine wz 6 ?_
   refine kz az (known_pure) ?_
   refine wz 1 ?_
   exact rz rfl jz
  exfalso
  omega
theorem law7_5 {r : Rg} {n : Int} {x : Rt} {o f : List Int} (hs : shB r = true) (hr : rgOK r = true) (hh : hdIn r n = true) (hx : rtOK r x = true) (hlo : o.length = r.kinds.length) (hd : fdOK r f = false) (hl : (f.length : Int) ≤ 9223372036854775807) : APure Tryz.prog 7 [rgA r, I n, rtA x, ints o, ints f] (B true) := by
  refine ap Tryz.func7 (fun e0 he0 => ?_)
  refine wz 4 ?_
  refine kz az (short_t hs) ?_
  refine wz 3 ?_
  refine ky az (reg_t hs hr) ?_
  refine wz 5 ?_
  refine ky az (hide_b hs hh) ?_
  refine wz 5 ?_
  refine ky az (rated_b hx) ?_
  refine wz 11 ?_
  refine sz 52 (fun g1_28 g1_28' => ?_) (fun g1_28 g1_28' => ?_)
  ·exfalso
   omega
  refine wz 2 ?_
  refine ky az (find_any r hl hd) ?_
  refine wz 3 ?_
  refine kz az (known_pure) ?_
  refine wz 1 ?_
  exact rz rfl jz
theorem law7_m {r : Rg} {h : Nat} {x : Rt} {o f : List Int} (hs : shB r = true) (hr : rgOK r = true) (hh : hdIn r h = true) (hhl : h < r.hides.length) (hx : rtOK r x = true) (hlo : o.length = r.kinds.length) (hd : fdOK r f = true) (hl : (f.length : Int) ≤ 9223372036854775807) : APure Tryz.prog 7 [rgA r, I h, rtA x, ints o, ints f] (B true) := by
  refine ap Tryz.func7 (fun e0 he0 => ?_)
  refine aw_seq ?_
  have gB := rgOK_B hr
  have hfk := (fdOK_iff.1 hd).1
  have hwl := warp_len r h x
  have hnk := gB.nk
  have hnh := gB.nh
  have hmd := gB.mends
  refine wz 4 ?_
  refine kz az (short_t hs) ?_
  refine wz 3 ?_
  refine ky az (reg_t hs hr) ?_
  refine wz 5 ?_
  refine ky az (hide_b hs hh) ?_
  refine wz 5 ?_
  refine ky az (rated_b hx) ?_
  refine wz 11 ?_
  refine sz 52 (fun g1_28 g1_28' => ?_) (fun g1_28 g1_28' => ?_)
  ·exfalso
   omega
  refine wz 2 ?_
  refine ky az (find_any r hl hd) ?_
  refine wz 6 ?_
  refine kz az (warped_ok (shB_len hs).1 (shB_len hs).2.1 (shB_len hs).2.2 (show okW r h x = true by unfold okW; rw [hr, hh, hx]; rfl)) ?_
  refine wz 15 ?_
  refine iz (fun c_75 c_75' => ?_) (fun c_75 c_75' => ?_)
  ·exfalso
   omega
  refine vz 3 ?_
  refine sq_nil ?_
  refine aw_block ?_
  refine aw_sub (sub_token 13 1 jz) ?_
  refine aw_loopk (ι := { k : Nat // k ≤ r.kinds.length ∧ ∀ i, i < k → -1 ≤ o.getD i 0 ∧ o.getD i 0 ≤ 10 }) [1, 3, 4, 5, 11] (fun i => [(15, I i.1), (13, .own 2 1 (((lentS r h x o f i.1).1).map fun x => [I x])), (14, I (lentS r h x o f i.1).2)]) (fun H i => H.set 2 (.tok ((((lentS r h x o f i.1).1).map fun x => [I x])).length)) (fun i => r.kinds.length - i.1) (⟨0, Nat.zero_le _, by omega⟩) ⟨jz, jz, jz, jz, jz, jz, jz, jz, trivial⟩ rfl ?_
  rintro ⟨k, hk, hob⟩
  refine nz ?_
  have hcn := lent_cnt (r := r) (by omega) h x o f k
  have hll := lent_len r h x o f k
  refine wz 4 ?_
  refine iz (fun c_79 c_79' => ?_) (fun c_79 c_79' => ?_)
  ·have hkl : k < r.kinds.length := by omega
   have hkw : k < (warpOf r h x).length := by omega
   have hwk : (warpOf r h x)[k] = _ := warpOf_get (by omega) hkw
   have hlh := lohi gB (m := k) hx hhl (by omega)
   have hkf : k < f.length := by omega
   have hko : k < o.length := by omega
   have ho1 : o.getD k 0 = o[k] := getD_at hko
   have hf1 : f.getD k 0 = f[k] := getD_at hkf
   refine wz 0 ?_
   refine aw_draw 41 mo (by kernel_rfl) ?_
   refine dz 2 ?_
   refine dr_ev rfl (ev_index_map (k := k) (xs := warpOf r h x) sl36.h jz jz rfl hkw) ?_
   refine dz 4 ?_
   refine dsz 88 (fun g11_6 g11_6' => ?_) (fun g11_6 g11_6' => ?_)
   ·exfalso
    rw [hwk] at *
    simp only [lom, him] at *
    omega
   refine dz 2 ?_
   refine dr_yes rfl rfl (less_b g11_6) rfl (ev_index_map (k := k) (xs := warpOf r h x) sl36.h jz jz rfl hkw) ?_
   refine dz 5 ?_
   refine dsz 96 (fun g11_14 g11_14' => ?_) (fun g11_14 g11_14' => ?_)
   ·exfalso
    rw [hwk] at *
    simp only [lom, him] at *
    omega
   refine dz 2 ?_
   refine dr_yes rfl rfl (less_b g11_14) rfl (ev_index_map (k := k) (xs := warpOf r h x) sl36.h jz jz rfl hkw) ?_
   refine dz 4 ?_
   refine dr_yes rfl rfl (less_b g11_14) rfl (ev_index_map (k := k) (xs := warpOf r h x) sl36.h jz jz rfl hkw) ?_
   refine dz 5 ?_
   refine dsz 109 (fun g11_27 g11_27' => ?_) (fun g11_27 g11_27' => ?_)
   ·exfalso
    rw [hwk] at *
    simp only [lom, him] at *
    omega
   refine dz 7 ?_
   refine dsz 116 (fun g11_34 g11_34' => ?_) (fun g11_34 g11_34' => ?_)
   ·refine dz 6 ?_
    refine wz 1 ?_
    refine aw_draw 31 mo (by kernel_rfl) ?_
    refine dz 2 ?_
    refine dr_ev rfl (ev_index_map (k := k) (xs := warpOf r h x) sl36.h jz jz rfl hkw) ?_
    refine dz 4 ?_
    refine dsz 129 (fun g12_6 g12_6' => ?_) (fun g12_6 g12_6' => ?_)
    ·refine dz 2 ?_
     refine dr_yes rfl rfl (less_b g12_6) rfl (ev_index_map (k := k) (xs := warpOf r h x) sl36.h jz jz rfl hkw) ?_
     refine dz 5 ?_
     refine dsz 137 (fun g12_14 g12_14' => ?_) (fun g12_14 g12_14' => ?_)
     ·refine dz 2 ?_
      refine dr_yes rfl rfl (less_b g12_14) rfl (ev_index_map (k := k) (xs := warpOf r h x) sl36.h jz jz rfl hkw) ?_
      refine dz 4 ?_
      refine dr_yes rfl rfl (less_b g12_14) rfl (ev_index_map (k := k) (xs := warpOf r h x) sl36.h jz jz rfl hkw) ?_
      refine dz 5 ?_
      refine dsz 150 (fun g12_27 g12_27' => ?_) (fun g12_27 g12_27' => ?_)
      ·refine dky az (known_pure) ?_
       refine dz 2 ?_
       refine wz 0 ?_
       exact rz rfl jz
      exfalso
      rw [hwk] at *
      simp only [lom, him] at *
      omega
     exfalso
     rw [hwk] at *
     simp only [lom, him] at *
     omega
    exfalso
    rw [hwk] at *
    simp only [lom, him] at *
    omega
   refine dz 6 ?_
   refine wz 0 ?_
   refine iz (fun c_122 c_122' => ?_) (fun c_122 c_122' => ?_)
   ·refine wz 0 ?_
    refine aw_draw 31 mo (by kernel_rfl) ?_
    refine dz 2 ?_
    refine dr_ev rfl (ev_index_map (k := k) (xs := warpOf r h x) sl36.h jz jz rfl hkw) ?_
    refine dz 4 ?_
    refine dsz 129 (fun g12_6 g12_6' => ?_) (fun g12_6 g12_6' => ?_)
    ·refine dz 2 ?_
     refine dr_yes rfl rfl (less_b g12_6) rfl (ev_index_map (k := k) (xs := warpOf r h x) sl36.h jz jz rfl hkw) ?_
     refine dz 5 ?_
     refine dsz 137 (fun g12_14 g12_14' => ?_) (fun g12_14 g12_14' => ?_)
     ·refine dz 2 ?_
      refine dr_yes rfl rfl (less_b g12_14) rfl (ev_index_map (k := k) (xs := warpOf r h x) sl36.h jz jz rfl hkw) ?_
      refine dz 4 ?_
      refine dr_yes rfl rfl (less_b g12_14) rfl (ev_index_map (k := k) (xs := warpOf r h x) sl36.h jz jz rfl hkw) ?_
      refine dz 5 ?_
      refine dsz 150 (fun g12_27 g12_27' => ?_) (fun g12_27 g12_27' => ?_)
      ·refine dky az (known_pure) ?_
       refine dz 2 ?_
       refine wz 0 ?_
       exact rz rfl jz
      exfalso
      rw [hwk] at *
      simp only [lom, him] at *
      omega
     exfalso
     rw [hwk] at *
     simp only [lom, him] at *
     omega
    exfalso
    rw [hwk] at *
    simp only [lom, him] at *
    omega
   refine wz 6 ?_
   refine iz (fun c_157 c_157' => ?_) (fun c_157 c_157' => ?_)
   ·refine aw_draw 17 mo (by kernel_rfl) ?_
    refine dz 2 ?_
    refine dr_ev rfl (ev_index_map (k := k) (xs := warpOf r h x) sl36.h jz jz rfl hkw) ?_
    refine dz 9 ?_
    refine dr_ev rfl (ev_index_map (k := k) (xs := warpOf r h x) sl36.h jz jz rfl hkw) ?_
    refine dz 4 ?_
    refine wz 6 ?_
    refine sz 179 (fun g16_5 g16_5' => ?_) (fun g16_5 g16_5' => ?_)
    ·refine wz 5 ?_
     refine iz (fun c_184 c_184' => ?_) (fun c_184 c_184' => ?_)
     ·have hS := lent_t (r := r) (h := h) (x := x) (o := o) hf1 (by omega)
      refine wz 10 ?_
      refine sq_ev rfl (ev_buildSlice (es := [[_]]) sf28.h rfl rfl rfl rfl) ?_
      first | refine sq_append rfl sf28.h Tryz.underlying28 rfl rfl jz (Nat.succ_pos _) (by simp; omega) (by simp; omega) ?_ | refine sq_append rfl sf28.h Tryz.underlying28 rfl rfl (less_slx _ _) (Nat.succ_pos _) (by simp; omega) (by simp; omega) ?_
      refine wz 4 ?_
      exact ⟨⟨k + 1, by omega, fun i hi => by rcases Nat.lt_or_ge i k with q | q; exact hob i q; (obtain rfl : i = k := by omega); rw [ho1]; omega⟩, by simp only; omega, sb 3 ⟨jz, Less.eq (by rw [hS, List.map_append] <;> rfl), Less.eq (by rw [hS] <;> rfl), jz, jz, jz, jz, jz, trivial⟩ (hH := (congrArg (fun n => [_, _, AObj.tok n]) (by rw [hS]; simp)))⟩
     first | have hS := lent_p (r := r) (h := h) (x := x) hwk ho1 hf1 (by omega) (by omega) | have hS := lent_n (r := r) (h := h) (x := x) ho1 hf1 (by omega) (by omega)
     refine wz 2 ?_
     refine sq_ev rfl (ev_buildSlice (es := [[_]]) sf28.h rfl rfl rfl rfl) ?_
     first | refine sq_append rfl sf28.h Tryz.underlying28 rfl rfl jz (Nat.succ_pos _) (by simp; omega) (by simp; omega) ?_ | refine sq_append rfl sf28.h Tryz.underlying28 rfl rfl (less_slx _ _) (Nat.succ_pos _) (by simp; omega) (by simp; omega) ?_
     refine wz 4 ?_
     exact ⟨⟨k + 1, by omega, fun i hi => by rcases Nat.lt_or_ge i k with q | q; exact hob i q; (obtain rfl : i = k := by omega); rw [ho1]; omega⟩, by simp only; omega, sb 3 ⟨jz, Less.eq (by rw [hS, List.map_append] <;> rfl), Less.eq (by rw [hS] <;> rfl), jz, jz, jz, jz, jz, trivial⟩ (hH := (congrArg (fun n => [_, _, AObj.tok n]) (by rw [hS]; simp)))⟩
    first | have hS := lent_p (r := r) (h := h) (x := x) hwk ho1 hf1 (by omega) (by omega) | have hS := lent_n (r := r) (h := h) (x := x) ho1 hf1 (by omega) (by omega)
    refine wz 8 ?_
    refine sq_ev rfl (ev_buildSlice (es := [[_]]) sf28.h rfl rfl rfl rfl) ?_
    first | refine sq_append rfl sf28.h Tryz.underlying28 rfl rfl jz (Nat.succ_pos _) (by simp; omega) (by simp; omega) ?_ | refine sq_append rfl sf28.h Tryz.underlying28 rfl rfl (less_slx _ _) (Nat.succ_pos _) (by simp; omega) (by simp; omega) ?_
    refine wz 4 ?_
    exact ⟨⟨k + 1, by omega, fun i hi => by rcases Nat.lt_or_ge i k with q | q; exact hob i q; (obtain rfl : i = k := by omega); rw [ho1]; omega⟩, by simp only; omega, sb 3 ⟨jz, Less.eq (by rw [hS, List.map_append] <;> rfl), Less.eq (by rw [hS] <;> rfl), jz, jz, jz, jz, jz, trivial⟩ (hH := (congrArg (fun n => [_, _, AObj.tok n]) (by rw [hS]; simp)))⟩
   refine wz 6 ?_
   refine sz 179 (fun g16_5 g16_5' => ?_) (fun g16_5 g16_5' => ?_)
   ·refine wz 5 ?_
    refine iz (fun c_184 c_184' => ?_) (fun c_184 c_184' => ?_)
    ·have hS := lent_t (r := r) (h := h) (x := x) (o := o) hf1 (by omega)
     refine wz 10 ?_
     refine sq_ev rfl (ev_buildSlice (es := [[_]]) sf28.h rfl rfl rfl rfl) ?_
     first | refine sq_append rfl sf28.h Tryz.underlying28 rfl rfl jz (Nat.succ_pos _) (by simp; omega) (by simp; omega) ?_ | refine sq_append rfl sf28.h Tryz.underlying28 rfl rfl (less_slx _ _) (Nat.succ_pos _) (by simp; omega) (by simp; omega) ?_
     refine wz 4 ?_
     exact ⟨⟨k + 1, by omega, fun i hi => by rcases Nat.lt_or_ge i k with q | q; exact hob i q; (obtain rfl : i = k := by omega); rw [ho1]; omega⟩, by simp only; omega, sb 3 ⟨jz, Less.eq (by rw [hS, List.map_append] <;> rfl), Less.eq (by rw [hS] <;> rfl), jz, jz, jz, jz, jz, trivial⟩ (hH := (congrArg (fun n => [_, _, AObj.tok n]) (by rw [hS]; simp)))⟩
    first | have hS := lent_p (r := r) (h := h) (x := x) hwk ho1 hf1 (by omega) (by omega) | have hS := lent_n (r := r) (h := h) (x := x) ho1 hf1 (by omega) (by omega)
    refine wz 2 ?_
    refine sq_ev rfl (ev_buildSlice (es := [[_]]) sf28.h rfl rfl rfl rfl) ?_
    first | refine sq_append rfl sf28.h Tryz.underlying28 rfl rfl jz (Nat.succ_pos _) (by simp; omega) (by simp; omega) ?_ | refine sq_append rfl sf28.h Tryz.underlying28 rfl rfl (less_slx _ _) (Nat.succ_pos _) (by simp; omega) (by simp; omega) ?_
    refine wz 4 ?_
    exact ⟨⟨k + 1, by omega, fun i hi => by rcases Nat.lt_or_ge i k with q | q; exact hob i q; (obtain rfl : i = k := by omega); rw [ho1]; omega⟩, by simp only; omega, sb 3 ⟨jz, Less.eq (by rw [hS, List.map_append] <;> rfl), Less.eq (by rw [hS] <;> rfl), jz, jz, jz, jz, jz, trivial⟩ (hH := (congrArg (fun n => [_, _, AObj.tok n]) (by rw [hS]; simp)))⟩
   first | have hS := lent_p (r := r) (h := h) (x := x) hwk ho1 hf1 (by omega) (by omega) | have hS := lent_n (r := r) (h := h) (x := x) ho1 hf1 (by omega) (by omega)
   refine wz 8 ?_
   refine sq_ev rfl (ev_buildSlice (es := [[_]]) sf28.h rfl rfl rfl rfl) ?_
   first | refine sq_append rfl sf28.h Tryz.underlying28 rfl rfl jz (Nat.succ_pos _) (by simp; omega) (by simp; omega) ?_ | refine sq_append rfl sf28.h Tryz.underlying28 rfl rfl (less_slx _ _) (Nat.succ_pos _) (by simp; omega) (by simp; omega) ?_
   refine wz 4 ?_
   exact ⟨⟨k + 1, by omega, fun i hi => by rcases Nat.lt_or_ge i k with q | q; exact hob i q; (obtain rfl : i = k := by omega); rw [ho1]; omega⟩, by simp only; omega, sb 3 ⟨jz, Less.eq (by rw [hS, List.map_append] <;> rfl), Less.eq (by rw [hS] <;> rfl), jz, jz, jz, jz, jz, trivial⟩ (hH := (congrArg (fun n => [_, _, AObj.tok n]) (by rw [hS]; simp)))⟩
  obtain rfl : k = r.kinds.length := by omega
  refine aw_exit ?_
  refine aw_seq ?_
  have hfb := lent_bd gB hx hhl (off := o) (free := f) (fun i hi => by have := hob i hi; omega) (fun i hi => by rw [getD_at (by omega)]; exact fd_bd hd (by omega)) r.kinds.length (Nat.le_refl _)
  have hll := lent_len r h x o f r.kinds.length
  have hfd : fdOK r (lentF r h x o f) = true := fdOK_iff.2 ⟨hll, hfb⟩
  have hsl : slimB (lentF r h x o f) = true := decide_eq_true (by unfold lentF; omega)
  have hmy := lent_may gB hx hhl o f
  have hmp := mays_pos hhl hmy
  have hwn := whoOf_len r (lentF r h x o f)
  refine wz 2 ?_
  refine sq_ev rfl (ev_call en39.h jz (whob_t hs hsl (okWho_of hr hfd) hmp) ⟨jz, Less.trans (less_own _ _ _) (Less.eq rfl), trivial⟩) ?_
  refine wz 16 ?_
  refine sz 211 (fun g21_10 g21_10' => ?_) (fun g21_10 g21_10' => ?_)
  ·exfalso
   omega
  refine wz 6 ?_
  refine iz (fun c_217 c_217' => ?_) (fun c_217 c_217' => ?_)
  ·exfalso
   have hwb := word_bd r (lentF r h x o f) h
   rw [who_at (by omega)] at c_217'
   have := of_decide_eq_true hmy
   omega
  refine wz 3 ?_
  refine aw_loopk (ι := { k : Nat // k ≤ r.hides.length }) [1, 5, 13, 17] (fun q => [(19, I (wcnt r (lentF r h x o f) 2 q.1 : Nat)), (20, I (wcnt r (lentF r h x o f) 3 q.1 : Nat)), (21, I q.1)]) (fun H q => H) (fun q => r.hides.length - q.1) (⟨0, Nat.zero_le _⟩) ⟨jz, jz, jz, jz, jz, jz, jz, trivial⟩ rfl ?_
  rintro ⟨k, hk⟩
  refine nz ?_
  have hc2 := wcnt_le r (lentF r h x o f) 2 k
  have hc3 := wcnt_le r (lentF r h x o f) 3 k
  refine wz 4 ?_
  refine iz (fun c_221 c_221' => ?_) (fun c_221 c_221' => ?_)
  ·have hkw : k < (whoOf r (lentF r h x o f)).length := by omega
   have hwk := who_at hkw
   have hwb := word_bd r (lentF r h x o f) k
   have hok : okF r k (lentF r h x o f) = true := by unfold okF; rw [hr, hfd, hdIn_iff.2 (by omega)]; rfl
   have e2 := wcnt_succ (v := 2) hkw
   have e3 := wcnt_succ (v := 3) hkw
   refine wz 3 ?_
   refine sq_ev rfl (ev_call en31.h jz (fewest_ok (shB_len hs).1 (shB_len hs).2.1 (shB_len hs).2.2 (slim_len hsl) hok) ⟨jz, jz, Less.trans (less_own _ _ _) (Less.eq rfl), trivial⟩) ?_
   refine wz 5 ?_
   refine aw_draw 28 mo (by kernel_rfl) ?_
   refine dz 10 ?_
   refine dsz 240 (fun g28_9 g28_9' => ?_) (fun g28_9 g28_9' => ?_)
   ·exfalso
    omega
   refine dz 7 ?_
   refine dsz 247 (fun g28_16 g28_16' => ?_) (fun g28_16 g28_16' => ?_)
   ·exfalso
    omega
   refine dz 11 ?_
   refine wz 0 ?_
   refine iz (fun c_258 c_258' => ?_) (fun c_258 c_258' => ?_)
   ·exfalso
    simp at c_258'
    omega
   refine wz 5 ?_
   refine iz (fun c_263 c_263' => ?_) (fun c_263 c_263' => ?_)
   ·rw [if_pos (by omega)] at e2
    refine wz 8 ?_
    refine iz (fun c_270 c_270' => ?_) (fun c_270 c_270' => ?_)
    ·rw [if_pos (by omega)] at e3
     refine wz 6 ?_
     exact ⟨⟨k + 1, by omega⟩, by simp only; omega, Sub.slots ⟨Less.eq (by rw [e2] <;> rfl), Less.eq (by rw [e3] <;> rfl), jz, jz, jz, jz, jz, trivial⟩⟩
    rw [if_neg (by omega)] at e3
    refine wz 3 ?_
    exact ⟨⟨k + 1, by omega⟩, by simp only; omega, Sub.slots ⟨Less.eq (by rw [e2] <;> rfl), Less.eq (by rw [e3] <;> rfl), jz, jz, jz, jz, jz, trivial⟩⟩
   rw [if_neg (by omega)] at e2
   refine wz 5 ?_
   refine iz (fun c_270 c_270' => ?_) (fun c_270 c_270' => ?_)
   ·rw [if_pos (by omega)] at e3
    refine wz 6 ?_
    exact ⟨⟨k + 1, by omega⟩, by simp only; omega, Sub.slots ⟨Less.eq (by rw [e2] <;> rfl), Less.eq (by rw [e3] <;> rfl), jz, jz, jz, jz, jz, trivial⟩⟩
   rw [if_neg (by omega)] at e3
   refine wz 3 ?_
   exact ⟨⟨k + 1, by omega⟩, by simp only; omega, Sub.slots ⟨Less.eq (by rw [e2] <;> rfl), Less.eq (by rw [e3] <;> rfl), jz, jz, jz, jz, jz, trivial⟩⟩
  obtain rfl : k = r.hides.length := by omega
  have hme := who_end (r := r) hmy (by omega)
  refine wz 3 ?_
  refine sz 275 (fun g34_2 g34_2' => ?_) (fun g34_2 g34_2' => ?_)
  ·refine wz 4 ?_
   refine sz 279 (fun g34_6 g34_6' => ?_) (fun g34_6 g34_6' => ?_)
   ·refine wz 7 ?_
    refine sz 286 (fun g34_13 g34_13' => ?_) (fun g34_13 g34_13' => ?_)
    ·refine wz 8 ?_
     refine ky az (known_pure) ?_
     refine wz 2 ?_
     exact rz rfl jz
    exfalso
    omega
   exfalso
   omega
  refine wz 14 ?_
  refine sz 289 (fun g34_16 g34_16' => ?_) (fun g34_16 g34_16' => ?_)
  ·refine wz 5 ?_
   refine sz 294 (fun g34_21 g34_21' => ?_) (fun g34_21 g34_21' => ?_)
   ·refine ky az (known_pure) ?_
    refine wz 2 ?_
    exact rz rfl jz
   exfalso
   omega
  exfalso
  omega
/-- **HideLent.** -/
theorem law7 (r : Rg) (n : Int) (_ : -9223372036854775808 ≤ n) (_ : n ≤ 9223372036854775807) (x : Rt) (o f : List Int) (hl : (f.length : Int) ≤ 9223372036854775807) : APure Tryz.prog 7 [rgA r, I n, rtA x, ints o, ints f] (B true) := by
  cases hs : shB r with
  | false => exact law7_0 hs hl
  | true =>
    cases hr : rgOK r with
    | false => exact law7_1 hs hr hl
    | true =>
      cases hh : hdIn r n with
      | false => exact law7_2 hs hr hh hl
      | true =>
        cases hx : rtOK r x with
        | false => exact law7_3 hs hr hh hx hl
        | true =>
          by_cases hlo : o.length = r.kinds.length
          · cases hd : fdOK r f with
            | false => exact law7_5 hs hr hh hx hlo hd hl
            | true =>
              have hi := hdIn_iff.1 hh
              obtain ⟨h, rfl⟩ : ∃ h : Nat, n = (h : Int) := ⟨n.toNat, by omega⟩
              exact law7_m hs hr hh (by omega) hx hlo hd hl
          · exact law7_4 hs hr hh hx hlo hl
end Go.Proofs.YtjpokekbjmdgmaaGreatDoor
