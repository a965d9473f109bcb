/-
  A part of the proof: conditions: none beyond each theorem's own.
-/
import Derived.Test.YtjpokekbjmdgmaaGreatDoorLogicA
import Derived.Test.YtjpokekbjmdgmaaGreatDoorLogicD
import Derived.Laws.Small
import Derived.Deep.Slices
import Derived.OpenShut
import Derived.Carry
import Derived.Test.YtjpokekbjmdgmaaGreatDoorLogicC
import Derived.IntWalk
import Derived.Test.YtjpokekbjmdgmaaGreatDoorSpecA
import Derived.Test.YtjpokekbjmdgmaaGreatDoorProg
import Derived.KernelRfl
import Derived.Lib.LaidTab
import Derived.Lib.ItoaNum
import Derived.Test.YtjpokekbjmdgmaaGreatDoorWalkC
import Derived.Test.YtjpokekbjmdgmaaGreatDoorWalkE
import Derived.Test.YtjpokekbjmdgmaaGreatDoorLogicB
import Derived.Test.YtjpokekbjmdgmaaGreatDoorShelf
import Derived.Test.YtjpokekbjmdgmaaGreatDoorWalkA
import Derived.Test.YtjpokekbjmdgmaaGreatDoorWalkB
import Derived.Test.YtjpokekbjmdgmaaGreatDoorWalkD
import Derived.Test.YtjpokekbjmdgmaaGreatDoorRow
set_option linter.all false
set_option maxRecDepth 100000
set_option maxHeartbeats 8000000
namespace Go.Ab
variable [Tabs]
theorem FW_room (r : Option Nat) (n : Nat) : (FW r).room n := fun _ h => by simp [FW] at h
variable {c : Ctx} {Q : AExit → St → Prop} {s : St}
end Go.Ab
namespace Go.Ab
variable [Tabs]
section
variable {P : Program} {r : Option Nat} {H : List AObj} {ρ : Operand → AV}
variable {d : Option Tmp} {t : TypeId} {p : String} {af : Array Edge} {g : Option (Nat × Bool)} {x y : Operand}
theorem ev_bool2 {op : BinOp} {a b : Bool} {xt yt : TypeId} {v : AV} (hx : Less (ρ x) (.raw (.bool a))) (hy : Less (ρ y) (.raw (.bool b)))
    (hr : ∀ w e, ∃ u, (binOp op xt (.bool a) (.bool b)).run P w = .ok u w ∧ Rep e v u) : Ev P r ⟨d, .binOp op xt x y yt, t, p, af, g⟩ H ρ v :=
  Ev.pure (by intro c h; cases h) fun e ρc _ _ hs => by
    have e1 := rep_raw hx (hs x (by simp [Op.operands]))
    have e2 := rep_raw hy (hs y (by simp [Op.operands]))
    obtain ⟨u, h1, h2⟩ := hr e.w e
    refine ⟨u, ?_, h2⟩
    have hg : (eqGuard op xt x y (.bool a) (.bool b)).run P e.w = .ok () e.w := by
      unfold eqGuard; split <;> simp
    simp [execOp, e1, e2, hg, h1]
theorem ev_neqB {a b : Bool} {xt yt : TypeId} (ht : P.underlying xt = some .bool) (hx : Less (ρ x) (.raw (.bool a))) (hy : Less (ρ y) (.raw (.bool b))) :
    Ev P r ⟨d, .binOp .neq xt x y yt, t, p, af, g⟩ H ρ (.raw (.bool (!(a == b)))) :=
  ev_bool2 hx hy fun w e => ⟨_, run_neq_bool w xt a b ht, by rw [Rep]⟩
end
end Go.Ab
namespace Go.Ab
open Go.ChangeShapes Go.WideShapes
variable [Tabs]
theorem env0_ok {w : World} (h : Tabs.is w) (hb : ∀ b, Tabs.blk b → b < w.heap.size) : EnvOK (env0 w) :=
  ⟨fun b hb => by have hb' : w.heap.size ≤ b := hb
                  have : w.heap[b]? = none := by simpa using hb'
                  simp [env0, this], fun i o h => by simp [env0] at h, fun i j b hi => by simp [env0] at hi, fun i b hi => by simp [env0] at hi, h, fun b hk => ⟨hb b hk, fun i hi => by simp [env0] at hi⟩⟩
section
variable {H : Type} {enc : TypeId × Value → H} {P : Program} {w : World} {base : Nat} {spare : Nat → Bool} {held : Bool}
theorem trodAll_stays (hl : laidOutB P = true) {W W' : World} (hheap : ∀ b, b < W.heap.size → W'.heap[b]? = W.heap[b]?) {sp' : Nat → Bool} :
    ∀ {ts : List TypeId} {vs : List Value} {ds : List (DataW H)} {ps : List MemPlace}, (∀ t ∈ ts, P.readableRec t = true ∧ t < P.types.size) → DataW.TrodAll enc P W base (fun _ => true) true ts vs ds ps → (∀ p ∈ ps, p.block < W.heap.size) → (∀ p ∈ ps, sp' p.block = true) →
      DataW.TrodAll enc P W' base sp' true ts vs ds ps
  | [], _, _, _, _, h, _, _ => by
    obtain ⟨rfl, rfl, rfl⟩ := trodAll_nil h
    exact trodAll_mk0
  | t :: ts, _, _, _, ht, h, hlt, hs => by
    obtain ⟨v, vs1, d, ds1, a, b, rfl, rfl, rfl, h1, h2⟩ := trodAll_cons h
    refine trodAll_cons_mk (WideElems.Trod_stays hl (ht t (by simp)).1 (ht t (by simp)).2 h1 (fun p hp => ?_) (fun p hp => hs p (by simp [hp]))) (trodAll_stays hl hheap (fun u hu => ht u (List.mem_cons_of_mem _ hu)) h2 (fun p hp => hlt p (by simp [hp])) (fun p hp => hs p (by simp [hp])))
    have hb := hheap p.block (hlt p (by simp [hp]))
    cases p with
    | cell b o => exact cell?_of_heap hb
    | map b => exact hb
/-- **What a law's row asks of a call that returns true and leaves what it met.** -/
theorem post_true {f : Func} {s : ChangeSpec} {W W' : World} {args : Array Value} {ds gs : List (DataW H)} {before : List MemPlace} {tb : TypeId} (hl : laidOutB P = true) (hread : ∀ t ∈ f.params.toList, P.readableRec t = true ∧ t < P.types.size)
    (hres : f.resultTypes = #[tb]) (htb : P.underlying tb = some .bool) (hvars : s.vars = []) (hspec : (s.fn H ds).results = [.lit (.bool true)] ∧ (s.fn H ds).args = ds ∧ (s.fn H ds).vars = [])
    (hW : DataW.Whole enc P f.params.toList s.vars false W args.toList ds gs before) (hheap : ∀ b, b < W.heap.size → W'.heap[b]? = W.heap[b]?) (hst : Still W W') :
    s.post enc P f false true false false W args (.bool true) W' := by
  have hlt := hW.lt
  have hW0 := hW
  obtain ⟨p, q, h1, h2, rfl, _, _⟩ := hW
  rw [hvars] at h2
  obtain ⟨rfl, rfl⟩ := trodVars_none h2
  simp only [List.append_nil] at hlt
  obtain ⟨e1, e2, e3⟩ := hspec
  refine ⟨ds, [], p ++ [], [], p, [], hW0, ?_, ?_, ?_, ?_, fun h => by cases h⟩
  · rw [List.append_nil, e1, hres]
    exact trodAll_cons_mk (RowKit.shut_bool htb _) trodAll_mk0
  · rw [List.append_nil, e2]
    exact trodAll_stays hl hheap hread h1 hlt (fun p hp => by simpa using hlt p hp)
  · rw [List.append_nil, e3, hvars]; rfl
  · refine ⟨hst.1, hst.2, fun i hi => ?_⟩
    rw [hheap i hi]
    split <;> simp_all
theorem APure.law {f : FuncId} {args : List AV} {W : World} {vs : Array Value} (hc : APure P f args (.raw (.bool true))) (ht : Tabs.is W) (hb : ∀ b, Tabs.blk b → b < W.heap.size) (hr : RepL (env0 W) args vs.toList) :
    Calls P f vs W fun x W' => x = .returned (.bool true) ∧ (∀ b, b < W.heap.size → W'.heap[b]? = W.heap[b]?) ∧ Still W W' := by
  refine ((hc (env0 W) vs (env0_ok ht hb) hr).calls (fun k => FW_room none k)).mono ?_
  rintro x w' ⟨u, e', rfl, rfl, hx, hu⟩
  rw [Rep] at hu; subst hu
  exact ⟨rfl, hx.heap, hx.still⟩
end
end Go.Ab
namespace Go.Ab
variable [Tabs]
section seq
variable {c : Ctx} {ops : Array Oper} {Q : AExit → St → Prop} {rest : List Oper} {s : St} {i : Nat}
variable {d : Option Tmp} {op : Op} {t : TypeId} {p : String} {af : Array Edge}
end seq
section cond
variable {c : Ctx} {Q : AExit → St → Prop} {s : St} {x : Operand} {y z : Code}
end cond
section split
variable {c : Ctx} {ops : Array Oper} {Q : AExit → St → Prop} {s : St} {i : Nat} {l : List Oper}
end split
section draw
variable {c : Ctx} {H0 : List AObj} {ops : Array Oper} {Q : AExit → St → Prop} {m i : Nat} {s : St} {rest : List Oper}
variable {d : Option Tmp} {op : Op} {t : TypeId} {p : String} {af : Array Edge}
theorem dn0 {j u : Nat} (hj : gslot ops j = some u) (ht : Nat.blt u c.nt = true) (hb : Less (sget s.sl u) (.raw (.bool true))) (hd : dOK c.nt d = true) (k : DR c H0 ops Q m (i + 1) rest (s.put d (.raw (.tuple #[])))) :
    DR c H0 ops Q m i (⟨d, op, t, p, af, some (j, false)⟩ :: rest) s := dr_no hj ht hb rfl hd k
theorem du {j u : Nat} {want : Bool} (hj : gslot ops j = some u) (ht : Nat.blt u c.nt = true) (hb : Less (sget s.sl u) (.raw (.tuple #[]))) (hd : dOK c.nt d = true) (k : DR c H0 ops Q m (i + 1) rest (s.put d (.raw (.tuple #[])))) :
    DR c H0 ops Q m i (⟨d, op, t, p, af, some (j, want)⟩ :: rest) s := dr_no hj ht hb rfl hd k
end draw
section ex
variable {c : Ctx} {Q : AExit → St → Prop} {K : St → Prop} {s : St} {id j : Nat}
end ex
section app
variable {c : Ctx} {ops : Array Oper} {Q : AExit → St → Prop} {s : St} {i : Nat} {o : Oper} {l m : List Oper} {H0 : List AObj} {k : Nat}
end app
theorem W (n : Nat) {p q : Prop} (k : q) (h : Cnt n → (Unit → q) → p := by
  intro hc hk
  repeat (
    replace hc := Cnt.pred hc
    repeat (with_reducible (first | refine xn ?_ | refine sa ?_ | refine sa0 ?_ | refine aw_seq ?_ | refine aw_region ?_ | refine sq_nil ?_ | refine aw_skip ?_ | refine aw_block ?_ | refine bn ?_ | refine aw_exit ?_ | refine xe ?_ | refine be ?_ | refine bo ?_ | refine gn ?_ | refine ge ?_ | refine xr ?_ | refine br ?_ | refine gr ?_ | refine aw_label ?_ | refine aw_scope ?_))
    first
    | ((with_reducible apply sq_ev); exact rfl; exact EV)
    | ((with_reducible apply sn1); exact rfl; exact rfl; exact GD J; exact rfl)
    | ((with_reducible apply sn0); exact rfl; exact rfl; exact GD J; exact rfl)
    | ((with_reducible apply sq_yes); exact rfl; exact rfl; exact GD J; exact rfl; exact EV)
    | ((with_reducible apply su); exact rfl; exact rfl; exact J; exact rfl)
    | ((with_reducible apply sq_box); exact rfl; exact J; exact rfl)
    | ((with_reducible apply sq_alloc); exact rfl; exact ZeO.h)
    | ((with_reducible apply sq_store); exact rfl; exact J; exact J; exact rfl; exact rfl; exact TyF.h; exact rfl; exact rfl)
    | ((with_reducible refine aw_true ?_ ?_); exact GD J)
    | ((with_reducible refine aw_false ?_ ?_); exact GD J))
  repeat (with_reducible (first | refine xn ?_ | refine sa ?_ | refine sa0 ?_ | refine aw_seq ?_ | refine aw_region ?_ | refine sq_nil ?_ | refine aw_skip ?_ | refine aw_block ?_ | refine bn ?_ | refine aw_exit ?_ | refine xe ?_ | refine be ?_ | refine bo ?_ | refine gn ?_ | refine ge ?_ | refine xr ?_ | refine br ?_ | refine gr ?_ | refine aw_label ?_ | refine aw_scope ?_ | refine aw_ret ?_))
  exact hk ()) : p := h ⟨⟩ fun _ => k
end Go.Ab
namespace Hd
open Ni (inn)
theorem findSome_inv {α : Type} {f : Nat → Option α} : ∀ {n : Nat} {a : α}, (List.range n).findSome? f = some a → ∃ i, i < n ∧ f i = some a ∧ ∀ j, j < i → f j = none
  | 0, a, h => by simp at h
  | n + 1, a, h => by
    rw [List.range_succ, List.findSome?_append] at h
    cases hp : (List.range n).findSome? f with
    | some b =>
      rw [hp] at h; simp only [Option.some_or, Option.some.injEq] at h; subst h
      obtain ⟨i, h1, h2, h3⟩ := findSome_inv hp
      exact ⟨i, by omega, h2, h3⟩
    | none =>
      rw [hp] at h
      rw [List.findSome?_eq_none_iff] at hp
      refine ⟨n, by omega, by simpa using h, fun j hj => hp j (List.mem_range.2 hj)⟩
theorem pairI_inv {r : Rg} {ms : List Int} {i : Nat} (h : pairI r ms i = none) : ∀ k, i < k → k < r.hides.length → mist r ms i k = false := by
  intro k hik hk
  unfold pairI at h
  rw [Option.map_eq_none_iff, List.find?_eq_none] at h
  have := h k (List.mem_range.2 hk)
  simpa [hik] using this
theorem pairI_inv2 {r : Rg} {ms : List Int} {i : Nat} {p : Nat × Nat} (h : pairI r ms i = some p) : p.1 = i ∧ i < p.2 ∧ p.2 < r.hides.length ∧ mist r ms i p.2 = true ∧ ∀ k, i < k → k < p.2 → mist r ms i k = false := by
  unfold pairI at h
  rw [Option.map_eq_some_iff] at h
  obtain ⟨k, hk, rfl⟩ := h
  rw [List.find?_range_eq_some] at hk
  obtain ⟨h1, h2, h3⟩ := hk
  simp only [Bool.and_eq_true, decide_eq_true_eq] at h1
  refine ⟨rfl, h1.1, List.mem_range.1 h2, h1.2, fun j hij hjk => ?_⟩
  have := h3 j hjk
  simpa [hij] using this
theorem twins_none {r : Rg} {ms : List Int} (h : twinsOf r ms = none) : ∀ i k, i < k → k < r.hides.length → mist r ms i k = false := by
  intro i k hik hk
  unfold twinsOf at h
  rw [List.findSome?_eq_none_iff] at h
  exact pairI_inv (h i (List.mem_range.2 (by omega))) k hik hk
theorem twins_some {r : Rg} {ms : List Int} {p : Nat × Nat} (h : twinsOf r ms = some p) : (p.1 < p.2 ∧ p.2 < r.hides.length) ∧ mist r ms p.1 p.2 = true ∧ ∀ i k, i < k → k < r.hides.length → mist r ms i k = true → p.1 < i ∨ (p.1 = i ∧ p.2 ≤ k) := by
  obtain ⟨i0, hi0, hp, hno⟩ := findSome_inv h
  obtain ⟨e, h1, h2, h3, h4⟩ := pairI_inv2 hp
  subst e
  refine ⟨⟨h1, h2⟩, h3, fun i k hik hk hm => ?_⟩
  rcases Nat.lt_trichotomy p.1 i with q | q | q
  · exact .inl q
  · subst q
    refine .inr ⟨rfl, ?_⟩
    rcases Nat.lt_or_ge k p.2 with q | q
    · rw [h4 k hik q] at hm; cases hm
    · exact q
  · rw [pairI_inv (hno i q) k hik hk] at hm; cases hm
theorem twins_all {r : Rg} {ms : List Int} (h : ∀ i k, i < k → k < r.hides.length → mist r ms i k = false) : twinsOf r ms = none := by
  unfold twinsOf
  exact List.findSome?_eq_none_iff.2 fun i _ => pairI_none fun k hik hk => h i k hik hk
theorem least_mono {a b : List Int} (top : Int) (h : ∀ y ∈ b, ∃ x ∈ a, x ≤ y) : least top a ≤ least top b := by
  rcases least_is top b with e | e
  · rw [e]; exact least_le _ _
  · obtain ⟨x, hx, hle⟩ := h _ e
    have := least_mem top a x hx
    omega
theorem apN_mono {r : Rg} {h g k : Nat} {l m : List Int} {x y : Int} (hs : List.Sublist l m) : apN r h g k l x y ≤ apN r h g k m x y := by
  unfold apN
  have := (hs.filter (apK r h g k x y)).length_le
  omega
theorem apart_mono {r : Rg} {h g k : Nat} {l m : List Int} (hs : List.Sublist l m) : apart r h g k l ≤ apart r h g k m := by
  unfold apart
  refine least_mono 6 fun z hz => ?_
  obtain ⟨x, hx, hz⟩ := List.mem_flatMap.1 hz
  obtain ⟨y, hy, rfl⟩ := List.mem_map.1 hz
  exact ⟨_, List.mem_flatMap.2 ⟨x, hx, List.mem_map.2 ⟨y, hy, rfl⟩⟩, apN_mono hs⟩
theorem mist_mono {r : Rg} {h g : Nat} {l m : List Int} (hs : List.Sublist l m) (hm : mist r m h g = true) : mist r l h g = true := by
  unfold mist at *
  rw [decide_eq_true_eq] at *
  have h1 := apart_mono (r := r) (h := h) (g := g) (k := 0) hs
  have h2 := apart_mono (r := r) (h := h) (g := g) (k := 1) hs
  omega
theorem enough_iff {r : Rg} {ms : List Int} : enough r ms = true ↔ ∀ i k, i < k → k < r.hides.length → mist r ms i k = false := by
  unfold enough
  constructor
  · intro h i k hik hk
    cases ht : twinsOf r ms with
    | none => exact twins_none ht i k hik hk
    | some p => rw [ht] at h; cases h
  · intro h; rw [twins_all h]; rfl
theorem enough_mono {r : Rg} {l m : List Int} (hs : List.Sublist l m) (h : enough r l = true) : enough r m = true := by
  rw [enough_iff] at *
  intro i k hik hk
  cases hm : mist r m i k with
  | false => rfl
  | true => have := h i k hik hk; rw [mist_mono hs hm] at this; cases this
end Hd
namespace Hd
open Ni (inn)
def tk (f : List Int) (n : Nat) : List Int := nums (fun m => decide (0 ≤ f.getD m 0)) n
theorem filter_nums (q : Nat → Bool) (p : Int → Bool) (n : Nat) : ((nums q n).filter p).length = (List.range n).countP fun m => q m && p (m : Int) := by
  unfold nums
  rw [List.filter_map, List.length_map, List.filter_filter, List.countP_eq_length_filter]
  congr 2
  funext m
  simp [Bool.and_comm]
theorem countP_or {α : Type} (q p : α → Bool) (l : List α) : (l.countP fun x => q x || p x) ≤ l.countP q + l.countP p := by
  induction l with
  | nil => simp
  | cons x l ih =>
    simp only [List.countP_cons]
    cases hq : q x <;> cases hp : p x <;> simp <;> omega
theorem apart_le {r : Rg} {h g : Nat} {ms : List Int} {x y : Rt} (hx : rtOK r x = true) (hy : rtOK r y = true) : apart r h g 0 ms + apart r h g 1 ms ≤ apN r h g 0 ms x.a y.a + apN r h g 1 ms x.b y.b := by
  obtain ⟨h1, h2⟩ := rtOK_iff.1 hx
  obtain ⟨h3, h4⟩ := rtOK_iff.1 hy
  have e1 : apart r h g 0 ms ≤ _ := least_mem 6 _ (apN r h g 0 ms x.a y.a) (List.mem_flatMap.2 ⟨x.a, mem_rng.2 h1, List.mem_map.2 ⟨y.a, mem_rng.2 h3, rfl⟩⟩)
  have e2 : apart r h g 1 ms ≤ _ := least_mem 6 _ (apN r h g 1 ms x.b y.b) (List.mem_flatMap.2 ⟨x.b, mem_rng.2 h2, List.mem_map.2 ⟨y.b, mem_rng.2 h4, rfl⟩⟩)
  omega
theorem ap_chg {r : Rg} {h g : Nat} {f : List Int} {x y : Int} {m : Nat} (hv : 0 ≤ f.getD m 0) (ha : apB r h g x y m = true) : chB r h f x m = true ∨ chB r g f y m = true := by
  unfold apB at ha
  rw [decide_eq_true_eq] at ha
  unfold chB chg inn
  by_cases k1 : lo r.off (sz r h m * x) ≤ f.getD m 0 ∧ f.getD m 0 ≤ hi r.off (sz r h m * x)
  · right
    simp only [hv, decide_true, Bool.true_and, Bool.not_eq_true', Bool.and_eq_false_iff, decide_eq_false_iff_not]
    omega
  · left
    simp only [hv, decide_true, Bool.true_and, Bool.not_eq_true', Bool.and_eq_false_iff, decide_eq_false_iff_not]
    omega
/-- **Two hides that may be the one of a find can be mistaken by the measures that are taken in it.** -/
theorem told_two {r : Rg} (B : RgB r) {h g : Nat} {f : List Int} (h1 : may r h f = true) (h2 : may r g f = true) : mist r (tk f r.kinds.length) h g = true := by
  obtain ⟨x, hx, ex⟩ := (may_iff B).1 h1
  obtain ⟨y, hy, ey⟩ := (may_iff B).1 h2
  unfold mist
  rw [decide_eq_true_eq]
  have hap := apart_le (h := h) (g := g) (ms := tk f r.kinds.length) hx hy
  have hsum : apN r h g 0 (tk f r.kinds.length) x.a y.a + apN r h g 1 (tk f r.kinds.length) x.b y.b ≤ ((chA r h f x).length : Int) + ((chA r g f y).length : Int) := by
    unfold apN tk
    rw [filter_nums, filter_nums]
    have e := countP_two (l := List.range r.kinds.length) (q := fun m => decide (0 ≤ f.getD m 0) && apK r h g 0 x.a y.a (m : Int)) (p := fun m => decide (0 ≤ f.getD m 0) && apK r h g 1 x.b y.b (m : Int))
      (s := fun m => (decide (0 ≤ f.getD m 0) && apK r h g 0 x.a y.a (m : Int)) || (decide (0 ≤ f.getD m 0) && apK r h g 1 x.b y.b (m : Int))) fun m hm => ⟨rfl, by
        unfold apK
        rcases B.kd m (List.mem_range.1 hm) with k | k <;> simp [k]⟩
    have h3 := countP_le (l := List.range r.kinds.length) (q := fun m => (decide (0 ≤ f.getD m 0) && apK r h g 0 x.a y.a (m : Int)) || (decide (0 ≤ f.getD m 0) && apK r h g 1 x.b y.b (m : Int)))
      (p := fun m => chB r h f (rm r x m) m || chB r g f (rm r y m) m) fun m hm hp => by
        have hkd := B.kd m (List.mem_range.1 hm)
        simp only [Bool.or_eq_true, Bool.and_eq_true, decide_eq_true_eq, apK, Int.toNat_natCast] at hp ⊢
        unfold rm
        rcases hp with ⟨hv, hk, ha⟩ | ⟨hv, hk, ha⟩
        · rw [if_pos (by omega), if_pos (by omega)]; exact ap_chg hv ha
        · rw [if_neg (by omega), if_neg (by omega)]; exact ap_chg hv ha
    have h4 := countP_or (fun m => chB r h f (rm r x m) m) (fun m => chB r g f (rm r y m) m) (List.range r.kinds.length)
    have e1 : (chA r h f x).length = _ := nums_count (fun m => chB r h f (rm r x m) m) r.kinds.length
    have e2 : (chA r g f y).length = _ := nums_count (fun m => chB r g f (rm r y m) m) r.kinds.length
    omega
  omega
theorem told_enough {r : Rg} (B : RgB r) {h g : Nat} {f : List Int} (hg : h < g) (hl : g < r.hides.length) (h1 : may r h f = true) (h2 : may r g f = true) : enough r (tk f r.kinds.length) = false := by
  cases he : enough r (tk f r.kinds.length) with
  | false => rfl
  | true => have := enough_iff.1 he h g hg hl; rw [told_two B h1 h2] at this; cases this
theorem tk_all {f : List Int} {n : Nat} (h : (tk f n).length = n) : tk f n = every n := by
  unfold tk at h ⊢
  have : nums (fun _ => true) n = every n := by unfold nums every; rw [List.filter_eq_self.2 fun _ _ => rfl]
  rw [← this]
  refine nums_congr fun m hm => ?_
  rw [nums_count] at h
  have h2 : (List.range n).countP (fun m => decide (0 ≤ f.getD m 0)) = (List.range n).length := by rw [h, List.length_range]
  exact List.countP_eq_length.1 h2 m (List.mem_range.2 hm)
end Hd
namespace Hd
open Ni (inn)
def befB : List Int → List Int → Bool
  | x :: a, y :: b => if x = y then befB a b else decide (x < y)
  | _, _ => false
theorem plan_none_inv {ok : List Int → Bool} : ∀ {many : Nat} {cs now : List Int}, plan ok many cs now = none → ∀ q, List.Sublist q cs → q.length = many → ok (now ++ q) = false
  | 0, cs, now, h, q, hq, hl => by
    have : q = [] := List.length_eq_zero_iff.1 hl
    subst this
    unfold plan at h
    split at h
    · cases h
    · rename_i hn; rw [List.append_nil]; simpa using hn
  | many + 1, [], now, _, q, hq, hl => by
    have := List.Sublist.length_le hq
    simp only [List.length_nil] at this; omega
  | many + 1, c :: cs, now, h, q, hq, hl => by
    unfold plan at h
    split at h
    · cases h
    · rename_i hn
      cases hq with
      | cons _ hq => exact plan_none_inv h q hq hl
      | cons_cons _ hq =>
        rename_i q'
        have := plan_none_inv hn q' hq (by simpa using hl)
        rwa [List.append_assoc] at this
theorem plan_some_inv {ok : List Int → Bool} : ∀ {many : Nat} {cs now l : List Int}, cs.Pairwise (· < ·) → plan ok many cs now = some l →
    ∃ q, l = now ++ q ∧ List.Sublist q cs ∧ q.length = many ∧ ok l = true ∧ ∀ q', List.Sublist q' cs → q'.length = many → ok (now ++ q') = true → befB q' q = false
  | 0, cs, now, l, _, h => by
    unfold plan at h
    split at h
    · rename_i hn
      injection h with h; subst h
      exact ⟨[], by simp, List.nil_sublist _, rfl, hn, fun q' _ h2 _ => by have := List.length_eq_zero_iff.1 h2; subst this; rfl⟩
    · cases h
  | many + 1, [], now, l, _, h => by unfold plan at h; cases h
  | many + 1, c :: cs, now, l, hp, h => by
    have hp' := List.pairwise_cons.1 hp
    unfold plan at h
    split at h
    · rename_i l' hn
      injection h with h; subst h
      obtain ⟨q, h1, h2, h3, h4, h5⟩ := plan_some_inv hp'.2 hn
      refine ⟨c :: q, by rw [h1, List.append_assoc]; rfl, .cons_cons _ h2, by rw [List.length_cons, h3], h4, fun q' k1 k2 k3 => ?_⟩
      cases k1 with
      | cons _ k1 =>
        cases q' with
        | nil => cases k2
        | cons x q' =>
          have : c < x := hp'.1 x (k1.subset (by simp))
          unfold befB
          rw [if_neg (by omega)]; simp; omega
      | cons_cons _ k1 =>
        rename_i q''
        unfold befB
        rw [if_pos rfl]
        exact h5 q'' k1 (by simpa using k2) (by rwa [List.append_assoc])
    · rename_i hn
      obtain ⟨q, h1, h2, h3, h4, h5⟩ := plan_some_inv hp'.2 h
      refine ⟨q, h1, .cons _ h2, h3, h4, fun q' k1 k2 k3 => ?_⟩
      cases k1 with
      | cons _ k1 => exact h5 q' k1 k2 k3
      | cons_cons _ k1 =>
        rename_i q''
        have := plan_none_inv hn q'' k1 (by simpa using k2)
        rw [List.append_assoc] at this
        rw [show now ++ c :: q'' = now ++ ([c] ++ q'') from rfl, this] at k3; cases k3
theorem sub_rising : ∀ {l m : List Int}, l.Pairwise (· < ·) → m.Pairwise (· < ·) → (∀ n ∈ l, n ∈ m) → List.Sublist l m
  | [], m, _, _, _ => List.nil_sublist _
  | x :: l, [], _, _, h => by have := h x (by simp); cases this
  | x :: l, y :: m, hl, hm, h => by
    have hl' := List.pairwise_cons.1 hl
    have hm' := List.pairwise_cons.1 hm
    rcases List.mem_cons.1 (h x (by simp)) with e | e
    · subst e
      refine .cons_cons _ (sub_rising hl'.2 hm'.2 fun n hn => ?_)
      rcases List.mem_cons.1 (h n (by simp [hn])) with e | e
      · have := hl'.1 n hn; omega
      · exact e
    · refine .cons _ (sub_rising hl hm'.2 fun n hn => ?_)
      have hyx := hm'.1 x e
      rcases List.mem_cons.1 (h n hn) with e2 | e2
      · rcases List.mem_cons.1 hn with e3 | e3
        · omega
        · have := hl'.1 n e3; omega
      · exact e2
theorem every_rising (n : Nat) : (every n).Pairwise (· < ·) := by
  unfold every
  rw [List.pairwise_map]
  exact List.pairwise_lt_range.imp fun h => by omega
theorem mem_every {n : Nat} {x : Int} : x ∈ every n ↔ 0 ≤ x ∧ x < n := by
  unfold every
  rw [List.mem_map]
  constructor
  · rintro ⟨m, hm, rfl⟩; rw [List.mem_range] at hm; omega
  · rintro ⟨h1, h2⟩; exact ⟨x.toNat, by rw [List.mem_range]; omega, by omega⟩
def msOK (n : Nat) (l : List Int) : Prop := l.Pairwise (· < ·) ∧ ∀ x ∈ l, 0 ≤ x ∧ x < n
theorem ms_sub {n : Nat} {l : List Int} (h : msOK n l) : List.Sublist l (every n) := sub_rising h.1 (every_rising n) fun x hx => mem_every.2 (h.2 x hx)
theorem sub_ms {n : Nat} {l : List Int} (h : List.Sublist l (every n)) : msOK n l := ⟨(every_rising n).sublist h, fun x hx => mem_every.1 (h.subset hx)⟩
theorem planOf_some {r : Rg} {p : List Int} (h : planOf r = some p) :
    msOK r.kinds.length p ∧ enough r p = true ∧ ∀ q, msOK r.kinds.length q → enough r q = true → p.length < q.length ∨ (p.length = q.length ∧ befB q p = false) := by
  unfold planOf at h
  obtain ⟨m, hm, h1, h2⟩ := findSome_inv h
  obtain ⟨q, e1, e2, e3, e4, e5⟩ := plan_some_inv (every_rising _) h1
  rw [List.nil_append] at e1; subst e1
  refine ⟨sub_ms e2, e4, fun q hq ho => ?_⟩
  by_cases hlt : q.length < m
  · have := plan_none_inv (h2 _ hlt) q (ms_sub hq) rfl
    rw [List.nil_append, ho] at this; cases this
  · by_cases he : q.length = m
    · exact .inr ⟨by omega, e5 q (ms_sub hq) he (by rwa [List.nil_append])⟩
    · exact .inl (by omega)
theorem planOf_none {r : Rg} (h : planOf r = none) : ∀ q, msOK r.kinds.length q → enough r q = false := by
  unfold planOf at h
  rw [List.findSome?_eq_none_iff] at h
  intro q hq
  have hl := (ms_sub hq).length_le
  have e : (every r.kinds.length).length = r.kinds.length := by simp [every]
  have := plan_none_inv (h q.length (List.mem_range.2 (by omega))) q (ms_sub hq) rfl
  rwa [List.nil_append] at this
theorem planOf_iff (r : Rg) : enough r (every r.kinds.length) = (planOf r).isSome := by
  cases h : planOf r with
  | none => rw [planOf_none h _ (sub_ms (List.Sublist.refl _))]; rfl
  | some p =>
    obtain ⟨h1, h2, _⟩ := planOf_some h
    rw [enough_mono (ms_sub h1) h2]; rfl
end Hd
namespace Go.Proofs.YtjpokekbjmdgmaaGreatDoor
open Go Go.Ab Ni Hd
theorem rin_pure (n lo hi : Int) : APure Tryz.prog 74 [I n, I lo, I hi] (B (inn n lo hi)) := by
  refine ap Tryz.func74 (fun e0 he0 => ?_)
  refine wz 5 ?_
  refine sz 10 (fun g1 g1' => ?_) (fun g1 g1' => ?_)
  ·refine wz 5 ?_
   exact rz rfl (Less.eq (by simp [inn, *]))
  refine wz 5 ?_
  exact rz rfl (Less.eq (by simp [inn, *]))
end Go.Proofs.YtjpokekbjmdgmaaGreatDoor
namespace Go.Proofs.YtjpokekbjmdgmaaGreatDoor
open Go Go.Ab Ni Hd
def okM (r : Rg) (l : List Int) : Bool := decide (∀ i, (hi : i < l.length) → msIn r l[i] = true ∧ (0 < i → l[i - 1] < l[i]))
theorem okM_no {r : Rg} {l : List Int} {i : Nat} (hi : i < l.length) (h : ¬ (msIn r l[i] = true ∧ (0 < i → l[i - 1] < l[i]))) : okM r l = false := by
  unfold okM; rw [decide_eq_false_iff_not]; exact fun q => h (q i hi)
theorem okM_yes {r : Rg} {l : List Int} (h : ∀ i, (hi : i < l.length) → msIn r l[i] = true ∧ (0 < i → l[i - 1] < l[i])) : okM r l = true := by unfold okM; exact decide_eq_true h
theorem okM_p {r : Rg} {l : List Int} (h : okM r l = true) : msP r l := fun m hm => by
  obtain ⟨i, hi, rfl⟩ := List.getElem_of_mem hm
  unfold okM at h; rw [decide_eq_true_eq] at h
  exact msIn_iff.1 (h i hi).1
theorem ttwins_no {r : Rg} (hk : r.kinds.length ≤ 1000000) (hh : r.hides.length ≤ 1000000) (hw : ∀ h ∈ r.hides, h.length ≤ 1000000) (ho : rgOK r = true) (he : enough r (every r.kinds.length) = true) : APure Tryz.prog 66 [rgA r] (.tup [I 0, I 0, I 5]) := by
  refine ap Tryz.func66 (fun e0 he0 => ?_)
  refine vz 4 ?_
  refine sq_nil ?_
  refine aw_seq ?_
  refine aw_seq ?_
  have gB := rgOK_B ho
  refine wz 1 ?_
  refine kz az (isregister_pure r hk hh hw) ?_
  refine wz 1 ?_
  refine iz (fun c_10 c_10' => ?_) (fun c_10 c_10' => ?_)
  ·exfalso
   simp_all
  refine wz 0 ?_
  refine aw_draw 11 mo (by kernel_rfl) ?_
  refine dz 2 ?_
  refine dkz az (every_pure r hk) ?_
  refine dkz az (twins_pure gB (every_p r) (by rw [every_len]; omega)) ?_
  refine dz 7 ?_
  refine wz 2 ?_
  refine iz (fun c_20 c_20' => ?_) (fun c_20 c_20' => ?_)
  ·refine wz 3 ?_
   exact retQ_pure (v := .tup [.raw _, .raw _, .raw _]) rfl rfl (less_tup ⟨jz, jz, jz, trivial⟩)
  exfalso
  simp_all
theorem areM_pure (r : Rg) (l : List Int) (hk : r.kinds.length ≤ 1000000) (hl : l.length ≤ 1000000) : APure Tryz.prog 126 [rgA r, ints l] (B (okM r l)) := by
  refine ap Tryz.func126 (fun e0 he0 => ?_)
  refine wz 5 ?_
  refine aw_loopk (ι := { k : Nat // k ≤ l.length ∧ ∀ i, (hi : i < l.length) → i < k → msIn r l[i] = true ∧ (0 < i → l[i - 1] < l[i]) }) [1, 2, 7, 8] (fun i => [(9, I i.1)]) (fun H i => H) (fun i => l.length - i.1) (⟨0, Nat.zero_le _, by omega⟩) ⟨jz, jz, jz, jz, jz, trivial⟩ rfl ?_
  rintro ⟨k, hk1, hok⟩
  refine nz ?_
  refine wz 1 ?_
  refine iz (fun c_10 c_10' => ?_) (fun c_10 c_10' => ?_)
  ·have hkl : k < l.length := by omega
   refine wz 7 ?_
   refine kz az (ismeasure_pure r _ hk) ?_
   refine wz 2 ?_
   refine sz 18 (fun g4_4 g4_4' => ?_) (fun g4_4 g4_4' => ?_)
   ·have hms : msIn r l[k] = false := by simpa using g4_4
    have hno : okM r l = false := okM_no hkl (fun q => by rw [hms] at q; exact Bool.noConfusion q.1)
    refine wz 14 ?_
    exact rz rfl (Less.eq (by rw [hno]))
   have hms : msIn r l[k] = true := by simpa using g4_4
   refine wz 3 ?_
   refine sz 21 (fun g4_7 g4_7' => ?_) (fun g4_7 g4_7' => ?_)
   ·refine wz 4 ?_
    refine sq_yes rfl rfl (less_b g4_7) rfl (ev_index_map (k := k - 1) sl28.h jz jz (by omega) (by omega)) ?_
    refine wz 4 ?_
    refine iz (fun c_30 c_30' => ?_) (fun c_30 c_30' => ?_)
    ·have hno : okM r l = false := okM_no hkl (fun q => by have h5 := q.2 (by omega); have h6 := of_decide_eq_true c_30; omega)
     refine wz 1 ?_
     exact rz rfl (Less.eq (by rw [hno]))
    have hst : msIn r l[k] = true ∧ (0 < k → l[k - 1] < l[k]) := ⟨hms, fun q => by have := of_decide_eq_false c_30; omega⟩
    refine wz 2 ?_
    exact ⟨⟨k + 1, by omega, fun i hi q => by rcases Nat.lt_or_ge i k with q2 | q2; exact hok i hi q2; (obtain rfl : i = k := by omega); exact hst⟩, by simp only; omega, Sub.slots ⟨jz, jz, jz, jz, jz, trivial⟩⟩
   have hst : msIn r l[k] = true ∧ (0 < k → l[k - 1] < l[k]) := ⟨hms, fun q => by omega⟩
   refine wz 12 ?_
   exact ⟨⟨k + 1, by omega, fun i hi q => by rcases Nat.lt_or_ge i k with q2 | q2; exact hok i hi q2; (obtain rfl : i = k := by omega); exact hst⟩, by simp only; omega, Sub.slots ⟨jz, jz, jz, jz, jz, trivial⟩⟩
  obtain rfl : k = l.length := by omega
  have hall := okM_yes fun i hi => hok i hi hi
  refine wz 1 ?_
  exact rz rfl (Less.eq (by rw [hall]))
theorem enough_ok {r : Rg} {l : List Int} (hk : r.kinds.length ≤ 1000000) (hh : r.hides.length ≤ 1000000) (hw : ∀ h ∈ r.hides, h.length ≤ 1000000) (hl : l.length ≤ 1000000) (ho : (rgOK r && okM r l) = true) : APure Tryz.prog 67 [rgA r, ints l] (.tup [B (enough r l), I 0]) := by
  refine ap Tryz.func67 (fun e0 he0 => ?_)
  refine vz 3 ?_
  refine sq_nil ?_
  refine aw_seq ?_
  refine aw_seq ?_
  obtain ⟨hro, hom⟩ : rgOK r = true ∧ okM r l = true := by simpa using ho
  have gB := rgOK_B hro
  refine wz 1 ?_
  refine kz az (isregister_pure r hk hh hw) ?_
  refine wz 2 ?_
  refine sz 12 (fun g1_3 g1_3' => ?_) (fun g1_3 g1_3' => ?_)
  ·exfalso
   simp_all
  refine wz 2 ?_
  refine ky az (areM_pure r l hk hl) ?_
  refine wz 2 ?_
  refine iz (fun c_17 c_17' => ?_) (fun c_17 c_17' => ?_)
  ·exfalso
   simp_all
  refine wz 2 ?_
  refine kz az (twins_pure gB (okM_p hom) hl) ?_
  refine wz 11 ?_
  exact retQ_pure (v := .tup [.raw _, .raw _]) rfl rfl (less_tup ⟨Less.eq (by rw [Bool.not_not]), jz, trivial⟩)
end Go.Proofs.YtjpokekbjmdgmaaGreatDoor
namespace Go.Proofs.YtjpokekbjmdgmaaGreatDoor
open Go Go.Ab Ni Hd
section app
variable {c : Ctx} {ops : Array Oper} {Q : AExit → St → Prop} {rest : List Oper} {i : Nat} {sl : List (Nat × AV)} {df : List ADef}
variable {d : Option Tmp} {t : TypeId} {pp : String} {af : Array Edge}
end app
theorem plan_no {r : Rg} (hk : r.kinds.length ≤ 1000000) (hh : r.hides.length ≤ 1000000) (hw : ∀ h ∈ r.hides, h.length ≤ 1000000) (ho : rgOK r = true) (hpl : planOf r = none) : APure Tryz.prog 68 [rgA r] (.tup [ints [], I 5]) := by
  refine ap Tryz.func68 (fun e0 he0 => ?_)
  refine vz 3 ?_
  refine sq_nil ?_
  refine aw_seq ?_
  refine aw_seq ?_
  have gB := rgOK_B ho
  have hnk := gB.nk
  refine wz 1 ?_
  refine kz az (isregister_pure r hk hh hw) ?_
  refine wz 1 ?_
  refine iz (fun c_9 c_9' => ?_) (fun c_9 c_9' => ?_)
  ·exfalso
   simp_all
  refine vz 2 ?_
  refine sq_nil ?_
  refine aw_seq ?_
  refine aw_sub (sub_iptrK [4, 5] 1 (j := 0) (l := rgC r) rfl rfl) ?_
  refine nz ?_
  refine wz 7 ?_
  refine aw_loopk (ι := { g : Nat × AV × List AObj // g.1 ≤ r.kinds.length + 1 ∧ NowI g.2.2 g.2.1 [] ∧ ∀ m, m < g.1 → plan (enough r) m (every r.kinds.length) [] = none }) [4, 5, 14] (fun g => [(15, I g.1.1)]) (fun H g => plH r g.1.2.1 g.1.2.2) (fun g => r.kinds.length + 1 - g.1.1) (⟨(0, .raw (.slice none 0 0), []), Nat.zero_le _, .inl ⟨rfl, rfl⟩, by omega⟩) ⟨jz, jz, jz, jz, trivial⟩ rfl ?_
  rintro ⟨⟨m, a, G⟩, hm, hnow, hno⟩
  refine nz ?_
  dsimp only at hm hnow hno
  refine wz 1 ?_
  refine iz (fun c_16 c_16' => ?_) (fun c_16 c_16' => ?_)
  ·have hml : m < r.kinds.length + 1 := by omega
   refine wz 4 ?_
   refine sq_call (f := 127) (first := []) (cap := [.iptr (rgC r), .ptr 1 0, .ptr 2 0]) (args := [I ((0 : Nat) : Int), I m, .iptr (rgC r), .ptr 1 0, .ptr 2 0]) rfl en127.h jz ⟨jz, jz, jz, jz, jz, trivial⟩ (search_call gB m [] 0 a G (by intro n hn; cases hn) (by simp; omega) (Nat.zero_le _) hnow) ?_ (by rintro v H' ⟨b, a', G', h, _⟩; cases h)
   rintro _ _ ⟨b, a2, G2, h, rfl, hT, hF⟩; cases h
   refine wz 0 ?_
   refine iz (fun c_20 c_20' => ?_) (fun c_20 c_20' => ?_)
   ·obtain ⟨l2, hp, hn2⟩ := hT (by simpa using c_20)
    rw [List.drop_zero] at hp
    exfalso
    have hpl2 : planOf r = some l2 := findSome_range hml hp hno
    rw [hpl2] at hpl; cases hpl
   rw [List.drop_zero] at hF
   refine vz 2 ?_
   refine sq_nil ?_
   refine ⟨⟨(m + 1, a2, G2), by simp only; omega, (hF (by simpa using c_20)).2, fun q hq => (by by_cases e : q = m; (subst e; exact (hF (by simpa using c_20)).1); exact hno q (by simp only at hq; omega))⟩, by simp only; omega, ?_⟩
   refine Sub.slots ?_
   exact ⟨jz, jz, jz, jz, trivial⟩
  obtain rfl : m = r.kinds.length + 1 := by omega
  refine wz 2 ?_
  exact retQ_pure (v := .tup [.raw _, .raw _]) rfl rfl (less_tup ⟨less_nil 1, jz, trivial⟩)
end Go.Proofs.YtjpokekbjmdgmaaGreatDoor
namespace Go.Proofs.YtjpokekbjmdgmaaGreatDoor
open Go Go.Ab Ni Hd
def shB (r : Rg) : Bool := decide ((r.kinds.length ≤ 8 ∧ r.hides.length ≤ 8) ∧ ∀ i, (hi : i < r.hides.length) → i < 9 → r.hides[i].length ≤ 10)
theorem shB_fin {r : Rg} (h3 : ∀ i, (hi : i < r.hides.length) → i < 9 → r.hides[i].length ≤ 10) : shB r = (decide (r.kinds.length ≤ 8) && decide (r.hides.length ≤ 8)) := by
  rw [Bool.eq_iff_iff]; unfold shB; simp only [decide_eq_true_eq, Bool.and_eq_true]
  exact ⟨fun h => h.1, fun h => ⟨h, h3⟩⟩
theorem shB_row {r : Rg} {i : Nat} (hi : i < r.hides.length) (h9 : i < 9) (h : ¬ r.hides[i].length ≤ 10) : shB r = false := decide_eq_false fun q => h (q.2 i hi h9)
theorem shB_len {r : Rg} (h : shB r = true) : r.kinds.length ≤ 1000000 ∧ r.hides.length ≤ 1000000 ∧ (∀ h ∈ r.hides, h.length ≤ 1000000) := by
  have q := of_decide_eq_true h
  refine ⟨by omega, by omega, fun x hx => ?_⟩
  obtain ⟨i, hi, rfl⟩ := List.getElem_of_mem hx
  have := q.2 i hi (by omega); omega
theorem rg_kind {r : Rg} {i : Nat} (hi : i < r.kinds.length) (h : kdOK r.kinds[i] = false) : rgOK r = false := by
  have e : r.kinds.all kdOK = false := by rw [List.all_eq_false]; exact ⟨_, List.getElem_mem hi, by rw [h]; simp⟩
  unfold rgOK; rw [e]; simp
theorem rg_hide {r : Rg} {i : Nat} (hi : i < r.hides.length) (h : hdOK r.kinds.length r.hides[i] = false) : rgOK r = false := by
  have e : r.hides.all (hdOK r.kinds.length) = false := by rw [List.all_eq_false]; exact ⟨_, List.getElem_mem hi, by rw [h]; simp⟩
  unfold rgOK; rw [e]; simp
theorem hd_len {w : Nat} {h : List Int} (e : h.length ≠ w) : hdOK w h = false := by unfold hdOK; rw [decide_eq_false e]; rfl
theorem hd_num {w : Nat} {h : List Int} {j : Nat} (hj : j < h.length) (e : inn h[j] 1 500 = false) : hdOK w h = false := by
  have q : (h.all fun n => inn n 1 500) = false := by rw [List.all_eq_false]; exact ⟨_, List.getElem_mem hj, by rw [e]; simp⟩
  unfold hdOK; rw [q]; simp
theorem hd_yes {w : Nat} {h : List Int} (e : h.length = w) (k : ∀ j, (hj : j < h.length) → inn h[j] 1 500 = true) : hdOK w h = true := by
  unfold hdOK; rw [decide_eq_true e, List.all_eq_true.2 fun x hx => by obtain ⟨j, hj, rfl⟩ := List.getElem_of_mem hx; exact k j hj]; rfl
theorem all_of {α : Type} {q : α → Bool} {l : List α} (h : ∀ j, (hj : j < l.length) → q l[j] = true) : l.all q = true := List.all_eq_true.2 fun x hx => by obtain ⟨j, hj, rfl⟩ := List.getElem_of_mem hx; exact h j hj
theorem fd_bad {r : Rg} {f : List Int} {i : Nat} (hi : i < f.length) (h : inn f[i] (-1) 1000 = false) : fdOK r f = false := by
  have e : (f.all fun n => inn n (-1) 1000) = false := by rw [List.all_eq_false]; exact ⟨_, List.getElem_mem hi, by rw [h]; simp⟩
  unfold fdOK; rw [e]; simp
theorem short_pure (r : Rg) : APure Tryz.prog 20 [rgA r] (B (shB r)) := by
  refine ap Tryz.func20 (fun e0 he0 => ?_)
  refine wz 3 ?_
  refine aw_loopk (ι := { k : Nat // k ≤ r.hides.length ∧ k ≤ 9 ∧ ∀ i, (hi : i < r.hides.length) → i < k → r.hides[i].length ≤ 10 }) [1] (fun i => [(3, I i.1)]) (fun H i => H) (fun i => r.hides.length - i.1) (⟨0, Nat.zero_le _, by omega, by omega⟩) ⟨jz, jz, trivial⟩ rfl ?_
  rintro ⟨k, hk, hk9, hok⟩
  refine nz ?_
  refine wz 6 ?_
  refine sz 9 (fun g2_5 g2_5' => ?_) (fun g2_5 g2_5' => ?_)
  ·have hkl : k < r.hides.length := by omega
   refine wz 3 ?_
   refine iz (fun c_12 c_12' => ?_) (fun c_12 c_12' => ?_)
   ·have hk9b : k < 9 := by have := of_decide_eq_true c_12; omega
    refine wz 7 ?_
    refine iz (fun c_21 c_21' => ?_) (fun c_21 c_21' => ?_)
    ·have hbad := shB_row hkl hk9b (by omega)
     refine wz 1 ?_
     exact rz rfl (Less.eq (by rw [hbad]))
    refine wz 3 ?_
    exact ⟨⟨k + 1, by omega, by omega, fun i hi h => (by by_cases e : i = k; (subst e; omega); exact hok i hi (by omega))⟩, by simp only; omega, Sub.slots ⟨jz, jz, trivial⟩⟩
   refine wz 5 ?_
   refine sz 26 (fun g6_4 g6_4' => ?_) (fun g6_4 g6_4' => ?_)
   ·refine wz 6 ?_
    exact rz rfl (Less.eq (congrArg B (by have h9 := of_decide_eq_false c_12; rw [shB_fin (fun i hi h8 => hok i hi (by omega)), Bool.eq_iff_iff]; simp; omega)))
   refine wz 6 ?_
   exact rz rfl (Less.eq (congrArg B (by have h9 := of_decide_eq_false c_12; rw [shB_fin (fun i hi h8 => hok i hi (by omega)), Bool.eq_iff_iff]; simp; omega)))
  obtain rfl : k = r.hides.length := by omega
  refine wz 9 ?_
  refine sz 26 (fun g6_4 g6_4' => ?_) (fun g6_4 g6_4' => ?_)
  ·refine wz 6 ?_
   exact rz rfl (Less.eq (congrArg B (by rw [shB_fin (fun i hi _ => hok i hi hi), Bool.eq_iff_iff]; simp; omega)))
  refine wz 6 ?_
  exact rz rfl (Less.eq (congrArg B (by rw [shB_fin (fun i hi _ => hok i hi hi), Bool.eq_iff_iff]; simp; omega)))
theorem rspan_pure (a b : Int) (ha : -1000000 ≤ a ∧ a ≤ 1000000 ∨ True) : APure Tryz.prog 75 [.agg [I a, I b]] (B (spOK a b)) := by
  refine ap Tryz.func75 (fun e0 he0 => ?_)
  refine vz 2 ?_
  refine sq_nil ?_
  refine aw_seq ?_
  have hin : ∀ x lo hi : Int, inn x lo hi = true ↔ lo ≤ x ∧ x ≤ hi := fun x lo hi => by unfold inn; simp
  refine wz 2 ?_
  refine kz az (rin_pure _ _ _) ?_
  refine wz 1 ?_
  refine sz 6 (fun g1_3 g1_3' => ?_) (fun g1_3 g1_3' => ?_)
  ·have h1 := (hin _ _ _).1 g1_3
   refine wz 4 ?_
   refine ky az (rin_pure _ _ _) ?_
   refine wz 2 ?_
   refine sz 13 (fun g1_10 g1_10' => ?_) (fun g1_10 g1_10' => ?_)
   ·have h2 := (hin _ _ _).1 g1_10
    refine wz 8 ?_
    exact rz rfl (Less.eq (by unfold spOK; simp [*]))
   refine wz 8 ?_
   exact rz rfl (Less.eq (by unfold spOK; simp [*]))
  refine wz 15 ?_
  exact rz rfl (Less.eq (by unfold spOK; simp [*]))
theorem register_pure (r : Rg) (hk : r.kinds.length ≤ 1000000) (hh : r.hides.length ≤ 1000000) (hw : ∀ h ∈ r.hides, h.length ≤ 1000000) : APure Tryz.prog 21 [rgA r] (B (rgOK r)) := by
  refine ap Tryz.func21 (fun e0 he0 => ?_)
  refine wz 5 ?_
  refine kz az (rin_pure _ _ _) ?_
  refine wz 2 ?_
  refine sz 11 (fun g1_5 g1_5' => ?_) (fun g1_5 g1_5' => ?_)
  ·refine wz 8 ?_
   exact rz rfl (Less.eq (by unfold rgOK; simp_all))
  refine wz 3 ?_
  refine ky az (rin_pure _ _ _) ?_
  refine wz 2 ?_
  refine iz (fun c_17 c_17' => ?_) (fun c_17 c_17' => ?_)
  ·refine wz 1 ?_
   exact rz rfl (Less.eq (by unfold rgOK; simp_all))
  refine wz 1 ?_
  refine aw_loopk (ι := { k : Nat // k ≤ r.kinds.length ∧ ∀ i, (hi : i < r.kinds.length) → i < k → kdOK r.kinds[i] = true }) [1] (fun i => [(3, I i.1)]) (fun H i => H) (fun i => r.kinds.length - i.1) (⟨0, Nat.zero_le _, by omega⟩) ⟨jz, jz, trivial⟩ rfl ?_
  rintro ⟨k, hkk, hok⟩
  refine nz ?_
  refine wz 5 ?_
  refine iz (fun c_22 c_22' => ?_) (fun c_22 c_22' => ?_)
  ·have hkl : k < r.kinds.length := by omega
   refine wz 7 ?_
   refine sz 31 (fun g6_6 g6_6' => ?_) (fun g6_6 g6_6' => ?_)
   ·refine wz 7 ?_
    refine iz (fun c_38 c_38' => ?_) (fun c_38 c_38' => ?_)
    ·have hbad := rg_kind hkl (by unfold kdOK; have h5 := of_decide_eq_true c_38; exact decide_eq_false (by omega))
     refine wz 1 ?_
     exact rz rfl (Less.eq (by rw [hbad]))
    have hkd : kdOK r.kinds[k] = true := by unfold kdOK; have h5 := of_decide_eq_false c_38; exact decide_eq_true (by omega)
    refine wz 3 ?_
    exact ⟨⟨k + 1, by omega, fun i hi h => (by by_cases e : i = k; (subst e; exact hkd); exact hok i hi (by omega))⟩, by simp only; omega, Sub.slots ⟨jz, jz, trivial⟩⟩
   have hkd : kdOK r.kinds[k] = true := by unfold kdOK; exact decide_eq_true (by omega)
   refine wz 11 ?_
   exact ⟨⟨k + 1, by omega, fun i hi h => (by by_cases e : i = k; (subst e; exact hkd); exact hok i hi (by omega))⟩, by simp only; omega, Sub.slots ⟨jz, jz, trivial⟩⟩
  obtain rfl : k = r.kinds.length := by omega
  have hall1 : r.kinds.all kdOK = true := all_of fun j hj => hok j hj hj
  refine wz 1 ?_
  refine aw_loopk (ι := { k : Nat // k ≤ r.hides.length ∧ ∀ i, (hi : i < r.hides.length) → i < k → hdOK r.kinds.length r.hides[i] = true }) [1] (fun i => [(4, I i.1)]) (fun H i => H) (fun i => r.hides.length - i.1) (⟨0, Nat.zero_le _, by omega⟩) ⟨jz, jz, trivial⟩ rfl ?_
  rintro ⟨k, hkh, hok2⟩
  refine nz ?_
  refine wz 5 ?_
  refine iz (fun c_43 c_43' => ?_) (fun c_43 c_43' => ?_)
  ·have hhl : k < r.hides.length := by omega
   have hwl := hw _ (List.getElem_mem hhl)
   refine wz 0 ?_
   refine aw_draw 10 mo (by kernel_rfl) ?_
   refine dz 10 ?_
   refine wz 0 ?_
   refine iz (fun c_55 c_55' => ?_) (fun c_55 c_55' => ?_)
   ·have hbad := rg_hide hhl (hd_len (by omega))
    refine wz 1 ?_
    exact rz rfl (Less.eq (by rw [hbad]))
   have hle : r.hides[k].length = r.kinds.length := by omega
   refine wz 1 ?_
   refine aw_loopk (ι := { j : Nat // j ≤ r.hides[k].length ∧ ∀ i, (hi : i < r.hides[k].length) → i < j → inn r.hides[k][i] 1 500 = true }) [1, 4] (fun u => [(5, I u.1)]) (fun H u => H) (fun u => r.hides[k].length - u.1) (⟨0, Nat.zero_le _, by omega⟩) ⟨jz, jz, jz, trivial⟩ rfl ?_
   rintro ⟨j, hj, hok3⟩
   refine nz ?_
   refine wz 8 ?_
   refine iz (fun c_63 c_63' => ?_) (fun c_63 c_63' => ?_)
   ·have hjl : j < r.hides[k].length := by omega
    refine wz 8 ?_
    refine kz az (rin_pure _ _ _) ?_
    refine wz 1 ?_
    refine iz (fun c_75 c_75' => ?_) (fun c_75 c_75' => ?_)
    ·have hbad := rg_hide hhl (hd_num hjl (by simpa using c_75))
     refine wz 1 ?_
     exact rz rfl (Less.eq (by rw [hbad]))
    have hin : inn r.hides[k][j] 1 500 = true := by simpa using c_75
    refine wz 3 ?_
    exact ⟨⟨j + 1, by omega, fun i hi h => (by by_cases e : i = j; (subst e; exact hin); exact hok3 i hi (by omega))⟩, by simp only; omega, Sub.slots ⟨jz, jz, jz, trivial⟩⟩
   obtain rfl : j = r.hides[k].length := by omega
   refine wz 3 ?_
   exact ⟨⟨k + 1, by omega, fun i hi h => (by by_cases e : i = k; (subst e; exact hd_yes hle fun j hj => hok3 j hj hj); exact hok2 i hi (by omega))⟩, by simp only; omega, Sub.slots ⟨jz, jz, trivial⟩⟩
  obtain rfl : k = r.hides.length := by omega
  have hall2 : r.hides.all (hdOK r.kinds.length) = true := all_of fun j hj => hok2 j hj hj
  refine wz 2 ?_
  refine kz az (rspan_pure _ _ (.inr trivial)) ?_
  refine wz 1 ?_
  refine sz 79 (fun g18_3 g18_3' => ?_) (fun g18_3 g18_3' => ?_)
  ·refine wz 2 ?_
   refine ky az (rspan_pure _ _ (.inr trivial)) ?_
   refine wz 2 ?_
   refine sz 84 (fun g18_8 g18_8' => ?_) (fun g18_8 g18_8' => ?_)
   ·refine wz 2 ?_
    refine ky az (rin_pure _ _ _) ?_
    refine wz 2 ?_
    refine sz 89 (fun g18_13 g18_13' => ?_) (fun g18_13 g18_13' => ?_)
    ·refine wz 2 ?_
     refine ky az (rin_pure _ _ _) ?_
     refine wz 2 ?_
     exact rz rfl (Less.eq (by unfold rgOK; rw [hall1, hall2]; simp_all))
    refine wz 5 ?_
    exact rz rfl (Less.eq (by unfold rgOK; rw [hall1, hall2]; simp_all))
   refine wz 10 ?_
   exact rz rfl (Less.eq (by unfold rgOK; rw [hall1, hall2]; simp_all))
  refine wz 15 ?_
  exact rz rfl (Less.eq (by unfold rgOK; rw [hall1, hall2]; simp_all))
end Go.Proofs.YtjpokekbjmdgmaaGreatDoor
namespace Go.Proofs.YtjpokekbjmdgmaaGreatDoor
open Go Go.Ab Ni Hd
theorem short_t {r : Rg} (h : shB r = true) : APure Tryz.prog 20 [rgA r] (B true) := by have q := short_pure r; rw [h] at q; exact q
theorem short_f {r : Rg} (h : shB r = false) : APure Tryz.prog 20 [rgA r] (B false) := by have q := short_pure r; rw [h] at q; exact q
theorem reg_t {r : Rg} (hs : shB r = true) (h : rgOK r = true) : APure Tryz.prog 21 [rgA r] (B true) := by have q := register_pure r (shB_len hs).1 (shB_len hs).2.1 (shB_len hs).2.2; rw [h] at q; exact q
theorem reg_f {r : Rg} (hs : shB r = true) (h : rgOK r = false) : APure Tryz.prog 21 [rgA r] (B false) := by have q := register_pure r (shB_len hs).1 (shB_len hs).2.1 (shB_len hs).2.2; rw [h] at q; exact q
end Go.Proofs.YtjpokekbjmdgmaaGreatDoor
namespace Go.Proofs.YtjpokekbjmdgmaaGreatDoor
open Go Go.Ab Ni Hd
theorem rmeas_pure (r : Rg) (n : Int) (hk : r.kinds.length ≤ 1000000) : APure Tryz.prog 48 [rgA r, I n] (B (msIn r n)) := by
  refine ap Tryz.func48 (fun e0 he0 => ?_)
  refine wz 7 ?_
  refine kz az (rin_pure _ _ _) ?_
  refine wz 1 ?_
  exact rz rfl (Less.eq rfl)
theorem rfind_pure (r : Rg) (f : List Int) (hl : f.length ≤ 1000000) : APure Tryz.prog 24 [rgA r, ints f] (B (fdOK r f)) := by
  refine ap Tryz.func24 (fun e0 he0 => ?_)
  refine wz 3 ?_
  refine aw_loopk (ι := { k : Nat // k ≤ f.length ∧ ∀ i, (hi : i < f.length) → i < k → inn f[i] (-1) 1000 = true }) [1, 2] (fun i => [(5, I i.1)]) (fun H i => H) (fun i => f.length - i.1) (⟨0, Nat.zero_le _, by omega⟩) ⟨jz, jz, jz, trivial⟩ rfl ?_
  rintro ⟨k, hk, hok⟩
  refine nz ?_
  refine wz 4 ?_
  refine iz (fun c_9 c_9' => ?_) (fun c_9 c_9' => ?_)
  ·have hkl : k < f.length := by omega
   refine wz 4 ?_
   refine kz az (rin_pure _ _ _) ?_
   refine wz 1 ?_
   refine iz (fun c_17 c_17' => ?_) (fun c_17 c_17' => ?_)
   ·refine wz 1 ?_
    exact rz rfl (Less.eq (by rw [fd_bad hkl (by simpa using c_17)]))
   refine wz 3 ?_
   exact ⟨⟨k + 1, by omega, fun i hi h => (by by_cases e : i = k; (subst e; simpa using c_17); exact hok i hi (by omega))⟩, by simp only; omega, Sub.slots ⟨jz, jz, jz, trivial⟩⟩
  obtain rfl : k = f.length := by omega
  have hall : (f.all fun n => inn n (-1) 1000) = true := all_of fun j hj => hok j hj hj
  refine wz 7 ?_
  exact rz rfl (Less.eq (congrArg B (by unfold fdOK; rw [hall, Bool.and_true, Bool.eq_iff_iff]; simp; omega)))
theorem rmeasures_pure (r : Rg) (l : List Int) (hk : r.kinds.length ≤ 1000000) (hl : l.length ≤ 1000000) : APure Tryz.prog 28 [rgA r, ints l] (B (okM r l)) := by
  refine ap Tryz.func28 (fun e0 he0 => ?_)
  refine wz 3 ?_
  refine aw_loopk (ι := { k : Nat // k ≤ l.length ∧ ∀ i, (hi : i < l.length) → i < k → msIn r l[i] = true ∧ (0 < i → l[i - 1] < l[i]) }) [1, 2] (fun i => [(5, I i.1)]) (fun H i => H) (fun i => l.length - i.1) (⟨0, Nat.zero_le _, by omega⟩) ⟨jz, jz, jz, trivial⟩ rfl ?_
  rintro ⟨k, hk1, hok⟩
  refine nz ?_
  refine wz 4 ?_
  refine iz (fun c_9 c_9' => ?_) (fun c_9 c_9' => ?_)
  ·have hkl : k < l.length := by omega
   refine wz 0 ?_
   refine aw_draw 23 mo (by kernel_rfl) ?_
   refine dz 5 ?_
   refine dkz az (rmeas_pure r _ hk) ?_
   refine dz 2 ?_
   refine dsz 19 (fun g4_7 g4_7' => ?_) (fun g4_7 g4_7' => ?_)
   ·have hms : msIn r l[k] = false := by simpa using g4_7
    have hno : okM r l = false := okM_no hkl (fun q => by rw [hms] at q; exact Bool.noConfusion q.1)
    refine dz 15 ?_
    refine wz 2 ?_
    exact rz rfl (Less.eq (by rw [hno]))
   have hms : msIn r l[k] = true := by simpa using g4_7
   refine dz 3 ?_
   refine dsz 22 (fun g4_10 g4_10' => ?_) (fun g4_10 g4_10' => ?_)
   ·refine dz 7 ?_
    refine dr_yes rfl rfl (less_b g4_10) rfl (ev_index_map (k := k - 1) sl28.h jz jz (by omega) (by omega)) ?_
    refine dz 4 ?_
    refine wz 0 ?_
    refine iz (fun c_34 c_34' => ?_) (fun c_34 c_34' => ?_)
    ·have hno : okM r l = false := okM_no hkl (fun q => by have h5 := q.2 (by omega); have h6 := of_decide_eq_true c_34; omega)
     refine wz 1 ?_
     exact rz rfl (Less.eq (by rw [hno]))
    have hst : msIn r l[k] = true ∧ (0 < k → l[k - 1] < l[k]) := ⟨hms, fun q => by have := of_decide_eq_false c_34; omega⟩
    refine wz 3 ?_
    exact ⟨⟨k + 1, by omega, fun i hi q => by rcases Nat.lt_or_ge i k with q2 | q2; exact hok i hi q2; (obtain rfl : i = k := by omega); exact hst⟩, by simp only; omega, Sub.slots ⟨jz, jz, jz, trivial⟩⟩
   have hst : msIn r l[k] = true ∧ (0 < k → l[k - 1] < l[k]) := ⟨hms, fun q => by omega⟩
   refine dz 12 ?_
   refine wz 4 ?_
   exact ⟨⟨k + 1, by omega, fun i hi q => by rcases Nat.lt_or_ge i k with q2 | q2; exact hok i hi q2; (obtain rfl : i = k := by omega); exact hst⟩, by simp only; omega, Sub.slots ⟨jz, jz, jz, trivial⟩⟩
  obtain rfl : k = l.length := by omega
  have hall := okM_yes fun i hi => hok i hi hi
  refine wz 1 ?_
  exact rz rfl (Less.eq (by rw [hall]))
end Go.Proofs.YtjpokekbjmdgmaaGreatDoor
namespace Go.Proofs.YtjpokekbjmdgmaaGreatDoor
open Go Go.Ab Ni Hd
instance un4 : UnD Tryz.prog 4 .bool := ⟨by kernel_rfl⟩
end Go.Proofs.YtjpokekbjmdgmaaGreatDoor
namespace Go.Proofs.YtjpokekbjmdgmaaGreatDoor
open Go Go.Ab Ni Hd
theorem soon_len {a b : List Int} (h : a.length ≠ b.length) : soon a b = decide (a.length < b.length) := by unfold soon; rw [decide_eq_false h]; simp
theorem soon_at {a b : List Int} (h : a.length = b.length) {k : Nat} (ha : k < a.length) (hb : k < b.length) (he : ∀ i, (hi : i < k) → a[i]'(by omega) = b[i]'(by omega)) (hne : a[k] ≠ b[k]) : soon a b = decide (a[k] < b[k]) := by
  unfold soon; rw [lex_diff ha hb he hne, decide_eq_false (by omega), decide_eq_true h]; simp
theorem soon_self (a : List Int) : soon a a = false := by unfold soon; rw [lex_irr]; simp
end Go.Proofs.YtjpokekbjmdgmaaGreatDoor
namespace Go.Proofs.YtjpokekbjmdgmaaGreatDoor
open Go Go.Ab Ni Hd
def frm (now : List Int) : Nat := if h : 0 < now.length then (now[now.length - 1]).toNat + 1 else 0
end Go.Proofs.YtjpokekbjmdgmaaGreatDoor
namespace Go.Proofs.YtjpokekbjmdgmaaGreatDoor
open Go Go.Ab Ni Hd
instance en67 : EnT Tryz.prog 67 := ⟨Ent.of Tryz.func67 (by kernel_rfl) rfl⟩
theorem okM_ms {r : Rg} {l : List Int} (h : okM r l = true) : msOK r.kinds.length l := by
  refine ⟨List.pairwise_iff_getElem.2 fun i j hi hj hij => ?_, okM_p h⟩
  unfold okM at h; rw [decide_eq_true_eq] at h
  have rise : ∀ d : Nat, (hd : i + d + 1 < l.length) → l[i] < l[i + d + 1] := by
    intro d
    induction d with
    | zero => intro hd; exact (h (i + 1) hd).2 (by omega)
    | succ d ih =>
      intro hd
      have h1 := ih (by omega)
      have h2 := (h (i + (d + 1) + 1) hd).2 (by omega)
      simp only [Nat.add_sub_cancel] at h2
      exact Int.lt_trans h1 h2
  have e : j = i + (j - i - 1) + 1 := by omega
  have := rise (j - i - 1) (by omega)
  simpa only [← e] using this
theorem ms_len {r : Rg} (gB : RgB r) {l : List Int} (h : msOK r.kinds.length l) : l.length ≤ 6 := by
  have h1 := (ms_sub h).length_le
  have h2 := gB.nk
  rw [every_len] at h1; omega
end Go.Proofs.YtjpokekbjmdgmaaGreatDoor
namespace Go.Proofs.YtjpokekbjmdgmaaGreatDoor
open Go Go.Ab Ni Hd
theorem rfindL_pure (r : Rg) (f : List Int) (hl : (f.length : Int) ≤ 9223372036854775807) : APure Tryz.prog 24 [rgA r, ints f] (B (fdOK r f)) := by
  refine ap Tryz.func24 (fun e0 he0 => ?_)
  refine wz 3 ?_
  refine aw_loopk (ι := { k : Nat // k ≤ f.length ∧ ∀ i, (hi : i < f.length) → i < k → inn f[i] (-1) 1000 = true }) [1, 2] (fun i => [(5, I i.1)]) (fun H i => H) (fun i => f.length - i.1) (⟨0, Nat.zero_le _, by omega⟩) ⟨jz, jz, jz, trivial⟩ rfl ?_
  rintro ⟨k, hk, hok⟩
  refine nz ?_
  refine wz 4 ?_
  refine iz (fun c_9 c_9' => ?_) (fun c_9 c_9' => ?_)
  ·have hkl : k < f.length := by omega
   refine wz 4 ?_
   refine kz az (rin_pure _ _ _) ?_
   refine wz 1 ?_
   refine iz (fun c_17 c_17' => ?_) (fun c_17 c_17' => ?_)
   ·refine wz 1 ?_
    exact rz rfl (Less.eq (by rw [fd_bad hkl (by simpa using c_17)]))
   refine wz 3 ?_
   exact ⟨⟨k + 1, by omega, fun i hi h => (by by_cases e : i = k; (subst e; simpa using c_17); exact hok i hi (by omega))⟩, by simp only; omega, Sub.slots ⟨jz, jz, jz, trivial⟩⟩
  obtain rfl : k = f.length := by omega
  have hall : (f.all fun n => inn n (-1) 1000) = true := all_of fun j hj => hok j hj hj
  refine wz 7 ?_
  exact rz rfl (Less.eq (congrArg B (by unfold fdOK; rw [hall, Bool.and_true, Bool.eq_iff_iff]; simp; omega)))
theorem find_any (r : Rg) {f : List Int} (hl : (f.length : Int) ≤ 9223372036854775807) {b : Bool} (h : fdOK r f = b) : APure Tryz.prog 24 [rgA r, ints f] (B b) := by have q := rfindL_pure r f hl; rw [h] at q; exact q
theorem slim_of {r : Rg} {f : List Int} (hr : rgOK r = true) (hd : fdOK r f = true) : f.length ≤ 1000000 := by have h1 := (rgOK_B hr).nk; have h2 := (fdOK_iff.1 hd).1; omega
theorem okM_of {r : Rg} {l : List Int} (h1 : l.Pairwise (· < ·)) (h2 : ∀ x ∈ l, ∃ m : Nat, x = m ∧ m < r.kinds.length) : okM r l = true :=
  okM_yes fun i hi => ⟨by obtain ⟨m, e, hm⟩ := h2 _ (List.getElem_mem hi); rw [msIn_iff, e]; omega, fun q => List.pairwise_iff_getElem.1 h1 (i - 1) i (by omega) hi (by omega)⟩
theorem measL_b {r : Rg} {l : List Int} (hs : shB r = true) (hl : l.length ≤ 1000000) {b : Bool} (h : okM r l = b) : APure Tryz.prog 28 [rgA r, ints l] (B b) := by have q := rmeasures_pure r l (shB_len hs).1 hl; rw [h] at q; exact q
end Go.Proofs.YtjpokekbjmdgmaaGreatDoor
namespace Go.Proofs.YtjpokekbjmdgmaaGreatDoor
open Go Go.Ab Ni Hd
instance en38 : EnT Tryz.prog 38 := ⟨Ent.of Tryz.func38 (by kernel_rfl) rfl⟩
theorem rsooner_pure (a b : List Int) (ha : a.length ≤ 1000000) (hb : b.length ≤ 1000000) : APure Tryz.prog 38 [ints a, ints b] (B (soon a b)) := by
  refine ap Tryz.func38 (fun e0 he0 => ?_)
  refine wz 6 ?_
  refine iz (fun c_10 c_10' => ?_) (fun c_10 c_10' => ?_)
  ·have hne : a.length ≠ b.length := by intro e; exact c_10' (by rw [e])
   refine wz 6 ?_
   exact rz rfl (Less.eq (congrArg B (by rw [soon_len hne, Bool.eq_iff_iff]; simp)))
  have hlen : a.length = b.length := by omega
  refine wz 1 ?_
  refine aw_loopk (ι := { k : Nat // k ≤ a.length ∧ ∀ i, (h1 : i < a.length) → (h2 : i < b.length) → i < k → a[i] = b[i] }) [0, 1] (fun g => [(5, I g.1)]) (fun H g => H) (fun g => a.length - g.1) (⟨0, Nat.zero_le _, by omega⟩) ⟨jz, jz, jz, trivial⟩ rfl ?_
  rintro ⟨k, hk, hok⟩
  refine nz ?_
  refine wz 4 ?_
  refine iz (fun c_19 c_19' => ?_) (fun c_19 c_19' => ?_)
  ·have hkL : k < a.length := by omega
   refine wz 0 ?_
   refine aw_draw 9 mo (by kernel_rfl) ?_
   refine dz 9 ?_
   refine wz 0 ?_
   refine iz (fun c_30 c_30' => ?_) (fun c_30 c_30' => ?_)
   ·have hd := soon_at hlen hkL (by omega) (fun i hi => hok i (by omega) (by omega) hi) (by simpa using c_30)
    refine wz 0 ?_
    refine aw_draw 10 mo (by kernel_rfl) ?_
    refine dz 10 ?_
    refine wz 0 ?_
    exact rz rfl (Less.eq (by rw [hd]))
   refine wz 3 ?_
   exact ⟨⟨k + 1, by omega, fun i h1 h2 h => (by by_cases e : i = k; (subst e; simpa using c_30); exact hok i h1 h2 (by omega))⟩, by simp only; omega, Sub.slots ⟨jz, jz, jz, trivial⟩⟩
  have heq : a = b := same_ext hlen fun i h1 h2 => hok i h1 h2 (by omega)
  refine wz 1 ?_
  exact rz rfl (Less.eq (by subst heq; rw [soon_self]))
theorem soon_b {a b : List Int} (ha : a.length ≤ 1000000) (hb : b.length ≤ 1000000) {c : Bool} (h : soon a b = c) : APure Tryz.prog 38 [ints a, ints b] (B c) := by have q := rsooner_pure a b ha hb; rw [h] at q; exact q
end Go.Proofs.YtjpokekbjmdgmaaGreatDoor
namespace Go.Proofs.YtjpokekbjmdgmaaGreatDoor
open Go Go.Ab Ni Hd
def smK (r : Rg) (f : List Int) (k : Nat) : List Int := nums (fun h => may r h f) k
theorem smK_at {r : Rg} {f : List Int} (h : 1 < (smK r f r.hides.length).length) : ∃ i k : Nat, (smK r f r.hides.length)[0]'(by omega) = i ∧ (smK r f r.hides.length)[1] = k ∧ i < k ∧ k < r.hides.length ∧ may r i f = true ∧ may r k f = true := by
  obtain ⟨i, hi, mi, ei⟩ := mem_nums.1 (List.getElem_mem (show 0 < (smK r f r.hides.length).length by omega))
  obtain ⟨k, hk, mk, ek⟩ := mem_nums.1 (List.getElem_mem h)
  have := List.pairwise_iff_getElem.1 (nums_rising (fun h => may r h f) r.hides.length) 0 1 (by unfold smK at h; omega) h (by omega)
  refine ⟨i, k, ei, ek, ?_, hk, mi, mk⟩
  unfold smK at ei ek
  omega
theorem enough_b {r : Rg} {l : List Int} (hs : shB r = true) (hl : l.length ≤ 1000000) (hr : rgOK r = true) (hm : okM r l = true) {b : Bool} (h : enough r l = b) : APure Tryz.prog 67 [rgA r, ints l] (.tup [B b, I 0]) := by
  have q := enough_ok (shB_len hs).1 (shB_len hs).2.1 (shB_len hs).2.2 hl (show (rgOK r && okM r l) = true by rw [hr, hm]; rfl)
  rw [h] at q; exact q
theorem tk_okM (r : Rg) (f : List Int) : okM r (tk f r.kinds.length) = true := okM_of (nums_rising _ _) fun n hn => by obtain ⟨m, hm, _, e⟩ := mem_nums.1 hn; exact ⟨m, e, hm⟩
theorem ms_okM {r : Rg} {l : List Int} (h : msOK r.kinds.length l) : okM r l = true := okM_of h.1 fun n hn => by have := h.2 n hn; exact ⟨n.toNat, by omega, by omega⟩
theorem lex_bef : ∀ {a b : List Int}, a.length = b.length → lex a b = befB a b
  | [], [], _ => rfl
  | x :: a, y :: b, h => by unfold lex befB; rw [lex_bef (by simpa using h)]
theorem not_soon {a b : List Int} (h : b.length < a.length ∨ (b.length = a.length ∧ befB a b = false)) : soon a b = false := by
  unfold soon
  rcases h with h | ⟨h, e⟩
  · rw [decide_eq_false (by omega), decide_eq_false (by omega)]; rfl
  · rw [decide_eq_false (by omega), lex_bef h.symm, e, Bool.and_false]; rfl
theorem tk_len (f : List Int) (k : Nat) : (tk f k).length ≤ k := nums_len _ _
theorem smK_len (r : Rg) (f : List Int) (k : Nat) : (smK r f k).length ≤ k := nums_len _ _
theorem law18_0 {r : Rg} {f o : List Int}  (hs : shB r = false) (hl : (f.length : Int) ≤ 9223372036854775807) : APure Tryz.prog 18 [rgA r, ints f, ints o] (B true) := by
  refine ap Tryz.func18 (fun e0 he0 => ?_)
  refine wz 3 ?_
  refine kz az (short_f hs) ?_
  refine wz 24 ?_
  refine kz az (known_pure) ?_
  refine wz 1 ?_
  exact rz rfl jz
theorem law18_1 {r : Rg} {f o : List Int} (hs : shB r = true) (hr : rgOK r = false) (hl : (f.length : Int) ≤ 9223372036854775807) : APure Tryz.prog 18 [rgA r, ints f, ints o] (B true) := by
  refine ap Tryz.func18 (fun e0 he0 => ?_)
  refine wz 3 ?_
  refine kz az (short_t hs) ?_
  refine wz 3 ?_
  refine ky az (reg_f hs hr) ?_
  refine wz 20 ?_
  refine kz az (known_pure) ?_
  refine wz 1 ?_
  exact rz rfl jz
theorem law18_2 {r : Rg} {f o : List Int} (hs : shB r = true) (hr : rgOK r = true) (hd : fdOK r f = false) (hl : (f.length : Int) ≤ 9223372036854775807) : APure Tryz.prog 18 [rgA r, ints f, ints o] (B true) := by
  refine ap Tryz.func18 (fun e0 he0 => ?_)
  refine wz 3 ?_
  refine kz az (short_t hs) ?_
  refine wz 3 ?_
  refine ky az (reg_t hs hr) ?_
  refine wz 5 ?_
  refine ky az (find_any r hl hd) ?_
  refine wz 14 ?_
  refine kz az (known_pure) ?_
  refine wz 1 ?_
  exact rz rfl jz
theorem law18_3 {r : Rg} {f o : List Int} (hs : shB r = true) (hr : rgOK r = true) (hd : fdOK r f = true) (ho : ¬ o.length ≤ 10) (hl : (f.length : Int) ≤ 9223372036854775807) : APure Tryz.prog 18 [rgA r, ints f, ints o] (B true) := by
  refine ap Tryz.func18 (fun e0 he0 => ?_)
  refine wz 3 ?_
  refine kz az (short_t hs) ?_
  refine wz 3 ?_
  refine ky az (reg_t hs hr) ?_
  refine wz 5 ?_
  refine ky az (find_any r hl hd) ?_
  refine wz 8 ?_
  refine sz 43 (fun g1_19 g1_19' => ?_) (fun g1_19 g1_19' => ?_)
  ·refine wz 6 ?_
   refine kz az (known_pure) ?_
   refine wz 1 ?_
   exact rz rfl jz
  exfalso
  omega
theorem law18_4 {r : Rg} {f o : List Int} (hs : shB r = true) (hr : rgOK r = true) (hd : fdOK r f = true) (ho : o.length ≤ 10) (hm : okM r o = false) (hl : (f.length : Int) ≤ 9223372036854775807) : APure Tryz.prog 18 [rgA r, ints f, ints o] (B true) := by
  refine ap Tryz.func18 (fun e0 he0 => ?_)
  refine wz 3 ?_
  refine kz az (short_t hs) ?_
  refine wz 3 ?_
  refine ky az (reg_t hs hr) ?_
  refine wz 5 ?_
  refine ky az (find_any r hl hd) ?_
  refine wz 8 ?_
  refine sz 43 (fun g1_19 g1_19' => ?_) (fun g1_19 g1_19' => ?_)
  ·exfalso
   omega
  refine wz 2 ?_
  refine ky az (measL_b hs (by omega) hm) ?_
  refine wz 3 ?_
  refine kz az (known_pure) ?_
  refine wz 1 ?_
  exact rz rfl jz
theorem law18_n {r : Rg} {f o : List Int} (hs : shB r = true) (hr : rgOK r = true) (hd : fdOK r f = true) (ho : o.length ≤ 10) (hm : okM r o = true) (hev : enough r (every r.kinds.length) = false) (hpl : planOf r = none) (heo : enough r o = false) {a b : Nat} (h66 : APure Tryz.prog 66 [rgA r] (.tup [I a, I b, I 0])) (hab : a < b ∧ b < r.hides.length) (hmin : ∀ i k, i < k → k < r.hides.length → mist r (every r.kinds.length) i k = true → a < i ∨ (a = i ∧ b ≤ k)) (hl : (f.length : Int) ≤ 9223372036854775807) : APure Tryz.prog 18 [rgA r, ints f, ints o] (B true) := by
  refine ap Tryz.func18 (fun e0 he0 => ?_)
  refine aw_seq ?_
  have gB := rgOK_B hr
  have hfk := (fdOK_iff.1 hd).1
  have hnk := gB.nk
  have hnh := gB.nh
  refine wz 3 ?_
  refine kz az (short_t hs) ?_
  refine wz 3 ?_
  refine ky az (reg_t hs hr) ?_
  refine wz 5 ?_
  refine ky az (find_any r hl hd) ?_
  refine wz 8 ?_
  refine sz 43 (fun g1_19 g1_19' => ?_) (fun g1_19 g1_19' => ?_)
  ·exfalso
   omega
  refine wz 2 ?_
  refine ky az (measL_b hs (by omega) hm) ?_
  refine vz 6 ?_
  refine sq_nil ?_
  refine aw_block ?_
  refine aw_sub (sub_token 7 1 jz) ?_
  refine aw_loopk (ι := { k : Nat // k ≤ f.length }) [1, 2, 3, 8] (fun i => [(9, I i.1), (7, .own 1 1 ((tk f i.1).map fun x => [I x]))]) (fun H i => H.set 1 (.tok ((tk f i.1).map fun x => [I x]).length)) (fun i => f.length - i.1) (⟨0, Nat.zero_le _⟩) ⟨jz, jz, jz, jz, jz, jz, trivial⟩ rfl ?_
  rintro ⟨k, hk⟩
  refine nz ?_
  have htl := tk_len f k
  refine wz 4 ?_
  refine iz (fun c_53 c_53' => ?_) (fun c_53 c_53' => ?_)
  ·have hkl : k < f.length := by omega
   have hgd : f.getD k 0 = f[k] := getD_at hkl
   refine wz 5 ?_
   refine iz (fun c_60 c_60' => ?_) (fun c_60 c_60' => ?_)
   ·have eS : ((tk f (k + 1)).map fun x => [I x]) = ((tk f k).map fun x => [I x]) ++ [[I k]] := by unfold tk; rw [nums_succ, if_pos (by rw [hgd]; simpa using c_60), List.map_append]; rfl
    refine wz 2 ?_
    refine sq_ev rfl (ev_buildSlice (es := [[_]]) sf28.h rfl rfl rfl rfl) ?_
    first | refine sq_append rfl sf28.h Tryz.underlying28 rfl rfl jz (Nat.succ_pos _) (by simp; omega) (by simp; omega) ?_ | refine sq_append rfl sf28.h Tryz.underlying28 rfl rfl (less_slx _ _) (Nat.succ_pos _) (by simp; omega) (by simp; omega) ?_
    refine wz 4 ?_
    exact ⟨⟨k + 1, by omega⟩, by simp only; omega, sb 2 ⟨jz, Less.eq (by rw [eS] <;> rfl), jz, jz, jz, jz, trivial⟩ (hH := (congrArg (fun n => [_, AObj.tok n]) (congrArg List.length eS.symm)))⟩
   have eS : ((tk f (k + 1)).map fun x => [I x]) = ((tk f k).map fun x => [I x]) := by unfold tk; rw [nums_succ, if_neg (by rw [hgd]; simpa using c_60)]
   refine wz 3 ?_
   exact ⟨⟨k + 1, by omega⟩, by simp only; omega, sb 2 ⟨jz, Less.eq (by rw [eS] <;> rfl), jz, jz, jz, jz, trivial⟩ (hH := (congrArg (fun n => [_, AObj.tok n]) (congrArg List.length eS.symm)))⟩
  obtain rfl : k = f.length := by omega
  refine vz 1 ?_
  refine sq_nil ?_
  refine aw_block ?_
  refine aw_sub (sub_token 8 1 jz) ?_
  refine aw_loopk (ι := { k : Nat // k ≤ r.hides.length }) [1, 2, 3, 7] (fun i => [(10, I i.1), (8, .own 2 1 ((smK r f i.1).map fun x => [I x]))]) (fun H i => H.set 2 (.tok ((smK r f i.1).map fun x => [I x]).length)) (fun i => r.hides.length - i.1) (⟨0, Nat.zero_le _⟩) ⟨jz, jz, jz, jz, jz, jz, trivial⟩ rfl ?_
  rintro ⟨k, hk⟩
  refine nz ?_
  have hsl := smK_len r f k
  refine wz 5 ?_
  refine iz (fun c_69 c_69' => ?_) (fun c_69 c_69' => ?_)
  ·have hkl : k < r.hides.length := by omega
   have hok : okF r k f = true := by unfold okF; rw [hr, hd, hdIn_iff.2 (by omega)]; rfl
   refine wz 3 ?_
   refine kz az (fewest_ok (shB_len hs).1 (shB_len hs).2.1 (shB_len hs).2.2 (slim_of hr hd) hok) ?_
   refine wz 12 ?_
   refine iz (fun c_84 c_84' => ?_) (fun c_84 c_84' => ?_)
   ·have eM : ((smK r f (k + 1)).map fun x => [I x]) = ((smK r f k).map fun x => [I x]) ++ [[I k]] := by unfold smK; rw [nums_succ, if_pos (show may r k f = true from c_84), List.map_append]; rfl
    refine wz 2 ?_
    refine sq_ev rfl (ev_buildSlice (es := [[_]]) sf28.h rfl rfl rfl rfl) ?_
    first | refine sq_append rfl sf28.h Tryz.underlying28 rfl rfl jz (Nat.succ_pos _) (by simp; omega) (by simp; omega) ?_ | refine sq_append rfl sf28.h Tryz.underlying28 rfl rfl (less_slx _ _) (Nat.succ_pos _) (by simp; omega) (by simp; omega) ?_
    refine wz 4 ?_
    exact ⟨⟨k + 1, by omega⟩, by simp only; omega, sb 3 ⟨jz, Less.eq (by rw [eM] <;> rfl), jz, jz, jz, jz, trivial⟩ (hH := (congrArg (fun n => [_, _, AObj.tok n]) (congrArg List.length eM.symm)))⟩
   have eM : ((smK r f (k + 1)).map fun x => [I x]) = ((smK r f k).map fun x => [I x]) := by unfold smK; rw [nums_succ, if_neg (by unfold may; rw [c_84]; simp)]
   refine wz 3 ?_
   exact ⟨⟨k + 1, by omega⟩, by simp only; omega, sb 3 ⟨jz, Less.eq (by rw [eM] <;> rfl), jz, jz, jz, jz, trivial⟩ (hH := (congrArg (fun n => [_, _, AObj.tok n]) (congrArg List.length eM.symm)))⟩
  obtain rfl : k = r.hides.length := by omega
  have hse := smK_at (r := r) (f := f)
  have htk : tk f f.length = tk f r.kinds.length := by rw [hfk]
  refine wz 1 ?_
  refine kz az (h66) ?_
  refine wz 9 ?_
  refine sq_ev rfl (ev_call en67.h jz (enough_b hs (by omega) hr (by rw [hfk]; exact tk_okM r f) rfl) ⟨jz, less_own _ _ _, trivial⟩) ?_
  refine wz 7 ?_
  refine kz az (enough_b hs (by omega) hr hm heo) ?_
  refine wz 6 ?_
  refine kz az (plan_no (shB_len hs).1 (shB_len hs).2.1 (shB_len hs).2.2 hr hpl) ?_
  refine wz 39 ?_
  refine sz 145 (fun g21_33 g21_33' => ?_) (fun g21_33 g21_33' => ?_)
  ·refine wz 4 ?_
   refine sz 149 (fun g21_37 g21_37' => ?_) (fun g21_37 g21_37' => ?_)
   ·exfalso
    simp at *
    obtain ⟨i, k, e0, e1, hik, hkl, mi, mk⟩ := hse (by omega)
    have := told_enough gB hik hkl mi mk
    rw [← htk] at this
    simp_all
   refine wz 13 ?_
   refine sz 161 (fun g23_5 g23_5' => ?_) (fun g23_5 g23_5' => ?_)
   ·exfalso
    omega
   refine wz 5 ?_
   refine sz 166 (fun g23_10 g23_10' => ?_) (fun g23_10 g23_10' => ?_)
   ·exfalso
    omega
   refine wz 7 ?_
   refine iz (fun c_173 c_173' => ?_) (fun c_173 c_173' => ?_)
   ·exfalso
    omega
   refine wz 4 ?_
   refine sz 177 (fun g25_3 g25_3' => ?_) (fun g25_3 g25_3' => ?_)
   ·refine wz 7 ?_
    refine sz 184 (fun g25_10 g25_10' => ?_) (fun g25_10 g25_10' => ?_)
    ·obtain ⟨i, k, e0, e1, hik, hkl, mi, mk⟩ := hse (by omega)
     have hmi := told_two gB mi mk
     rw [tk_all (by rw [← htk]; omega)] at hmi
     have hmn := hmin i k hik hkl hmi
     refine wz 5 ?_
     refine sq_yes rfl rfl jz rfl (ev_index_map (k := 0) (xs := smK r f r.hides.length) (f := fun x => [I x]) sl28.h (less_own _ _ _) jz rfl (by omega)) ?_
     refine wz 4 ?_
     refine sz 194 (fun g25_20 g25_20' => ?_) (fun g25_20 g25_20' => ?_)
     ·exfalso
      omega
     refine wz 2 ?_
     refine sq_yes rfl rfl (less_b g25_20) rfl (ev_index_map (k := 0) (xs := smK r f r.hides.length) (f := fun x => [I x]) sl28.h (less_own _ _ _) jz rfl (by omega)) ?_
     refine wz 3 ?_
     refine sz 200 (fun g25_26 g25_26' => ?_) (fun g25_26 g25_26' => ?_)
     ·refine wz 2 ?_
      refine sq_yes rfl rfl (less_b g25_26) rfl (ev_index_map (k := 1) (xs := smK r f r.hides.length) (f := fun x => [I x]) sl28.h (less_own _ _ _) jz rfl (by omega)) ?_
      refine wz 5 ?_
      refine iz (fun c_208 c_208' => ?_) (fun c_208 c_208' => ?_)
      ·exfalso
       simp at *
       omega
      refine wz 3 ?_
      refine kz az (known_pure) ?_
      refine wz 1 ?_
      exact rz rfl jz
     refine wz 12 ?_
     refine kz az (known_pure) ?_
     refine wz 1 ?_
     exact rz rfl jz
    refine wz 28 ?_
    refine kz az (known_pure) ?_
    refine wz 1 ?_
    exact rz rfl jz
   exfalso
   omega
  refine wz 17 ?_
  refine sz 161 (fun g23_5 g23_5' => ?_) (fun g23_5 g23_5' => ?_)
  ·exfalso
   omega
  refine wz 5 ?_
  refine sz 166 (fun g23_10 g23_10' => ?_) (fun g23_10 g23_10' => ?_)
  ·exfalso
   omega
  refine wz 7 ?_
  refine iz (fun c_173 c_173' => ?_) (fun c_173 c_173' => ?_)
  ·exfalso
   omega
  refine wz 4 ?_
  refine sz 177 (fun g25_3 g25_3' => ?_) (fun g25_3 g25_3' => ?_)
  ·exfalso
   omega
  refine wz 35 ?_
  refine kz az (known_pure) ?_
  refine wz 1 ?_
  exact rz rfl jz
theorem law18_p {r : Rg} {f o : List Int} (hs : shB r = true) (hr : rgOK r = true) (hd : fdOK r f = true) (ho : o.length ≤ 10) (hm : okM r o = true) (hev : enough r (every r.kinds.length) = true) {l : List Int} (hpl : planOf r = some l) (hms : msOK r.kinds.length l) (hel : enough r l = true) (hso : enough r o = true → soon o l = false) (hl : (f.length : Int) ≤ 9223372036854775807) : APure Tryz.prog 18 [rgA r, ints f, ints o] (B true) := by
  refine ap Tryz.func18 (fun e0 he0 => ?_)
  refine aw_seq ?_
  have gB := rgOK_B hr
  have hfk := (fdOK_iff.1 hd).1
  have hnk := gB.nk
  have hnh := gB.nh
  have hll := ms_len gB hms
  refine wz 3 ?_
  refine kz az (short_t hs) ?_
  refine wz 3 ?_
  refine ky az (reg_t hs hr) ?_
  refine wz 5 ?_
  refine ky az (find_any r hl hd) ?_
  refine wz 8 ?_
  refine sz 43 (fun g1_19 g1_19' => ?_) (fun g1_19 g1_19' => ?_)
  ·exfalso
   omega
  refine wz 2 ?_
  refine ky az (measL_b hs (by omega) hm) ?_
  refine vz 6 ?_
  refine sq_nil ?_
  refine aw_block ?_
  refine aw_sub (sub_token 7 1 jz) ?_
  refine aw_loopk (ι := { k : Nat // k ≤ f.length }) [1, 2, 3, 8] (fun i => [(9, I i.1), (7, .own 1 1 ((tk f i.1).map fun x => [I x]))]) (fun H i => H.set 1 (.tok ((tk f i.1).map fun x => [I x]).length)) (fun i => f.length - i.1) (⟨0, Nat.zero_le _⟩) ⟨jz, jz, jz, jz, jz, jz, trivial⟩ rfl ?_
  rintro ⟨k, hk⟩
  refine nz ?_
  have htl := tk_len f k
  refine wz 4 ?_
  refine iz (fun c_53 c_53' => ?_) (fun c_53 c_53' => ?_)
  ·have hkl : k < f.length := by omega
   have hgd : f.getD k 0 = f[k] := getD_at hkl
   refine wz 5 ?_
   refine iz (fun c_60 c_60' => ?_) (fun c_60 c_60' => ?_)
   ·have eS : ((tk f (k + 1)).map fun x => [I x]) = ((tk f k).map fun x => [I x]) ++ [[I k]] := by unfold tk; rw [nums_succ, if_pos (by rw [hgd]; simpa using c_60), List.map_append]; rfl
    refine wz 2 ?_
    refine sq_ev rfl (ev_buildSlice (es := [[_]]) sf28.h rfl rfl rfl rfl) ?_
    first | refine sq_append rfl sf28.h Tryz.underlying28 rfl rfl jz (Nat.succ_pos _) (by simp; omega) (by simp; omega) ?_ | refine sq_append rfl sf28.h Tryz.underlying28 rfl rfl (less_slx _ _) (Nat.succ_pos _) (by simp; omega) (by simp; omega) ?_
    refine wz 4 ?_
    exact ⟨⟨k + 1, by omega⟩, by simp only; omega, sb 2 ⟨jz, Less.eq (by rw [eS] <;> rfl), jz, jz, jz, jz, trivial⟩ (hH := (congrArg (fun n => [_, AObj.tok n]) (congrArg List.length eS.symm)))⟩
   have eS : ((tk f (k + 1)).map fun x => [I x]) = ((tk f k).map fun x => [I x]) := by unfold tk; rw [nums_succ, if_neg (by rw [hgd]; simpa using c_60)]
   refine wz 3 ?_
   exact ⟨⟨k + 1, by omega⟩, by simp only; omega, sb 2 ⟨jz, Less.eq (by rw [eS] <;> rfl), jz, jz, jz, jz, trivial⟩ (hH := (congrArg (fun n => [_, AObj.tok n]) (congrArg List.length eS.symm)))⟩
  obtain rfl : k = f.length := by omega
  refine vz 1 ?_
  refine sq_nil ?_
  refine aw_block ?_
  refine aw_sub (sub_token 8 1 jz) ?_
  refine aw_loopk (ι := { k : Nat // k ≤ r.hides.length }) [1, 2, 3, 7] (fun i => [(10, I i.1), (8, .own 2 1 ((smK r f i.1).map fun x => [I x]))]) (fun H i => H.set 2 (.tok ((smK r f i.1).map fun x => [I x]).length)) (fun i => r.hides.length - i.1) (⟨0, Nat.zero_le _⟩) ⟨jz, jz, jz, jz, jz, jz, trivial⟩ rfl ?_
  rintro ⟨k, hk⟩
  refine nz ?_
  have hsl := smK_len r f k
  refine wz 5 ?_
  refine iz (fun c_69 c_69' => ?_) (fun c_69 c_69' => ?_)
  ·have hkl : k < r.hides.length := by omega
   have hok : okF r k f = true := by unfold okF; rw [hr, hd, hdIn_iff.2 (by omega)]; rfl
   refine wz 3 ?_
   refine kz az (fewest_ok (shB_len hs).1 (shB_len hs).2.1 (shB_len hs).2.2 (slim_of hr hd) hok) ?_
   refine wz 12 ?_
   refine iz (fun c_84 c_84' => ?_) (fun c_84 c_84' => ?_)
   ·have eM : ((smK r f (k + 1)).map fun x => [I x]) = ((smK r f k).map fun x => [I x]) ++ [[I k]] := by unfold smK; rw [nums_succ, if_pos (show may r k f = true from c_84), List.map_append]; rfl
    refine wz 2 ?_
    refine sq_ev rfl (ev_buildSlice (es := [[_]]) sf28.h rfl rfl rfl rfl) ?_
    first | refine sq_append rfl sf28.h Tryz.underlying28 rfl rfl jz (Nat.succ_pos _) (by simp; omega) (by simp; omega) ?_ | refine sq_append rfl sf28.h Tryz.underlying28 rfl rfl (less_slx _ _) (Nat.succ_pos _) (by simp; omega) (by simp; omega) ?_
    refine wz 4 ?_
    exact ⟨⟨k + 1, by omega⟩, by simp only; omega, sb 3 ⟨jz, Less.eq (by rw [eM] <;> rfl), jz, jz, jz, jz, trivial⟩ (hH := (congrArg (fun n => [_, _, AObj.tok n]) (congrArg List.length eM.symm)))⟩
   have eM : ((smK r f (k + 1)).map fun x => [I x]) = ((smK r f k).map fun x => [I x]) := by unfold smK; rw [nums_succ, if_neg (by unfold may; rw [c_84]; simp)]
   refine wz 3 ?_
   exact ⟨⟨k + 1, by omega⟩, by simp only; omega, sb 3 ⟨jz, Less.eq (by rw [eM] <;> rfl), jz, jz, jz, jz, trivial⟩ (hH := (congrArg (fun n => [_, _, AObj.tok n]) (congrArg List.length eM.symm)))⟩
  obtain rfl : k = r.hides.length := by omega
  have hse := smK_at (r := r) (f := f)
  have htk : tk f f.length = tk f r.kinds.length := by rw [hfk]
  refine wz 1 ?_
  refine kz az (ttwins_no (shB_len hs).1 (shB_len hs).2.1 (shB_len hs).2.2 hr hev) ?_
  refine wz 9 ?_
  refine sq_ev rfl (ev_call en67.h jz (enough_b hs (by omega) hr (by rw [hfk]; exact tk_okM r f) rfl) ⟨jz, less_own _ _ _, trivial⟩) ?_
  refine wz 7 ?_
  refine kz az (enough_b hs (by omega) hr hm rfl) ?_
  refine wz 6 ?_
  refine kz az (plan_ok (shB_len hs).1 (shB_len hs).2.1 (shB_len hs).2.2 hr hpl) ?_
  refine wz 39 ?_
  refine sz 145 (fun g21_33 g21_33' => ?_) (fun g21_33 g21_33' => ?_)
  ·refine wz 4 ?_
   refine sz 149 (fun g21_37 g21_37' => ?_) (fun g21_37 g21_37' => ?_)
   ·exfalso
    simp at *
    obtain ⟨i, k, e0, e1, hik, hkl, mi, mk⟩ := hse (by omega)
    have := told_enough gB hik hkl mi mk
    rw [← htk] at this
    simp_all
   refine wz 2 ?_
   refine sz 151 (fun g21_39 g21_39' => ?_) (fun g21_39 g21_39' => ?_)
   ·refine wz 4 ?_
    refine iz (fun c_155 c_155' => ?_) (fun c_155 c_155' => ?_)
    ·exfalso
     simp at *
    refine wz 23 ?_
    refine sz 177 (fun g25_3 g25_3' => ?_) (fun g25_3 g25_3' => ?_)
    ·refine wz 7 ?_
     refine sz 184 (fun g25_10 g25_10' => ?_) (fun g25_10 g25_10' => ?_)
     ·exfalso
      obtain ⟨i, k, e0, e1, hik, hkl, mi, mk⟩ := hse (by simp at *; omega)
      have hmi := told_two gB mi mk
      rw [tk_all (by rw [← htk]; simp at *; omega), enough_iff.1 hev i k hik hkl] at hmi
      cases hmi
     refine wz 30 ?_
     refine kz az (enough_b hs (by omega) hr (ms_okM hms) hel) ?_
     refine wz 7 ?_
     refine kz az (measL_b hs (by omega) (ms_okM hms)) ?_
     refine wz 11 ?_
     refine sz 231 (fun g30_13 g30_13' => ?_) (fun g30_13 g30_13' => ?_)
     ·refine wz 7 ?_
      refine ky az (known_pure) ?_
      refine wz 2 ?_
      exact rz rfl jz
     refine wz 2 ?_
     refine ky az (soon_b (by omega) (by omega) (hso (by simpa using g30_13))) ?_
     refine wz 4 ?_
     refine ky az (known_pure) ?_
     refine wz 2 ?_
     exact rz rfl jz
    exfalso
    omega
   refine wz 28 ?_
   refine sz 177 (fun g25_3 g25_3' => ?_) (fun g25_3 g25_3' => ?_)
   ·refine wz 7 ?_
    refine sz 184 (fun g25_10 g25_10' => ?_) (fun g25_10 g25_10' => ?_)
    ·exfalso
     obtain ⟨i, k, e0, e1, hik, hkl, mi, mk⟩ := hse (by simp at *; omega)
     have hmi := told_two gB mi mk
     rw [tk_all (by rw [← htk]; simp at *; omega), enough_iff.1 hev i k hik hkl] at hmi
     cases hmi
    refine wz 30 ?_
    refine kz az (enough_b hs (by omega) hr (ms_okM hms) hel) ?_
    refine wz 7 ?_
    refine kz az (measL_b hs (by omega) (ms_okM hms)) ?_
    refine wz 11 ?_
    refine sz 231 (fun g30_13 g30_13' => ?_) (fun g30_13 g30_13' => ?_)
    ·refine wz 7 ?_
     refine ky az (known_pure) ?_
     refine wz 2 ?_
     exact rz rfl jz
    refine wz 2 ?_
    refine ky az (soon_b (by omega) (by omega) (hso (by simpa using g30_13))) ?_
    refine wz 4 ?_
    refine ky az (known_pure) ?_
    refine wz 2 ?_
    exact rz rfl jz
   exfalso
   omega
  refine wz 6 ?_
  refine sz 151 (fun g21_39 g21_39' => ?_) (fun g21_39 g21_39' => ?_)
  ·refine wz 4 ?_
   refine iz (fun c_155 c_155' => ?_) (fun c_155 c_155' => ?_)
   ·exfalso
    simp at *
   refine wz 23 ?_
   refine sz 177 (fun g25_3 g25_3' => ?_) (fun g25_3 g25_3' => ?_)
   ·exfalso
    omega
   refine wz 37 ?_
   refine kz az (enough_b hs (by omega) hr (ms_okM hms) hel) ?_
   refine wz 7 ?_
   refine kz az (measL_b hs (by omega) (ms_okM hms)) ?_
   refine wz 11 ?_
   refine sz 231 (fun g30_13 g30_13' => ?_) (fun g30_13 g30_13' => ?_)
   ·refine wz 7 ?_
    refine ky az (known_pure) ?_
    refine wz 2 ?_
    exact rz rfl jz
   refine wz 2 ?_
   refine ky az (soon_b (by omega) (by omega) (hso (by simpa using g30_13))) ?_
   refine wz 4 ?_
   refine ky az (known_pure) ?_
   refine wz 2 ?_
   exact rz rfl jz
  refine wz 28 ?_
  refine sz 177 (fun g25_3 g25_3' => ?_) (fun g25_3 g25_3' => ?_)
  ·exfalso
   omega
  refine wz 37 ?_
  refine kz az (enough_b hs (by omega) hr (ms_okM hms) hel) ?_
  refine wz 7 ?_
  refine kz az (measL_b hs (by omega) (ms_okM hms)) ?_
  refine wz 11 ?_
  refine sz 231 (fun g30_13 g30_13' => ?_) (fun g30_13 g30_13' => ?_)
  ·refine wz 7 ?_
   refine ky az (known_pure) ?_
   refine wz 2 ?_
   exact rz rfl jz
  refine wz 2 ?_
  refine ky az (soon_b (by omega) (by omega) (hso (by simpa using g30_13))) ?_
  refine wz 4 ?_
  refine ky az (known_pure) ?_
  refine wz 2 ?_
  exact rz rfl jz
/-- **HideTold.** -/
theorem law18 (r : Rg) (f : List Int) (hl : (f.length : Int) ≤ 9223372036854775807) (o : List Int) : APure Tryz.prog 18 [rgA r, ints f, ints o] (B true) := by
  cases hs : shB r with
  | false => exact law18_0 hs hl
  | true =>
    cases hr : rgOK r with
    | false => exact law18_1 hs hr hl
    | true =>
      cases hd : fdOK r f with
      | false => exact law18_2 hs hr hd hl
      | true =>
        by_cases ho : o.length ≤ 10
        · cases hm : okM r o with
          | false => exact law18_4 hs hr hd ho hm hl
          | true =>
            have hmo := okM_ms hm
            cases hp : planOf r with
            | none =>
              have hev : enough r (every r.kinds.length) = false := by rw [planOf_iff, hp]; rfl
              have q := ttwins_ok (shB_len hs).1 (shB_len hs).2.1 (shB_len hs).2.2 hr hev
              obtain ⟨p, hp2⟩ : ∃ p, twinsOf r (every r.kinds.length) = some p := by
                unfold enough at hev
                cases h : twinsOf r (every r.kinds.length) with
                | none => rw [h] at hev; cases hev
                | some p => exact ⟨p, rfl⟩
              have e : twA r (every r.kinds.length) = p := by unfold twA; rw [hp2]
              rw [e] at q
              have ts := twins_some hp2
              exact law18_n hs hr hd ho hm hev hp (planOf_none hp o hmo) q ts.1 ts.2.2 hl
            | some l =>
              have hev : enough r (every r.kinds.length) = true := by rw [planOf_iff, hp]; rfl
              have ps := planOf_some hp
              exact law18_p hs hr hd ho hm hev hp ps.1 ps.2.1 (fun q => not_soon (ps.2.2 o hmo q)) hl
        · exact law18_3 hs hr hd ho hl
end Go.Proofs.YtjpokekbjmdgmaaGreatDoor
