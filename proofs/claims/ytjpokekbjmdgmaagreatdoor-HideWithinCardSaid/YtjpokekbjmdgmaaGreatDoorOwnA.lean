/-
  A part of the proof: conditions: none beyond each theorem's own.
-/
import Derived.Test.YtjpokekbjmdgmaaGreatDoorLogicA
import Derived.Test.YtjpokekbjmdgmaaGreatDoorLogicD
import Derived.Deep.Slices
import Derived.OpenShut
import Derived.Carry
import Derived.Test.YtjpokekbjmdgmaaGreatDoorLogicC
import Derived.IntWalk
import Derived.Test.YtjpokekbjmdgmaaGreatDoorSpecA
import Derived.Test.YtjpokekbjmdgmaaGreatDoorProg
import Derived.KernelRfl
import Derived.Lib.LaidTab
import Derived.Lib.ItoaNum
import Derived.Test.YtjpokekbjmdgmaaGreatDoorWalkB
import Derived.Test.YtjpokekbjmdgmaaGreatDoorWalkC
import Derived.Test.YtjpokekbjmdgmaaGreatDoorWalkE
import Derived.Test.YtjpokekbjmdgmaaGreatDoorLogicB
import Derived.Test.YtjpokekbjmdgmaaGreatDoorShelf
import Derived.Test.YtjpokekbjmdgmaaGreatDoorWalkA
import Derived.Test.YtjpokekbjmdgmaaGreatDoorWalkD
import Derived.Test.YtjpokekbjmdgmaaGreatDoorRow
set_option linter.all false
set_option maxRecDepth 100000
set_option maxHeartbeats 8000000
namespace Go.Ab
variable [Tabs]
theorem FW_room (r : Option Nat) (n : Nat) : (FW r).room n := fun _ h => by simp [FW] at h
variable {c : Ctx} {Q : AExit → St → Prop} {s : St}
end Go.Ab
namespace Go.Ab
open Go.ChangeShapes Go.WideShapes
variable [Tabs]
theorem env0_ok {w : World} (h : Tabs.is w) (hb : ∀ b, Tabs.blk b → b < w.heap.size) : EnvOK (env0 w) :=
  ⟨fun b hb => by have hb' : w.heap.size ≤ b := hb
                  have : w.heap[b]? = none := by simpa using hb'
                  simp [env0, this], fun i o h => by simp [env0] at h, fun i j b hi => by simp [env0] at hi, fun i b hi => by simp [env0] at hi, h, fun b hk => ⟨hb b hk, fun i hi => by simp [env0] at hi⟩⟩
section
variable {H : Type} {enc : TypeId × Value → H} {P : Program} {w : World} {base : Nat} {spare : Nat → Bool} {held : Bool}
theorem trodAll_stays (hl : laidOutB P = true) {W W' : World} (hheap : ∀ b, b < W.heap.size → W'.heap[b]? = W.heap[b]?) {sp' : Nat → Bool} :
    ∀ {ts : List TypeId} {vs : List Value} {ds : List (DataW H)} {ps : List MemPlace}, (∀ t ∈ ts, P.readableRec t = true ∧ t < P.types.size) → DataW.TrodAll enc P W base (fun _ => true) true ts vs ds ps → (∀ p ∈ ps, p.block < W.heap.size) → (∀ p ∈ ps, sp' p.block = true) →
      DataW.TrodAll enc P W' base sp' true ts vs ds ps
  | [], _, _, _, _, h, _, _ => by
    obtain ⟨rfl, rfl, rfl⟩ := trodAll_nil h
    exact trodAll_mk0
  | t :: ts, _, _, _, ht, h, hlt, hs => by
    obtain ⟨v, vs1, d, ds1, a, b, rfl, rfl, rfl, h1, h2⟩ := trodAll_cons h
    refine trodAll_cons_mk (WideElems.Trod_stays hl (ht t (by simp)).1 (ht t (by simp)).2 h1 (fun p hp => ?_) (fun p hp => hs p (by simp [hp]))) (trodAll_stays hl hheap (fun u hu => ht u (List.mem_cons_of_mem _ hu)) h2 (fun p hp => hlt p (by simp [hp])) (fun p hp => hs p (by simp [hp])))
    have hb := hheap p.block (hlt p (by simp [hp]))
    cases p with
    | cell b o => exact cell?_of_heap hb
    | map b => exact hb
/-- **What a law's row asks of a call that returns true and leaves what it met.** -/
theorem post_true {f : Func} {s : ChangeSpec} {W W' : World} {args : Array Value} {ds gs : List (DataW H)} {before : List MemPlace} {tb : TypeId} (hl : laidOutB P = true) (hread : ∀ t ∈ f.params.toList, P.readableRec t = true ∧ t < P.types.size)
    (hres : f.resultTypes = #[tb]) (htb : P.underlying tb = some .bool) (hvars : s.vars = []) (hspec : (s.fn H ds).results = [.lit (.bool true)] ∧ (s.fn H ds).args = ds ∧ (s.fn H ds).vars = [])
    (hW : DataW.Whole enc P f.params.toList s.vars false W args.toList ds gs before) (hheap : ∀ b, b < W.heap.size → W'.heap[b]? = W.heap[b]?) (hst : Still W W') :
    s.post enc P f false true false false W args (.bool true) W' := by
  have hlt := hW.lt
  have hW0 := hW
  obtain ⟨p, q, h1, h2, rfl, _, _⟩ := hW
  rw [hvars] at h2
  obtain ⟨rfl, rfl⟩ := trodVars_none h2
  simp only [List.append_nil] at hlt
  obtain ⟨e1, e2, e3⟩ := hspec
  refine ⟨ds, [], p ++ [], [], p, [], hW0, ?_, ?_, ?_, ?_, fun h => by cases h⟩
  · rw [List.append_nil, e1, hres]
    exact trodAll_cons_mk (RowKit.shut_bool htb _) trodAll_mk0
  · rw [List.append_nil, e2]
    exact trodAll_stays hl hheap hread h1 hlt (fun p hp => by simpa using hlt p hp)
  · rw [List.append_nil, e3, hvars]; rfl
  · refine ⟨hst.1, hst.2, fun i hi => ?_⟩
    rw [hheap i hi]
    split <;> simp_all
theorem APure.law {f : FuncId} {args : List AV} {W : World} {vs : Array Value} (hc : APure P f args (.raw (.bool true))) (ht : Tabs.is W) (hb : ∀ b, Tabs.blk b → b < W.heap.size) (hr : RepL (env0 W) args vs.toList) :
    Calls P f vs W fun x W' => x = .returned (.bool true) ∧ (∀ b, b < W.heap.size → W'.heap[b]? = W.heap[b]?) ∧ Still W W' := by
  refine ((hc (env0 W) vs (env0_ok ht hb) hr).calls (fun k => FW_room none k)).mono ?_
  rintro x w' ⟨u, e', rfl, rfl, hx, hu⟩
  rw [Rep] at hu; subst hu
  exact ⟨rfl, hx.heap, hx.still⟩
end
end Go.Ab
namespace Go.Ab
variable [Tabs]
section seq
variable {c : Ctx} {ops : Array Oper} {Q : AExit → St → Prop} {rest : List Oper} {s : St} {i : Nat}
variable {d : Option Tmp} {op : Op} {t : TypeId} {p : String} {af : Array Edge}
end seq
section cond
variable {c : Ctx} {Q : AExit → St → Prop} {s : St} {x : Operand} {y z : Code}
end cond
section split
variable {c : Ctx} {ops : Array Oper} {Q : AExit → St → Prop} {s : St} {i : Nat} {l : List Oper}
end split
section draw
variable {c : Ctx} {H0 : List AObj} {ops : Array Oper} {Q : AExit → St → Prop} {m i : Nat} {s : St} {rest : List Oper}
variable {d : Option Tmp} {op : Op} {t : TypeId} {p : String} {af : Array Edge}
theorem dn0 {j u : Nat} (hj : gslot ops j = some u) (ht : Nat.blt u c.nt = true) (hb : Less (sget s.sl u) (.raw (.bool true))) (hd : dOK c.nt d = true) (k : DR c H0 ops Q m (i + 1) rest (s.put d (.raw (.tuple #[])))) :
    DR c H0 ops Q m i (⟨d, op, t, p, af, some (j, false)⟩ :: rest) s := dr_no hj ht hb rfl hd k
theorem du {j u : Nat} {want : Bool} (hj : gslot ops j = some u) (ht : Nat.blt u c.nt = true) (hb : Less (sget s.sl u) (.raw (.tuple #[]))) (hd : dOK c.nt d = true) (k : DR c H0 ops Q m (i + 1) rest (s.put d (.raw (.tuple #[])))) :
    DR c H0 ops Q m i (⟨d, op, t, p, af, some (j, want)⟩ :: rest) s := dr_no hj ht hb rfl hd k
end draw
section ex
variable {c : Ctx} {Q : AExit → St → Prop} {K : St → Prop} {s : St} {id j : Nat}
end ex
section app
variable {c : Ctx} {ops : Array Oper} {Q : AExit → St → Prop} {s : St} {i : Nat} {o : Oper} {l m : List Oper} {H0 : List AObj} {k : Nat}
end app
theorem W (n : Nat) {p q : Prop} (k : q) (h : Cnt n → (Unit → q) → p := by
  intro hc hk
  repeat (
    replace hc := Cnt.pred hc
    repeat (with_reducible (first | refine xn ?_ | refine sa ?_ | refine sa0 ?_ | refine aw_seq ?_ | refine aw_region ?_ | refine sq_nil ?_ | refine aw_skip ?_ | refine aw_block ?_ | refine bn ?_ | refine aw_exit ?_ | refine xe ?_ | refine be ?_ | refine bo ?_ | refine gn ?_ | refine ge ?_ | refine xr ?_ | refine br ?_ | refine gr ?_ | refine aw_label ?_ | refine aw_scope ?_))
    first
    | ((with_reducible apply sq_ev); exact rfl; exact EV)
    | ((with_reducible apply sn1); exact rfl; exact rfl; exact GD J; exact rfl)
    | ((with_reducible apply sn0); exact rfl; exact rfl; exact GD J; exact rfl)
    | ((with_reducible apply sq_yes); exact rfl; exact rfl; exact GD J; exact rfl; exact EV)
    | ((with_reducible apply su); exact rfl; exact rfl; exact J; exact rfl)
    | ((with_reducible apply sq_box); exact rfl; exact J; exact rfl)
    | ((with_reducible apply sq_alloc); exact rfl; exact ZeO.h)
    | ((with_reducible apply sq_store); exact rfl; exact J; exact J; exact rfl; exact rfl; exact TyF.h; exact rfl; exact rfl)
    | ((with_reducible refine aw_true ?_ ?_); exact GD J)
    | ((with_reducible refine aw_false ?_ ?_); exact GD J))
  repeat (with_reducible (first | refine xn ?_ | refine sa ?_ | refine sa0 ?_ | refine aw_seq ?_ | refine aw_region ?_ | refine sq_nil ?_ | refine aw_skip ?_ | refine aw_block ?_ | refine bn ?_ | refine aw_exit ?_ | refine xe ?_ | refine be ?_ | refine bo ?_ | refine gn ?_ | refine ge ?_ | refine xr ?_ | refine br ?_ | refine gr ?_ | refine aw_label ?_ | refine aw_scope ?_ | refine aw_ret ?_))
  exact hk ()) : p := h ⟨⟩ fun _ => k
end Go.Ab
namespace Hd
open Ni (inn)
theorem mnL_le {l : List Int} {x : Int} (h : x ∈ l) : mnL l ≤ x := by
  cases l with
  | nil => cases h
  | cons y l =>
    obtain ⟨h1, h2, _⟩ := fmin_spec l y
    rcases List.mem_cons.1 h with rfl | h
    · exact h1
    · exact h2 x h
theorem mxL_ge {l : List Int} {x : Int} (h : x ∈ l) : x ≤ mxL l := by
  cases l with
  | nil => cases h
  | cons y l =>
    obtain ⟨h1, h2, _⟩ := fmax_spec l y
    rcases List.mem_cons.1 h with rfl | h
    · exact h1
    · exact h2 x h
def far (n step : Int) (d : Nat) : Int := max 0 (n - d * step)
theorem far_0 {n step : Int} (h : 0 ≤ n) : far n step 0 = n := by unfold far; simp; omega
theorem far_succ {n step : Int} (h : 1 ≤ step) (d : Nat) : far n step (d + 1) = max 0 (far n step d - step) := by
  unfold far
  rw [show ((d + 1 : Nat) : Int) * step = d * step + step by rw [Int.natCast_add, Int.add_mul]; simp]
  omega
theorem days_of {rate near step : Int} {d : Nat} (hs : 1 ≤ step) (hn : 0 ≤ near) (h1 : far (max (rate - 1000) (1000 - rate)) step d ≤ near) (h2 : d = 0 ∨ near < far (max (rate - 1000) (1000 - rate)) step (d - 1)) : days rate near step = d := by
  unfold days
  obtain ⟨n, hnn⟩ : ∃ n, n = max (rate - 1000) (1000 - rate) := ⟨_, rfl⟩
  rw [← hnn] at h1 h2 ⊢
  unfold far at h1 h2
  have hd : n - d * step ≤ near := by omega
  rcases h2 with rfl | h2
  · simp only [Int.natCast_zero, Int.zero_mul, Int.sub_zero] at hd
    have : (n - near + step - 1).tdiv step ≤ 0 := by
      rcases Int.lt_or_le (n - near + step - 1) 0 with k | k
      · have h3 : (-(n - near + step - 1)).tdiv step = (-(n - near + step - 1)) / step := Int.tdiv_eq_ediv_of_nonneg (by omega)
        have h4 := Int.ediv_nonneg (show 0 ≤ -(n - near + step - 1) by omega) (show 0 ≤ step by omega)
        rw [Int.neg_tdiv] at h3; omega
      · rw [Int.tdiv_eq_zero_of_lt k (by omega)]; exact Int.le_refl _
    simp only [Int.natCast_zero]
    omega
  · obtain ⟨e, rfl⟩ : ∃ e, d = e + 1 := ⟨d - 1, by
      rcases Nat.eq_zero_or_pos d with h0 | h0
      · subst h0; simp at h2 hd; omega
      · omega⟩
    rw [Nat.add_sub_cancel] at h2
    have hd2 : ((e + 1 : Nat) : Int) * step = e * step + step := by rw [Int.natCast_add, Int.add_mul]; simp
    rw [hd2] at hd
    have hlo : near < n - e * step := by omega
    have he : 0 ≤ (e : Int) * step := Int.mul_nonneg (by omega) (by omega)
    have hq : (n - near + step - 1).tdiv step = e + 1 := by
      rw [Int.tdiv_eq_ediv_of_nonneg (by omega)]
      have h5 : (n - near + step - 1) = (n - near - 1 - e * step) + (e + 1) * step := by rw [Int.add_mul]; omega
      rw [h5, Int.add_mul_ediv_right _ _ (by omega), Int.ediv_eq_zero_of_lt (by omega) (by omega)]; omega
    rw [hq]; omega
end Hd
namespace Hd
open Ni (inn)
theorem mem_chA {r : Rg} {h : Nat} {f : List Int} {x : Rt} {m : Nat} : (m : Int) ∈ chA r h f x ↔ m < r.kinds.length ∧ chgM r h f m x = true := by
  unfold chA chgM
  rw [mem_nums]
  constructor
  · rintro ⟨k, h1, h2, e⟩
    have : m = k := by omega
    subst this; exact ⟨h1, h2⟩
  · rintro ⟨h1, h2⟩; exact ⟨m, h1, h2, rfl⟩
theorem rates_in {r : Rg} {h : Nat} {f : List Int} {x : Rt} (hx : x ∈ fit r h f) : ((rates4 r h f).1.1 ≤ x.a ∧ x.a ≤ (rates4 r h f).1.2) ∧ ((rates4 r h f).2.1 ≤ x.b ∧ x.b ≤ (rates4 r h f).2.2) := by
  unfold rates4
  exact ⟨⟨mnL_le (List.mem_map.2 ⟨x, hx, rfl⟩), mxL_ge (List.mem_map.2 ⟨x, hx, rfl⟩)⟩, ⟨mnL_le (List.mem_map.2 ⟨x, hx, rfl⟩), mxL_ge (List.mem_map.2 ⟨x, hx, rfl⟩)⟩⟩
theorem joint_1 {r : Rg} {h : Nat} {f : List Int} {x : Rt} {m : Nat} (hx : x ∈ fit r h f) (hc : chgM r h f m x = true) : jointW r h f m ≠ 1 := by
  have : 0 < manyM r h f m := List.length_pos_of_mem (List.mem_filter.2 ⟨hx, hc⟩)
  unfold jointW
  rw [if_neg (by omega)]
  split <;> decide
theorem filter_lt {α : Type} {p : α → Bool} : ∀ {l : List α} {x : α}, x ∈ l → p x = false → (l.filter p).length < l.length
  | y :: l, x, hx, hp => by
    rcases List.mem_cons.1 hx with rfl | hx
    · rw [List.filter_cons_of_neg (by simp [hp])]
      have := List.length_filter_le p l
      simp; omega
    · have ih := filter_lt hx hp
      by_cases c : p y = true
      · rw [List.filter_cons_of_pos c, List.length_cons, List.length_cons]; omega
      · rw [List.filter_cons_of_neg c, List.length_cons]; omega
theorem joint_3 {r : Rg} {h : Nat} {f : List Int} {x : Rt} {m : Nat} (hx : x ∈ fit r h f) (hc : chgM r h f m x = false) : jointW r h f m ≠ 3 := by
  have : manyM r h f m < (fit r h f).length := filter_lt hx hc
  unfold jointW
  split
  · decide
  · rw [if_neg (by omega)]; decide
theorem exp_in {r : Rg} {h : Nat} {f : List Int} {x : Rt} {m : Nat} (hx : x ∈ fit r h f) (hv : 0 ≤ f.getD m 0) (hc : chgM r h f m x = false) : (expOf r h f m).1 ≤ f.getD m 0 ∧ f.getD m 0 ≤ (expOf r h f m).2 := by
  have h1 : (expOf r h f m).1 ≤ lom r h m x := mnL_le (List.mem_map.2 ⟨x, hx, rfl⟩)
  have h2 : him r h m x ≤ (expOf r h f m).2 := mxL_ge (List.mem_map.2 ⟨x, hx, rfl⟩)
  unfold chgM chB chg inn at hc
  unfold lom at h1
  unfold him at h2
  simp only [hv, decide_true, Bool.true_and, Bool.not_eq_false', Bool.and_eq_true, decide_eq_true_eq] at hc
  omega
theorem dries_in {r : Rg} {h : Nat} {f : List Int} {x : Rt} {near step : Int} (hx : x ∈ fit r h f) : (driesOf r h f near step).1 ≤ dayX near step x ∧ dayX near step x ≤ (driesOf r h f near step).2 :=
  ⟨mnL_le (List.mem_map.2 ⟨x, hx, rfl⟩), mxL_ge (List.mem_map.2 ⟨x, hx, rfl⟩)⟩
end Hd
namespace Go.Proofs.YtjpokekbjmdgmaaGreatDoor
open Go Go.Ab Ni Hd
theorem rin_pure (n lo hi : Int) : APure Tryz.prog 74 [I n, I lo, I hi] (B (inn n lo hi)) := by
  refine ap Tryz.func74 (fun e0 he0 => ?_)
  refine wz 5 ?_
  refine sz 10 (fun g1 g1' => ?_) (fun g1 g1' => ?_)
  ·refine wz 5 ?_
   exact rz rfl (Less.eq (by simp [inn, *]))
  refine wz 5 ?_
  exact rz rfl (Less.eq (by simp [inn, *]))
end Go.Proofs.YtjpokekbjmdgmaaGreatDoor
namespace Go.Proofs.YtjpokekbjmdgmaaGreatDoor
open Go Go.Ab Ni Hd
theorem dries_bad (r : Rg) (n : Int) (f : List Int) (near step : Int) (hk : r.kinds.length ≤ 1000000) (hh : r.hides.length ≤ 1000000) (hw : ∀ h ∈ r.hides, h.length ≤ 1000000) (hl : f.length ≤ 1000000) (he : fitE r n f (okD near step) ≠ 0) : APure Tryz.prog 50 [rgA r, I n, ints f, I near, I step] (.tup [.agg [I 0, I 0], I (fitE r n f (okD near step))]) := by
  refine ap Tryz.func50 (fun e0 he0 => ?_)
  refine wz 3 ?_
  refine aw_drawc [14] [15] _ mo (by kernel_rfl) (HSub.refl _) ?_
  first | refine dc_ev rfl (ev_load_agg jz rfl ty27.h rfl) ?_ | refine dc_ev rfl (ev_load_agg_i jz ty27.h (by exact Nat.le_of_ble_eq_true rfl)) ?_
  refine dc_ev rfl (ev_mv (v := .raw _) jz) ?_
  first | refine dc_ev rfl (ev_mv (v := .sl _ _) jz) ?_ | refine dc_ev rfl (ev_mv (v := .own _ _ _) jz) ?_ | refine dc_ev rfl (ev_mv (v := .raw _) jz) ?_ | refine dc_ev rfl (ev_mv (v := .slx _ _) jz) ?_ | refine dc_ev rfl (ev_mv (v := .msl _ _ _ _) jz) ?_
  refine dc_ev rfl (ev_mv (v := .raw _) jz) ?_
  refine dc_ev rfl (ev_call en106.h jz (in_pure _ _ _) ⟨jz, jz, jz, trivial⟩) ?_
  refine dc_ev rfl (ev_mv (v := .raw _) jz) ?_
  refine dc_split 24 jz (fun g1_5 => ?_) (fun g1_5 => ?_)
  ·have g1_5' := g1_5
   try simp only [decide_eq_true_eq, decide_eq_false_iff_not, Bool.not_eq_true', Bool.not_eq_false', Bool.and_eq_true, Bool.or_eq_true, Bool.and_eq_false_iff, Bool.or_eq_false_iff, Bool.not_true, Bool.not_false, List.length_map, ne_eq, Decidable.not_not] at g1_5'
   refine dc_yes rfl rfl (less_b g1_5) rfl (ev_mv (v := .raw _) jz) ?_
   refine dc_yes rfl rfl (less_b g1_5) rfl (ev_call en106.h jz (in_pure _ _ _) ⟨jz, jz, jz, trivial⟩) ?_
   refine dc_ev rfl (ev_pickT (v := .raw _) (less_b g1_5) jz) ?_
   refine dc_ev rfl (ev_call en98.h jz (fit_pure r n f hk hh hw hl (okD near step)) ⟨jz, jz, jz, (by exact less_b (by unfold okD; simp [*])), trivial⟩) ?_
   refine dc_ev rfl (ev_mv (v := .tup _) jz) ?_
   refine dc_ev rfl (ev_extract jz rfl) ?_
   refine dc_ev rfl (ev_extract jz rfl) ?_
   refine dc_ev rfl (ev_extract jz rfl) ?_
   refine dc_alloc rfl rfl z115.h ?_
   refine dc_eff rfl rfl (eff_store rfl jz jz rfl rfl ty115.h rfl rfl) (by apply HL.sub; repeat' (first | exact HL.nil _ | apply HL.same | apply HL.tok)) ?_
   first | refine dc_ev rfl (ev_as (v := .sl _ _) jz) ?_ | refine dc_ev rfl (ev_as (v := .own _ _ _) jz) ?_ | refine dc_ev rfl (ev_as (v := .raw _) jz) ?_ | refine dc_ev rfl (ev_as (v := .slx _ _) jz) ?_ | refine dc_ev rfl (ev_as (v := .msl _ _ _ _) jz) ?_
   refine dc_ev rfl (ev_as (v := .raw _) jz) ?_
   refine dc_nil ?_
   refine wz 2 ?_
   refine iz (fun c_33 c_33' => ?_) (fun c_33 c_33' => ?_)
   ·refine wz 4 ?_
    exact retQ_res (vs := [.agg _, .raw _]) rfl rfl ⟨resVar_cell rfl rfl ty25.h rfl, resVar_tmp _ _ _, trivial⟩ (less_tup ⟨jz, jz, trivial⟩)
   exfalso
   simp_all
  have g1_5' := g1_5
  try simp only [decide_eq_true_eq, decide_eq_false_iff_not, Bool.not_eq_true', Bool.not_eq_false', Bool.and_eq_true, Bool.or_eq_true, Bool.and_eq_false_iff, Bool.or_eq_false_iff, Bool.not_true, Bool.not_false, List.length_map, ne_eq, Decidable.not_not] at g1_5'
  refine dc_no rfl rfl (less_b g1_5) rfl rfl ?_
  refine dc_no rfl rfl (less_b g1_5) rfl rfl ?_
  refine dc_ev rfl (ev_pickF (v := .raw _) (less_b g1_5) jz) ?_
  refine dc_ev rfl (ev_call en98.h jz (fit_pure r n f hk hh hw hl (okD near step)) ⟨jz, jz, jz, (by exact less_b (by unfold okD; simp [*])), trivial⟩) ?_
  refine dc_ev rfl (ev_mv (v := .tup _) jz) ?_
  refine dc_ev rfl (ev_extract jz rfl) ?_
  refine dc_ev rfl (ev_extract jz rfl) ?_
  refine dc_ev rfl (ev_extract jz rfl) ?_
  refine dc_alloc rfl rfl z115.h ?_
  refine dc_eff rfl rfl (eff_store rfl jz jz rfl rfl ty115.h rfl rfl) (by apply HL.sub; repeat' (first | exact HL.nil _ | apply HL.same | apply HL.tok)) ?_
  first | refine dc_ev rfl (ev_as (v := .sl _ _) jz) ?_ | refine dc_ev rfl (ev_as (v := .own _ _ _) jz) ?_ | refine dc_ev rfl (ev_as (v := .raw _) jz) ?_ | refine dc_ev rfl (ev_as (v := .slx _ _) jz) ?_ | refine dc_ev rfl (ev_as (v := .msl _ _ _ _) jz) ?_
  refine dc_ev rfl (ev_as (v := .raw _) jz) ?_
  refine dc_nil ?_
  refine wz 2 ?_
  refine iz (fun c_33 c_33' => ?_) (fun c_33 c_33' => ?_)
  ·refine wz 4 ?_
   exact retQ_res (vs := [.agg _, .raw _]) rfl rfl ⟨resVar_cell rfl rfl ty25.h rfl, resVar_tmp _ _ _, trivial⟩ (less_tup ⟨jz, jz, trivial⟩)
  exfalso
  simp_all
end Go.Proofs.YtjpokekbjmdgmaaGreatDoor
namespace Go.Proofs.YtjpokekbjmdgmaaGreatDoor
open Go Go.Ab Ni Hd
def okM (r : Rg) (l : List Int) : Bool := decide (∀ i, (hi : i < l.length) → msIn r l[i] = true ∧ (0 < i → l[i - 1] < l[i]))
theorem okM_no {r : Rg} {l : List Int} {i : Nat} (hi : i < l.length) (h : ¬ (msIn r l[i] = true ∧ (0 < i → l[i - 1] < l[i]))) : okM r l = false := by
  unfold okM; rw [decide_eq_false_iff_not]; exact fun q => h (q i hi)
theorem okM_yes {r : Rg} {l : List Int} (h : ∀ i, (hi : i < l.length) → msIn r l[i] = true ∧ (0 < i → l[i - 1] < l[i])) : okM r l = true := by unfold okM; exact decide_eq_true h
end Go.Proofs.YtjpokekbjmdgmaaGreatDoor
namespace Go.Proofs.YtjpokekbjmdgmaaGreatDoor
open Go Go.Ab Ni Hd
def shB (r : Rg) : Bool := decide ((r.kinds.length ≤ 8 ∧ r.hides.length ≤ 8) ∧ ∀ i, (hi : i < r.hides.length) → i < 9 → r.hides[i].length ≤ 10)
theorem shB_fin {r : Rg} (h3 : ∀ i, (hi : i < r.hides.length) → i < 9 → r.hides[i].length ≤ 10) : shB r = (decide (r.kinds.length ≤ 8) && decide (r.hides.length ≤ 8)) := by
  rw [Bool.eq_iff_iff]; unfold shB; simp only [decide_eq_true_eq, Bool.and_eq_true]
  exact ⟨fun h => h.1, fun h => ⟨h, h3⟩⟩
theorem shB_row {r : Rg} {i : Nat} (hi : i < r.hides.length) (h9 : i < 9) (h : ¬ r.hides[i].length ≤ 10) : shB r = false := decide_eq_false fun q => h (q.2 i hi h9)
theorem shB_len {r : Rg} (h : shB r = true) : r.kinds.length ≤ 1000000 ∧ r.hides.length ≤ 1000000 ∧ (∀ h ∈ r.hides, h.length ≤ 1000000) := by
  have q := of_decide_eq_true h
  refine ⟨by omega, by omega, fun x hx => ?_⟩
  obtain ⟨i, hi, rfl⟩ := List.getElem_of_mem hx
  have := q.2 i hi (by omega); omega
theorem rg_kind {r : Rg} {i : Nat} (hi : i < r.kinds.length) (h : kdOK r.kinds[i] = false) : rgOK r = false := by
  have e : r.kinds.all kdOK = false := by rw [List.all_eq_false]; exact ⟨_, List.getElem_mem hi, by rw [h]; simp⟩
  unfold rgOK; rw [e]; simp
theorem rg_hide {r : Rg} {i : Nat} (hi : i < r.hides.length) (h : hdOK r.kinds.length r.hides[i] = false) : rgOK r = false := by
  have e : r.hides.all (hdOK r.kinds.length) = false := by rw [List.all_eq_false]; exact ⟨_, List.getElem_mem hi, by rw [h]; simp⟩
  unfold rgOK; rw [e]; simp
theorem hd_len {w : Nat} {h : List Int} (e : h.length ≠ w) : hdOK w h = false := by unfold hdOK; rw [decide_eq_false e]; rfl
theorem hd_num {w : Nat} {h : List Int} {j : Nat} (hj : j < h.length) (e : inn h[j] 1 500 = false) : hdOK w h = false := by
  have q : (h.all fun n => inn n 1 500) = false := by rw [List.all_eq_false]; exact ⟨_, List.getElem_mem hj, by rw [e]; simp⟩
  unfold hdOK; rw [q]; simp
theorem hd_yes {w : Nat} {h : List Int} (e : h.length = w) (k : ∀ j, (hj : j < h.length) → inn h[j] 1 500 = true) : hdOK w h = true := by
  unfold hdOK; rw [decide_eq_true e, List.all_eq_true.2 fun x hx => by obtain ⟨j, hj, rfl⟩ := List.getElem_of_mem hx; exact k j hj]; rfl
theorem all_of {α : Type} {q : α → Bool} {l : List α} (h : ∀ j, (hj : j < l.length) → q l[j] = true) : l.all q = true := List.all_eq_true.2 fun x hx => by obtain ⟨j, hj, rfl⟩ := List.getElem_of_mem hx; exact h j hj
theorem fd_bad {r : Rg} {f : List Int} {i : Nat} (hi : i < f.length) (h : inn f[i] (-1) 1000 = false) : fdOK r f = false := by
  have e : (f.all fun n => inn n (-1) 1000) = false := by rw [List.all_eq_false]; exact ⟨_, List.getElem_mem hi, by rw [h]; simp⟩
  unfold fdOK; rw [e]; simp
theorem short_pure (r : Rg) : APure Tryz.prog 20 [rgA r] (B (shB r)) := by
  refine ap Tryz.func20 (fun e0 he0 => ?_)
  refine wz 3 ?_
  refine aw_loopk (ι := { k : Nat // k ≤ r.hides.length ∧ k ≤ 9 ∧ ∀ i, (hi : i < r.hides.length) → i < k → r.hides[i].length ≤ 10 }) [1] (fun i => [(3, I i.1)]) (fun H i => H) (fun i => r.hides.length - i.1) (⟨0, Nat.zero_le _, by omega, by omega⟩) ⟨jz, jz, trivial⟩ rfl ?_
  rintro ⟨k, hk, hk9, hok⟩
  refine nz ?_
  refine wz 6 ?_
  refine sz 9 (fun g2_5 g2_5' => ?_) (fun g2_5 g2_5' => ?_)
  ·have hkl : k < r.hides.length := by omega
   refine wz 3 ?_
   refine iz (fun c_12 c_12' => ?_) (fun c_12 c_12' => ?_)
   ·have hk9b : k < 9 := by have := of_decide_eq_true c_12; omega
    refine wz 7 ?_
    refine iz (fun c_21 c_21' => ?_) (fun c_21 c_21' => ?_)
    ·have hbad := shB_row hkl hk9b (by omega)
     refine wz 1 ?_
     exact rz rfl (Less.eq (by rw [hbad]))
    refine wz 3 ?_
    exact ⟨⟨k + 1, by omega, by omega, fun i hi h => (by by_cases e : i = k; (subst e; omega); exact hok i hi (by omega))⟩, by simp only; omega, Sub.slots ⟨jz, jz, trivial⟩⟩
   refine wz 5 ?_
   refine sz 26 (fun g6_4 g6_4' => ?_) (fun g6_4 g6_4' => ?_)
   ·refine wz 6 ?_
    exact rz rfl (Less.eq (congrArg B (by have h9 := of_decide_eq_false c_12; rw [shB_fin (fun i hi h8 => hok i hi (by omega)), Bool.eq_iff_iff]; simp; omega)))
   refine wz 6 ?_
   exact rz rfl (Less.eq (congrArg B (by have h9 := of_decide_eq_false c_12; rw [shB_fin (fun i hi h8 => hok i hi (by omega)), Bool.eq_iff_iff]; simp; omega)))
  obtain rfl : k = r.hides.length := by omega
  refine wz 9 ?_
  refine sz 26 (fun g6_4 g6_4' => ?_) (fun g6_4 g6_4' => ?_)
  ·refine wz 6 ?_
   exact rz rfl (Less.eq (congrArg B (by rw [shB_fin (fun i hi _ => hok i hi hi), Bool.eq_iff_iff]; simp; omega)))
  refine wz 6 ?_
  exact rz rfl (Less.eq (congrArg B (by rw [shB_fin (fun i hi _ => hok i hi hi), Bool.eq_iff_iff]; simp; omega)))
theorem rspan_pure (a b : Int) (ha : -1000000 ≤ a ∧ a ≤ 1000000 ∨ True) : APure Tryz.prog 75 [.agg [I a, I b]] (B (spOK a b)) := by
  refine ap Tryz.func75 (fun e0 he0 => ?_)
  refine vz 2 ?_
  refine sq_nil ?_
  refine aw_seq ?_
  have hin : ∀ x lo hi : Int, inn x lo hi = true ↔ lo ≤ x ∧ x ≤ hi := fun x lo hi => by unfold inn; simp
  refine wz 2 ?_
  refine kz az (rin_pure _ _ _) ?_
  refine wz 1 ?_
  refine sz 6 (fun g1_3 g1_3' => ?_) (fun g1_3 g1_3' => ?_)
  ·have h1 := (hin _ _ _).1 g1_3
   refine wz 4 ?_
   refine ky az (rin_pure _ _ _) ?_
   refine wz 2 ?_
   refine sz 13 (fun g1_10 g1_10' => ?_) (fun g1_10 g1_10' => ?_)
   ·have h2 := (hin _ _ _).1 g1_10
    refine wz 8 ?_
    exact rz rfl (Less.eq (by unfold spOK; simp [*]))
   refine wz 8 ?_
   exact rz rfl (Less.eq (by unfold spOK; simp [*]))
  refine wz 15 ?_
  exact rz rfl (Less.eq (by unfold spOK; simp [*]))
theorem register_pure (r : Rg) (hk : r.kinds.length ≤ 1000000) (hh : r.hides.length ≤ 1000000) (hw : ∀ h ∈ r.hides, h.length ≤ 1000000) : APure Tryz.prog 21 [rgA r] (B (rgOK r)) := by
  refine ap Tryz.func21 (fun e0 he0 => ?_)
  refine wz 5 ?_
  refine kz az (rin_pure _ _ _) ?_
  refine wz 2 ?_
  refine sz 11 (fun g1_5 g1_5' => ?_) (fun g1_5 g1_5' => ?_)
  ·refine wz 8 ?_
   exact rz rfl (Less.eq (by unfold rgOK; simp_all))
  refine wz 3 ?_
  refine ky az (rin_pure _ _ _) ?_
  refine wz 2 ?_
  refine iz (fun c_17 c_17' => ?_) (fun c_17 c_17' => ?_)
  ·refine wz 1 ?_
   exact rz rfl (Less.eq (by unfold rgOK; simp_all))
  refine wz 1 ?_
  refine aw_loopk (ι := { k : Nat // k ≤ r.kinds.length ∧ ∀ i, (hi : i < r.kinds.length) → i < k → kdOK r.kinds[i] = true }) [1] (fun i => [(3, I i.1)]) (fun H i => H) (fun i => r.kinds.length - i.1) (⟨0, Nat.zero_le _, by omega⟩) ⟨jz, jz, trivial⟩ rfl ?_
  rintro ⟨k, hkk, hok⟩
  refine nz ?_
  refine wz 5 ?_
  refine iz (fun c_22 c_22' => ?_) (fun c_22 c_22' => ?_)
  ·have hkl : k < r.kinds.length := by omega
   refine wz 7 ?_
   refine sz 31 (fun g6_6 g6_6' => ?_) (fun g6_6 g6_6' => ?_)
   ·refine wz 7 ?_
    refine iz (fun c_38 c_38' => ?_) (fun c_38 c_38' => ?_)
    ·have hbad := rg_kind hkl (by unfold kdOK; have h5 := of_decide_eq_true c_38; exact decide_eq_false (by omega))
     refine wz 1 ?_
     exact rz rfl (Less.eq (by rw [hbad]))
    have hkd : kdOK r.kinds[k] = true := by unfold kdOK; have h5 := of_decide_eq_false c_38; exact decide_eq_true (by omega)
    refine wz 3 ?_
    exact ⟨⟨k + 1, by omega, fun i hi h => (by by_cases e : i = k; (subst e; exact hkd); exact hok i hi (by omega))⟩, by simp only; omega, Sub.slots ⟨jz, jz, trivial⟩⟩
   have hkd : kdOK r.kinds[k] = true := by unfold kdOK; exact decide_eq_true (by omega)
   refine wz 11 ?_
   exact ⟨⟨k + 1, by omega, fun i hi h => (by by_cases e : i = k; (subst e; exact hkd); exact hok i hi (by omega))⟩, by simp only; omega, Sub.slots ⟨jz, jz, trivial⟩⟩
  obtain rfl : k = r.kinds.length := by omega
  have hall1 : r.kinds.all kdOK = true := all_of fun j hj => hok j hj hj
  refine wz 1 ?_
  refine aw_loopk (ι := { k : Nat // k ≤ r.hides.length ∧ ∀ i, (hi : i < r.hides.length) → i < k → hdOK r.kinds.length r.hides[i] = true }) [1] (fun i => [(4, I i.1)]) (fun H i => H) (fun i => r.hides.length - i.1) (⟨0, Nat.zero_le _, by omega⟩) ⟨jz, jz, trivial⟩ rfl ?_
  rintro ⟨k, hkh, hok2⟩
  refine nz ?_
  refine wz 5 ?_
  refine iz (fun c_43 c_43' => ?_) (fun c_43 c_43' => ?_)
  ·have hhl : k < r.hides.length := by omega
   have hwl := hw _ (List.getElem_mem hhl)
   refine wz 0 ?_
   refine aw_draw 10 mo (by kernel_rfl) ?_
   refine dz 10 ?_
   refine wz 0 ?_
   refine iz (fun c_55 c_55' => ?_) (fun c_55 c_55' => ?_)
   ·have hbad := rg_hide hhl (hd_len (by omega))
    refine wz 1 ?_
    exact rz rfl (Less.eq (by rw [hbad]))
   have hle : r.hides[k].length = r.kinds.length := by omega
   refine wz 1 ?_
   refine aw_loopk (ι := { j : Nat // j ≤ r.hides[k].length ∧ ∀ i, (hi : i < r.hides[k].length) → i < j → inn r.hides[k][i] 1 500 = true }) [1, 4] (fun u => [(5, I u.1)]) (fun H u => H) (fun u => r.hides[k].length - u.1) (⟨0, Nat.zero_le _, by omega⟩) ⟨jz, jz, jz, trivial⟩ rfl ?_
   rintro ⟨j, hj, hok3⟩
   refine nz ?_
   refine wz 8 ?_
   refine iz (fun c_63 c_63' => ?_) (fun c_63 c_63' => ?_)
   ·have hjl : j < r.hides[k].length := by omega
    refine wz 8 ?_
    refine kz az (rin_pure _ _ _) ?_
    refine wz 1 ?_
    refine iz (fun c_75 c_75' => ?_) (fun c_75 c_75' => ?_)
    ·have hbad := rg_hide hhl (hd_num hjl (by simpa using c_75))
     refine wz 1 ?_
     exact rz rfl (Less.eq (by rw [hbad]))
    have hin : inn r.hides[k][j] 1 500 = true := by simpa using c_75
    refine wz 3 ?_
    exact ⟨⟨j + 1, by omega, fun i hi h => (by by_cases e : i = j; (subst e; exact hin); exact hok3 i hi (by omega))⟩, by simp only; omega, Sub.slots ⟨jz, jz, jz, trivial⟩⟩
   obtain rfl : j = r.hides[k].length := by omega
   refine wz 3 ?_
   exact ⟨⟨k + 1, by omega, fun i hi h => (by by_cases e : i = k; (subst e; exact hd_yes hle fun j hj => hok3 j hj hj); exact hok2 i hi (by omega))⟩, by simp only; omega, Sub.slots ⟨jz, jz, trivial⟩⟩
  obtain rfl : k = r.hides.length := by omega
  have hall2 : r.hides.all (hdOK r.kinds.length) = true := all_of fun j hj => hok2 j hj hj
  refine wz 2 ?_
  refine kz az (rspan_pure _ _ (.inr trivial)) ?_
  refine wz 1 ?_
  refine sz 79 (fun g18_3 g18_3' => ?_) (fun g18_3 g18_3' => ?_)
  ·refine wz 2 ?_
   refine ky az (rspan_pure _ _ (.inr trivial)) ?_
   refine wz 2 ?_
   refine sz 84 (fun g18_8 g18_8' => ?_) (fun g18_8 g18_8' => ?_)
   ·refine wz 2 ?_
    refine ky az (rin_pure _ _ _) ?_
    refine wz 2 ?_
    refine sz 89 (fun g18_13 g18_13' => ?_) (fun g18_13 g18_13' => ?_)
    ·refine wz 2 ?_
     refine ky az (rin_pure _ _ _) ?_
     refine wz 2 ?_
     exact rz rfl (Less.eq (by unfold rgOK; rw [hall1, hall2]; simp_all))
    refine wz 5 ?_
    exact rz rfl (Less.eq (by unfold rgOK; rw [hall1, hall2]; simp_all))
   refine wz 10 ?_
   exact rz rfl (Less.eq (by unfold rgOK; rw [hall1, hall2]; simp_all))
  refine wz 15 ?_
  exact rz rfl (Less.eq (by unfold rgOK; rw [hall1, hall2]; simp_all))
end Go.Proofs.YtjpokekbjmdgmaaGreatDoor
namespace Go.Proofs.YtjpokekbjmdgmaaGreatDoor
open Go Go.Ab Ni Hd
theorem short_t {r : Rg} (h : shB r = true) : APure Tryz.prog 20 [rgA r] (B true) := by have q := short_pure r; rw [h] at q; exact q
theorem short_f {r : Rg} (h : shB r = false) : APure Tryz.prog 20 [rgA r] (B false) := by have q := short_pure r; rw [h] at q; exact q
end Go.Proofs.YtjpokekbjmdgmaaGreatDoor
namespace Go.Proofs.YtjpokekbjmdgmaaGreatDoor
open Go Go.Ab Ni Hd
theorem rhide_pure (r : Rg) (n : Int) (hh : r.hides.length ≤ 1000000) : APure Tryz.prog 22 [rgA r, I n] (B (hdIn r n)) := by
  refine ap Tryz.func22 (fun e0 he0 => ?_)
  refine wz 7 ?_
  refine kz az (rin_pure _ _ _) ?_
  refine wz 1 ?_
  exact rz rfl (Less.eq rfl)
theorem rmeas_pure (r : Rg) (n : Int) (hk : r.kinds.length ≤ 1000000) : APure Tryz.prog 48 [rgA r, I n] (B (msIn r n)) := by
  refine ap Tryz.func48 (fun e0 he0 => ?_)
  refine wz 7 ?_
  refine kz az (rin_pure _ _ _) ?_
  refine wz 1 ?_
  exact rz rfl (Less.eq rfl)
theorem rrated_pure (r : Rg) (x : Rt) : APure Tryz.prog 23 [rgA r, rtA x] (B (rtOK r x)) := by
  refine ap Tryz.func23 (fun e0 he0 => ?_)
  refine wz 11 ?_
  refine kz az (rin_pure _ _ _) ?_
  refine wz 1 ?_
  refine sz 14 (fun g1_9 g1_9' => ?_) (fun g1_9 g1_9' => ?_)
  ·refine wz 8 ?_
   refine ky az (rin_pure _ _ _) ?_
   refine wz 2 ?_
   exact rz rfl (Less.eq (by unfold rtOK; simp [*]))
  refine wz 11 ?_
  exact rz rfl (Less.eq (by unfold rtOK; simp [*]))
theorem rfind_pure (r : Rg) (f : List Int) (hl : f.length ≤ 1000000) : APure Tryz.prog 24 [rgA r, ints f] (B (fdOK r f)) := by
  refine ap Tryz.func24 (fun e0 he0 => ?_)
  refine wz 3 ?_
  refine aw_loopk (ι := { k : Nat // k ≤ f.length ∧ ∀ i, (hi : i < f.length) → i < k → inn f[i] (-1) 1000 = true }) [1, 2] (fun i => [(5, I i.1)]) (fun H i => H) (fun i => f.length - i.1) (⟨0, Nat.zero_le _, by omega⟩) ⟨jz, jz, jz, trivial⟩ rfl ?_
  rintro ⟨k, hk, hok⟩
  refine nz ?_
  refine wz 4 ?_
  refine iz (fun c_9 c_9' => ?_) (fun c_9 c_9' => ?_)
  ·have hkl : k < f.length := by omega
   refine wz 4 ?_
   refine kz az (rin_pure _ _ _) ?_
   refine wz 1 ?_
   refine iz (fun c_17 c_17' => ?_) (fun c_17 c_17' => ?_)
   ·refine wz 1 ?_
    exact rz rfl (Less.eq (by rw [fd_bad hkl (by simpa using c_17)]))
   refine wz 3 ?_
   exact ⟨⟨k + 1, by omega, fun i hi h => (by by_cases e : i = k; (subst e; simpa using c_17); exact hok i hi (by omega))⟩, by simp only; omega, Sub.slots ⟨jz, jz, jz, trivial⟩⟩
  obtain rfl : k = f.length := by omega
  have hall : (f.all fun n => inn n (-1) 1000) = true := all_of fun j hj => hok j hj hj
  refine wz 7 ?_
  exact rz rfl (Less.eq (congrArg B (by unfold fdOK; rw [hall, Bool.and_true, Bool.eq_iff_iff]; simp; omega)))
theorem has_pure (l : List Int) (n : Int) (hl : l.length ≤ 1000000) : APure Tryz.prog 29 [ints l, I n] (B (decide (n ∈ l))) := by
  refine ap Tryz.func29 (fun e0 he0 => ?_)
  refine wz 2 ?_
  refine aw_loopk (ι := { k : Nat // k ≤ l.length ∧ ∀ i, (hi : i < l.length) → i < k → l[i] ≠ n }) [0, 1] (fun i => [(5, I i.1)]) (fun H i => H) (fun i => l.length - i.1) (⟨0, Nat.zero_le _, by omega⟩) ⟨jz, jz, jz, trivial⟩ rfl ?_
  rintro ⟨k, hk, hok⟩
  refine nz ?_
  refine wz 4 ?_
  refine iz (fun c_9 c_9' => ?_) (fun c_9 c_9' => ?_)
  ·have hkl : k < l.length := by omega
   refine wz 6 ?_
   refine iz (fun c_17 c_17' => ?_) (fun c_17 c_17' => ?_)
   ·refine wz 1 ?_
    exact rz rfl (Less.eq (by rw [decide_eq_true (by rw [← of_decide_eq_true c_17]; exact List.getElem_mem hkl)]))
   refine wz 3 ?_
   exact ⟨⟨k + 1, by omega, fun i hi h => (by by_cases e : i = k; (subst e; exact of_decide_eq_false c_17); exact hok i hi (by omega))⟩, by simp only; omega, Sub.slots ⟨jz, jz, jz, trivial⟩⟩
  obtain rfl : k = l.length := by omega
  refine wz 1 ?_
  exact rz rfl (Less.eq (by rw [decide_eq_false (fun q => by obtain ⟨i, hi, e⟩ := List.getElem_of_mem q; exact hok i hi hi e)]))
theorem rmeasures_pure (r : Rg) (l : List Int) (hk : r.kinds.length ≤ 1000000) (hl : l.length ≤ 1000000) : APure Tryz.prog 28 [rgA r, ints l] (B (okM r l)) := by
  refine ap Tryz.func28 (fun e0 he0 => ?_)
  refine wz 3 ?_
  refine aw_loopk (ι := { k : Nat // k ≤ l.length ∧ ∀ i, (hi : i < l.length) → i < k → msIn r l[i] = true ∧ (0 < i → l[i - 1] < l[i]) }) [1, 2] (fun i => [(5, I i.1)]) (fun H i => H) (fun i => l.length - i.1) (⟨0, Nat.zero_le _, by omega⟩) ⟨jz, jz, jz, trivial⟩ rfl ?_
  rintro ⟨k, hk1, hok⟩
  refine nz ?_
  refine wz 4 ?_
  refine iz (fun c_9 c_9' => ?_) (fun c_9 c_9' => ?_)
  ·have hkl : k < l.length := by omega
   refine wz 0 ?_
   refine aw_draw 23 mo (by kernel_rfl) ?_
   refine dz 5 ?_
   refine dkz az (rmeas_pure r _ hk) ?_
   refine dz 2 ?_
   refine dsz 19 (fun g4_7 g4_7' => ?_) (fun g4_7 g4_7' => ?_)
   ·have hms : msIn r l[k] = false := by simpa using g4_7
    have hno : okM r l = false := okM_no hkl (fun q => by rw [hms] at q; exact Bool.noConfusion q.1)
    refine dz 15 ?_
    refine wz 2 ?_
    exact rz rfl (Less.eq (by rw [hno]))
   have hms : msIn r l[k] = true := by simpa using g4_7
   refine dz 3 ?_
   refine dsz 22 (fun g4_10 g4_10' => ?_) (fun g4_10 g4_10' => ?_)
   ·refine dz 7 ?_
    refine dr_yes rfl rfl (less_b g4_10) rfl (ev_index_map (k := k - 1) sl28.h jz jz (by omega) (by omega)) ?_
    refine dz 4 ?_
    refine wz 0 ?_
    refine iz (fun c_34 c_34' => ?_) (fun c_34 c_34' => ?_)
    ·have hno : okM r l = false := okM_no hkl (fun q => by have h5 := q.2 (by omega); have h6 := of_decide_eq_true c_34; omega)
     refine wz 1 ?_
     exact rz rfl (Less.eq (by rw [hno]))
    have hst : msIn r l[k] = true ∧ (0 < k → l[k - 1] < l[k]) := ⟨hms, fun q => by have := of_decide_eq_false c_34; omega⟩
    refine wz 3 ?_
    exact ⟨⟨k + 1, by omega, fun i hi q => by rcases Nat.lt_or_ge i k with q2 | q2; exact hok i hi q2; (obtain rfl : i = k := by omega); exact hst⟩, by simp only; omega, Sub.slots ⟨jz, jz, jz, trivial⟩⟩
   have hst : msIn r l[k] = true ∧ (0 < k → l[k - 1] < l[k]) := ⟨hms, fun q => by omega⟩
   refine dz 12 ?_
   refine wz 4 ?_
   exact ⟨⟨k + 1, by omega, fun i hi q => by rcases Nat.lt_or_ge i k with q2 | q2; exact hok i hi q2; (obtain rfl : i = k := by omega); exact hst⟩, by simp only; omega, Sub.slots ⟨jz, jz, jz, trivial⟩⟩
  obtain rfl : k = l.length := by omega
  have hall := okM_yes fun i hi => hok i hi hi
  refine wz 1 ?_
  exact rz rfl (Less.eq (by rw [hall]))
end Go.Proofs.YtjpokekbjmdgmaaGreatDoor
namespace Go.Proofs.YtjpokekbjmdgmaaGreatDoor
open Go Go.Ab Ni Hd
instance en51 : EnT Tryz.prog 51 := ⟨Ent.of Tryz.func51 (by kernel_rfl) rfl⟩
instance sf136 : SlS Tryz.prog 136 30 2 16 := ⟨SlFact.of (by kernel_rfl)⟩
def allP (r : Rg) (i j : Nat) : List Rt := (((rng r.al r.ah).take i).flatMap fun a => (rng r.bl r.bh).map fun b => ⟨a, b⟩) ++ ((rng r.bl r.bh).take j).map fun b => ⟨r.al + i, b⟩
theorem allP_succ {r : Rg} {i j : Nat} (hj : j < nB r) : allP r i (j + 1) = allP r i j ++ [⟨r.al + i, r.bl + j⟩] := by
  unfold allP; rw [List.take_succ_eq_append_getElem hj, List.map_append, ← List.append_assoc, List.map_cons, List.map_nil, rng_get]
theorem allP_row {r : Rg} {i : Nat} (hi : i < nA r) : allP r i (nB r) = allP r (i + 1) 0 := by
  unfold allP nB; rw [List.take_length, List.take_succ_eq_append_getElem hi, List.flatMap_append, rng_get]; simp
theorem allP_end (r : Rg) : allP r (nA r) 0 = alls r := by unfold allP alls nA; rw [List.take_length]; simp
theorem allP_len {r : Rg} (gB : RgB r) {i j : Nat} (hi : i < nA r) (hj : j ≤ nB r) : (allP r i j).length ≤ 1681 := by
  have h1 : (allP r i j).length ≤ (allP r (i + 1) 0).length := by
    rw [← allP_row hi]; unfold allP; simp only [List.length_append, List.length_map, List.length_take]
    unfold nB at hj ⊢; omega
  have h2 : (allP r (i + 1) 0).length ≤ (alls r).length := by
    unfold allP alls
    simp only [List.take_zero, List.map_nil, List.append_nil]
    have e : (rng r.al r.ah) = (rng r.al r.ah).take (i + 1) ++ (rng r.al r.ah).drop (i + 1) := (List.take_append_drop _ _).symm
    conv => rhs; rw [e, List.flatMap_append, List.length_append]
    omega
  have := alls_len gB
  omega
theorem ralls_pure {r : Rg} (gB : RgB r) : APure Tryz.prog 94 [rgA r] (.sl 2 ((alls r).map rtC)) := by
  refine ap Tryz.func94 (fun e0 he0 => ?_)
  refine vz 2 ?_
  refine sq_nil ?_
  refine aw_seq ?_
  have hnA := nA_bd gB
  have hnB := nB_bd gB
  have hlA := rng_len r.al r.ah
  have hlB := rng_len r.bl r.bh
  have ha := gB.a
  have hb := gB.b
  unfold nA at hnA
  unfold nB at hnB
  refine vz 5 ?_
  refine sq_nil ?_
  refine aw_block ?_
  refine aw_sub (sub_token 3 2 jz) ?_
  refine aw_loopk (ι := { i : Nat // i ≤ nA r }) [1] (fun i => [(3, .own 1 2 ((allP r i.1 0).map rtC)), (4, I (r.al + (i.1 : Int)))]) (fun H i => H.set 1 (.tok ((allP r i.1 0).map rtC).length)) (fun i => nA r - i.1) (⟨0, Nat.zero_le _⟩) ⟨jz, (by exact less_int (show (r.al : Int) = r.al + ((0 : Nat) : Int) by omega)), jz, trivial⟩ rfl ?_
  rintro ⟨i, hi⟩
  refine nz ?_
  refine wz 5 ?_
  refine iz (fun c_13 c_13' => ?_) (fun c_13 c_13' => ?_)
  ·have hia : i < nA r := by unfold nA; omega
   refine wz 4 ?_
   refine aw_loopk (ι := { j : Nat // j ≤ nB r }) [1, 4] (fun u => [(3, .own 1 2 ((allP r i u.1).map rtC)), (5, I (r.bl + (u.1 : Int)))]) (fun H u => H.set 1 (.tok ((allP r i u.1).map rtC).length)) (fun u => nB r - u.1) (⟨0, Nat.zero_le _⟩) ⟨jz, (by exact less_int (show (r.bl : Int) = r.bl + ((0 : Nat) : Int) by omega)), jz, jz, trivial⟩ rfl ?_
   rintro ⟨j, hj⟩
   refine nz ?_
   have hpl := allP_len gB hia hj
   refine wz 5 ?_
   refine iz (fun c_23 c_23' => ?_) (fun c_23 c_23' => ?_)
   ·have hjb : j < nB r := by unfold nB; omega
    have eS : ((allP r i (j + 1)).map rtC) = ((allP r i j).map rtC) ++ [rtC ⟨r.al + i, r.bl + j⟩] := by rw [allP_succ hjb, List.map_append]; rfl
    refine wz 4 ?_
    refine sq_ev rfl (ev_buildSlice (es := [[_, _]]) sf136.h rfl rfl rfl rfl) ?_
    first | refine sq_append rfl sf136.h Tryz.underlying136 rfl rfl jz (Nat.succ_pos _) (by simp; omega) (by simp; omega) ?_ | refine sq_append rfl sf136.h Tryz.underlying136 rfl rfl (less_slx _ _) (Nat.succ_pos _) (by simp; omega) (by simp; omega) ?_
    refine wz 4 ?_
    exact ⟨⟨j + 1, by omega⟩, by simp only; omega, sb 2 ⟨Less.eq (by rw [eS] <;> rfl), (by exact less_int (show r.bl + (j : Int) + 1 = r.bl + ((j + 1 : Nat) : Int) by omega)), jz, jz, trivial⟩ (hH := (congrArg (fun n => [_, AObj.tok n]) (congrArg List.length eS.symm)))⟩
   obtain rfl : j = nB r := by unfold nB at hj ⊢; omega
   have eR : ((allP r i (nB r)).map rtC) = ((allP r (i + 1) 0).map rtC) := by rw [allP_row hia]
   refine wz 3 ?_
   exact ⟨⟨i + 1, by omega⟩, by simp only; omega, sb 2 ⟨Less.eq (by rw [eR] <;> rfl), (by exact less_int (show r.al + (i : Int) + 1 = r.al + ((i + 1 : Nat) : Int) by omega)), jz, trivial⟩ (hH := (congrArg (fun n => [_, AObj.tok n]) (congrArg List.length eR)))⟩
  obtain rfl : i = nA r := by unfold nA at hi ⊢; omega
  refine wz 2 ?_
  exact retQ_pure (v := .own _ _ _) rfl rfl (Less.trans (less_own _ _ _) (Less.eq (by rw [allP_end])))
theorem rdays_pure (rate near step : Int) (hr : 0 ≤ rate ∧ rate ≤ 1300) (hn : 0 ≤ near ∧ near ≤ 300) (hs : 1 ≤ step ∧ step ≤ 100) : APure Tryz.prog 51 [I rate, I near, I step] (I (days rate near step)) := by
  refine ap Tryz.func51 (fun e0 he0 => ?_)
  refine wz 8 ?_
  refine aw_loopk (ι := { d : Nat // (d = 0 ∨ near < (far (max (rate - 1000) (1000 - rate)) step (d - 1))) ∧ (d : Int) + (far (max (rate - 1000) (1000 - rate)) step d) ≤ 1000 }) [1, 2] (fun u => [(7, I (far (max (rate - 1000) (1000 - rate)) step u.1)), (8, I u.1)]) (fun H u => H) (fun u => (far (max (rate - 1000) (1000 - rate)) step u.1).toNat) (⟨0, .inl rfl, by rw [far_0 (by omega)]; simp; omega⟩) ⟨Less.eq (by rw [far_0 (by omega)] <;> rfl), jz, jz, jz, trivial⟩ rfl ?_
  rintro ⟨d, hd, hb⟩
  refine nz ?_
  have hf0 : 0 ≤ (far (max (rate - 1000) (1000 - rate)) step d) := by unfold far; omega
  refine wz 3 ?_
  refine iz (fun c_16 c_16' => ?_) (fun c_16 c_16' => ?_)
  ·refine wz 8 ?_
   exact ⟨⟨d + 1, .inr (by simpa using c_16'), by rw [far_succ hs.1]; omega⟩, by simp only; rw [far_succ hs.1]; omega, Sub.slots ⟨Less.eq (by rw [far_succ hs.1] <;> rfl), jz, jz, jz, trivial⟩⟩
  have hdd := days_of (rate := rate) hs.1 hn.1 (by omega) hd
  refine wz 2 ?_
  exact rz rfl (Less.eq (by rw [hdd]))
end Go.Proofs.YtjpokekbjmdgmaaGreatDoor
namespace Go.Proofs.YtjpokekbjmdgmaaGreatDoor
open Go Go.Ab Ni Hd
def frm (now : List Int) : Nat := if h : 0 < now.length then (now[now.length - 1]).toNat + 1 else 0
end Go.Proofs.YtjpokekbjmdgmaaGreatDoor
namespace Go.Proofs.YtjpokekbjmdgmaaGreatDoor
open Go Go.Ab Ni Hd
theorem fitE_5 {r : Rg} {h : Nat} {f : List Int} (ho : okF r h f = true) (hm : may r h f = false) : fitE r h f true = 5 := by unfold fitE; rw [ho]; simp [hm]
theorem joi_len (r : Rg) (h : Nat) (f : List Int) : (jointsOf r h f).length = r.kinds.length := by simp [jointsOf]
end Go.Proofs.YtjpokekbjmdgmaaGreatDoor
namespace Go.Proofs.YtjpokekbjmdgmaaGreatDoor
open Go Go.Ab Ni Hd
theorem rfindL_pure (r : Rg) (f : List Int) (hl : (f.length : Int) ≤ 9223372036854775807) : APure Tryz.prog 24 [rgA r, ints f] (B (fdOK r f)) := by
  refine ap Tryz.func24 (fun e0 he0 => ?_)
  refine wz 3 ?_
  refine aw_loopk (ι := { k : Nat // k ≤ f.length ∧ ∀ i, (hi : i < f.length) → i < k → inn f[i] (-1) 1000 = true }) [1, 2] (fun i => [(5, I i.1)]) (fun H i => H) (fun i => f.length - i.1) (⟨0, Nat.zero_le _, by omega⟩) ⟨jz, jz, jz, trivial⟩ rfl ?_
  rintro ⟨k, hk, hok⟩
  refine nz ?_
  refine wz 4 ?_
  refine iz (fun c_9 c_9' => ?_) (fun c_9 c_9' => ?_)
  ·have hkl : k < f.length := by omega
   refine wz 4 ?_
   refine kz az (rin_pure _ _ _) ?_
   refine wz 1 ?_
   refine iz (fun c_17 c_17' => ?_) (fun c_17 c_17' => ?_)
   ·refine wz 1 ?_
    exact rz rfl (Less.eq (by rw [fd_bad hkl (by simpa using c_17)]))
   refine wz 3 ?_
   exact ⟨⟨k + 1, by omega, fun i hi h => (by by_cases e : i = k; (subst e; simpa using c_17); exact hok i hi (by omega))⟩, by simp only; omega, Sub.slots ⟨jz, jz, jz, trivial⟩⟩
  obtain rfl : k = f.length := by omega
  have hall : (f.all fun n => inn n (-1) 1000) = true := all_of fun j hj => hok j hj hj
  refine wz 7 ?_
  exact rz rfl (Less.eq (congrArg B (by unfold fdOK; rw [hall, Bool.and_true, Bool.eq_iff_iff]; simp; omega)))
theorem rated_b {r : Rg} {x : Rt} {b : Bool} (h : rtOK r x = b) : APure Tryz.prog 23 [rgA r, rtA x] (B b) := by have q := rrated_pure r x; rw [h] at q; exact q
theorem slim_of {r : Rg} {f : List Int} (hr : rgOK r = true) (hd : fdOK r f = true) : f.length ≤ 1000000 := by have h1 := (rgOK_B hr).nk; have h2 := (fdOK_iff.1 hd).1; omega
theorem okM_of {r : Rg} {l : List Int} (h1 : l.Pairwise (· < ·)) (h2 : ∀ x ∈ l, ∃ m : Nat, x = m ∧ m < r.kinds.length) : okM r l = true :=
  okM_yes fun i hi => ⟨by obtain ⟨m, e, hm⟩ := h2 _ (List.getElem_mem hi); rw [msIn_iff, e]; omega, fun q => List.pairwise_iff_getElem.1 h1 (i - 1) i (by omega) hi (by omega)⟩
theorem chA_okM (r : Rg) (h : Nat) (f : List Int) (x : Rt) : okM r (chA r h f x) = true :=
  okM_of (nums_rising _ _) fun n hn => by obtain ⟨m, hm, _, e⟩ := mem_nums.1 hn; exact ⟨m, e, hm⟩
theorem measL_b {r : Rg} {l : List Int} (hs : shB r = true) (hl : l.length ≤ 1000000) {b : Bool} (h : okM r l = b) : APure Tryz.prog 28 [rgA r, ints l] (B b) := by have q := rmeasures_pure r l (shB_len hs).1 hl; rw [h] at q; exact q
end Go.Proofs.YtjpokekbjmdgmaaGreatDoor
namespace Go.Proofs.YtjpokekbjmdgmaaGreatDoor
open Go Go.Ab Ni Hd
theorem raskedL_pure (r : Rg) (n : Int) (f : List Int) (hk : r.kinds.length ≤ 1000000) (hh : r.hides.length ≤ 1000000) (hw : ∀ h ∈ r.hides, h.length ≤ 1000000) (hl : (f.length : Int) ≤ 9223372036854775807) : APure Tryz.prog 33 [rgA r, I n, ints f] (B (okF r n f)) := by
  refine ap Tryz.func33 (fun e0 he0 => ?_)
  refine wz 3 ?_
  refine kz az (register_pure r hk hh hw) ?_
  refine wz 1 ?_
  refine sz 9 (fun g1_2 g1_2' => ?_) (fun g1_2 g1_2' => ?_)
  ·refine wz 2 ?_
   refine ky az (rhide_pure r n hh) ?_
   refine wz 2 ?_
   refine sz 14 (fun g1_7 g1_7' => ?_) (fun g1_7 g1_7' => ?_)
   ·refine wz 2 ?_
    refine ky az (rfindL_pure r f hl) ?_
    refine wz 2 ?_
    exact rz rfl (Less.eq (by unfold okF; simp [*]))
   refine wz 5 ?_
   exact rz rfl (Less.eq (by unfold okF; simp [*]))
  refine wz 10 ?_
  exact rz rfl (Less.eq (by unfold okF; simp [*]))
theorem asked_any {r : Rg} {n : Int} {f : List Int} (hs : shB r = true) (hl : (f.length : Int) ≤ 9223372036854775807) {b : Bool} (h : okF r n f = b) : APure Tryz.prog 33 [rgA r, I n, ints f] (B b) := by have q := raskedL_pure r n f (shB_len hs).1 (shB_len hs).2.1 (shB_len hs).2.2 hl; rw [h] at q; exact q
theorem okF_slim {r : Rg} {n : Int} {f : List Int} (h : okF r n f = true) : f.length ≤ 1000000 := slim_of (okF_facts h).2.2.2.1 (okF_facts h).2.2.2.2
end Go.Proofs.YtjpokekbjmdgmaaGreatDoor
namespace Go.Proofs.YtjpokekbjmdgmaaGreatDoor
open Go Go.Ab Ni Hd
theorem dr_5s {r : Rg} {h : Nat} {f : List Int} {near step : Int} (hs : shB r = true) (ho : okF r h f = true) (hd : okD near step = true) (hm : may r h f = false) : APure Tryz.prog 50 [rgA r, I h, ints f, I near, I step] (.tup [.agg [I 0, I 0], I 5]) := by
  have e : fitE r h f (okD near step) = 5 := by unfold fitE; rw [ho, hd]; simp [hm]
  have q := dries_bad r h f near step (shB_len hs).1 (shB_len hs).2.1 (shB_len hs).2.2 (okF_slim ho) (by rw [e]; decide)
  rw [e] at q; exact q
theorem rt_5 {r : Rg} {h : Nat} {f : List Int} (hs : shB r = true) (ho : okF r h f = true) (hm : may r h f = false) : APure Tryz.prog 43 [rgA r, I h, ints f] (.tup [.agg [I 0, I 0], .agg [I 0, I 0], I 5]) := by
  have q := rates_bad r h f (shB_len hs).1 (shB_len hs).2.1 (shB_len hs).2.2 (okF_slim ho) (by rw [fitE_5 ho hm]; decide)
  rw [fitE_5 ho hm] at q; exact q
theorem jo_5 {r : Rg} {h : Nat} {f : List Int} (hs : shB r = true) (ho : okF r h f = true) (hm : may r h f = false) : APure Tryz.prog 44 [rgA r, I h, ints f] (.tup [ints [], I 5]) := by
  have q := joints_bad r h f (shB_len hs).1 (shB_len hs).2.1 (shB_len hs).2.2 (okF_slim ho) (by rw [fitE_5 ho hm]; decide)
  rw [fitE_5 ho hm] at q; exact q
theorem joi_at {r : Rg} {h : Nat} {f : List Int} {i : Nat} (hi : i < (jointsOf r h f).length) : (jointsOf r h f)[i] = jointW r h f i := by simp [jointsOf]
theorem law9_0 {r : Rg} {n : Int} {f : List Int} {x : Rt} {near step : Int}  (hs : shB r = false) (hl : (f.length : Int) ≤ 9223372036854775807) : APure Tryz.prog 9 [rgA r, I n, ints f, rtA x, I near, I step] (B true) := by
  refine ap Tryz.func9 (fun e0 he0 => ?_)
  refine wz 4 ?_
  refine kz az (short_f hs) ?_
  refine wz 31 ?_
  refine kz az (known_pure) ?_
  refine wz 1 ?_
  exact rz rfl jz
theorem law9_1 {r : Rg} {n : Int} {f : List Int} {x : Rt} {near step : Int} (hs : shB r = true) (ho : okF r n f = false) (hl : (f.length : Int) ≤ 9223372036854775807) : APure Tryz.prog 9 [rgA r, I n, ints f, rtA x, I near, I step] (B true) := by
  refine ap Tryz.func9 (fun e0 he0 => ?_)
  refine wz 4 ?_
  refine kz az (short_t hs) ?_
  refine wz 5 ?_
  refine ky az (asked_any hs hl ho) ?_
  refine wz 25 ?_
  refine kz az (known_pure) ?_
  refine wz 1 ?_
  exact rz rfl jz
theorem law9_2 {r : Rg} {n : Int} {f : List Int} {x : Rt} {near step : Int} (hs : shB r = true) (ho : okF r n f = true) (hx : rtOK r x = false) (hl : (f.length : Int) ≤ 9223372036854775807) : APure Tryz.prog 9 [rgA r, I n, ints f, rtA x, I near, I step] (B true) := by
  refine ap Tryz.func9 (fun e0 he0 => ?_)
  refine wz 4 ?_
  refine kz az (short_t hs) ?_
  refine wz 5 ?_
  refine ky az (asked_any hs hl ho) ?_
  refine wz 5 ?_
  refine ky az (rated_b hx) ?_
  refine wz 19 ?_
  refine kz az (known_pure) ?_
  refine wz 1 ?_
  exact rz rfl jz
theorem law9_3 {r : Rg} {n : Int} {f : List Int} {x : Rt} {near step : Int} (hs : shB r = true) (ho : okF r n f = true) (hx : rtOK r x = true) (hd : okD near step = false) (hl : (f.length : Int) ≤ 9223372036854775807) : APure Tryz.prog 9 [rgA r, I n, ints f, rtA x, I near, I step] (B true) := by
  refine ap Tryz.func9 (fun e0 he0 => ?_)
  refine wz 4 ?_
  refine kz az (short_t hs) ?_
  refine wz 5 ?_
  refine ky az (asked_any hs hl ho) ?_
  refine wz 5 ?_
  refine ky az (rated_b hx) ?_
  refine wz 7 ?_
  refine sz 46 (fun g1_20 g1_20' => ?_) (fun g1_20 g1_20' => ?_)
  ·refine wz 12 ?_
   refine kz az (known_pure) ?_
   refine wz 1 ?_
   exact rz rfl jz
  refine wz 4 ?_
  refine sz 50 (fun g1_24 g1_24' => ?_) (fun g1_24 g1_24' => ?_)
  ·refine wz 8 ?_
   refine kz az (known_pure) ?_
   refine wz 1 ?_
   exact rz rfl jz
  refine wz 4 ?_
  refine sz 54 (fun g1_28 g1_28' => ?_) (fun g1_28 g1_28' => ?_)
  ·refine wz 4 ?_
   refine kz az (known_pure) ?_
   refine wz 1 ?_
   exact rz rfl jz
  refine wz 3 ?_
  refine iz (fun c_57 c_57' => ?_) (fun c_57 c_57' => ?_)
  ·refine wz 0 ?_
   refine kz az (known_pure) ?_
   refine wz 1 ?_
   exact rz rfl jz
  exfalso
  have h5 := okD_iff (near := near) (step := step)
  rw [hd] at h5
  simp only [Bool.false_eq_true, false_iff] at h5
  omega
theorem law9_n {r : Rg} {h : Nat} {f : List Int} {x : Rt} {near step : Int} (hs : shB r = true) (ho : okF r h f = true) (hhl : h < r.hides.length) (hx : rtOK r x = true) (hd : okD near step = true) (hn : 0 ≤ near ∧ near ≤ 300) (hq : 1 ≤ step ∧ step ≤ 100) (hm : may r h f = false) (hl : (f.length : Int) ≤ 9223372036854775807) : APure Tryz.prog 9 [rgA r, I h, ints f, rtA x, I near, I step] (B true) := by
  refine ap Tryz.func9 (fun e0 he0 => ?_)
  refine aw_seq ?_
  have gB := (okF_facts ho).1
  have hcl := chA_le gB h f x
  have hfk := (okF_facts ho).2.2.1
  have hnk := gB.nk
  have hno : ¬ ((chA r h f x).length : Int) ≤ r.mends := fun q => by have := (may_iff gB).2 ⟨x, hx, q⟩; rw [hm] at this; cases this
  refine wz 4 ?_
  refine kz az (short_t hs) ?_
  refine wz 5 ?_
  refine ky az (asked_any hs hl ho) ?_
  refine wz 5 ?_
  refine ky az (rated_b hx) ?_
  refine wz 7 ?_
  refine sz 46 (fun g1_20 g1_20' => ?_) (fun g1_20 g1_20' => ?_)
  ·exfalso
   omega
  refine wz 4 ?_
  refine sz 50 (fun g1_24 g1_24' => ?_) (fun g1_24 g1_24' => ?_)
  ·exfalso
   omega
  refine wz 4 ?_
  refine sz 54 (fun g1_28 g1_28' => ?_) (fun g1_28 g1_28' => ?_)
  ·exfalso
   omega
  refine wz 3 ?_
  refine iz (fun c_57 c_57' => ?_) (fun c_57 c_57' => ?_)
  ·exfalso
   omega
  refine wz 4 ?_
  refine kz az (changes_ok (shB_len hs).1 (shB_len hs).2.1 (shB_len hs).2.2 (okF_slim ho) (show okC r h f x = true by unfold okC; rw [ho, hx]; rfl)) ?_
  refine wz 8 ?_
  refine kz az (rt_5 hs ho hm) ?_
  refine wz 12 ?_
  refine kz az (jo_5 hs ho hm) ?_
  refine wz 10 ?_
  refine kz az (dr_5s hs ho hd hm) ?_
  refine wz 11 ?_
  refine ky az (measL_b hs (by have := chA_le (okF_facts ho).1 h f x; omega) (chA_okM r h f x)) ?_
  refine wz 27 ?_
  refine sz 123 (fun g7_32 g7_32' => ?_) (fun g7_32 g7_32' => ?_)
  ·exfalso
   omega
  refine wz 10 ?_
  refine iz (fun c_132 c_132' => ?_) (fun c_132 c_132' => ?_)
  ·refine wz 0 ?_
   refine kz az (known_pure) ?_
   refine wz 1 ?_
   exact rz rfl jz
  exfalso
  omega
theorem law9_k {r : Rg} {h : Nat} {f : List Int} {x : Rt} {near step : Int} (hs : shB r = true) (ho : okF r h f = true) (hhl : h < r.hides.length) (hx : rtOK r x = true) (hd : okD near step = true) (hn : 0 ≤ near ∧ near ≤ 300) (hq : 1 ≤ step ∧ step ≤ 100) {p q u v d e : Int} {jl : List Int} {e1 e2 : Nat → Int} (h43 : APure Tryz.prog 43 [rgA r, I h, ints f] (.tup [.agg [I p, I q], .agg [I u, I v], I 0])) (h44 : APure Tryz.prog 44 [rgA r, I h, ints f] (.tup [ints jl, I 0])) (h50 : APure Tryz.prog 50 [rgA r, I h, ints f, I near, I step] (.tup [.agg [I d, I e], I 0])) (h45 : ∀ i : Nat, i < r.kinds.length → APure Tryz.prog 45 [rgA r, I h, ints f, I i] (.tup [.agg [I (e1 i), I (e2 i)], I 0])) (hc : r.mends < ((chA r h f x).length : Int)) (hl : (f.length : Int) ≤ 9223372036854775807) : APure Tryz.prog 9 [rgA r, I h, ints f, rtA x, I near, I step] (B true) := by
  refine ap Tryz.func9 (fun e0 he0 => ?_)
  refine aw_seq ?_
  have gB := (okF_facts ho).1
  have hcl := chA_le gB h f x
  have hfk := (okF_facts ho).2.2.1
  have hnk := gB.nk
  refine wz 4 ?_
  refine kz az (short_t hs) ?_
  refine wz 5 ?_
  refine ky az (asked_any hs hl ho) ?_
  refine wz 5 ?_
  refine ky az (rated_b hx) ?_
  refine wz 7 ?_
  refine sz 46 (fun g1_20 g1_20' => ?_) (fun g1_20 g1_20' => ?_)
  ·exfalso
   omega
  refine wz 4 ?_
  refine sz 50 (fun g1_24 g1_24' => ?_) (fun g1_24 g1_24' => ?_)
  ·exfalso
   omega
  refine wz 4 ?_
  refine sz 54 (fun g1_28 g1_28' => ?_) (fun g1_28 g1_28' => ?_)
  ·exfalso
   omega
  refine wz 3 ?_
  refine iz (fun c_57 c_57' => ?_) (fun c_57 c_57' => ?_)
  ·exfalso
   omega
  refine wz 4 ?_
  refine kz az (changes_ok (shB_len hs).1 (shB_len hs).2.1 (shB_len hs).2.2 (okF_slim ho) (show okC r h f x = true by unfold okC; rw [ho, hx]; rfl)) ?_
  refine wz 8 ?_
  refine kz az (h43) ?_
  refine wz 12 ?_
  refine kz az (h44) ?_
  refine wz 10 ?_
  refine kz az (h50) ?_
  refine wz 11 ?_
  refine ky az (measL_b hs (by have := chA_le (okF_facts ho).1 h f x; omega) (chA_okM r h f x)) ?_
  refine wz 27 ?_
  refine sz 123 (fun g7_32 g7_32' => ?_) (fun g7_32 g7_32' => ?_)
  ·exfalso
   omega
  refine wz 10 ?_
  refine iz (fun c_132 c_132' => ?_) (fun c_132 c_132' => ?_)
  ·refine wz 0 ?_
   refine kz az (known_pure) ?_
   refine wz 1 ?_
   exact rz rfl jz
  exfalso
  omega
theorem law9_m {r : Rg} {h : Nat} {f : List Int} {x : Rt} {near step : Int} (hs : shB r = true) (ho : okF r h f = true) (hhl : h < r.hides.length) (hx : rtOK r x = true) (hd : okD near step = true) (hn : 0 ≤ near ∧ near ≤ 300) (hq : 1 ≤ step ∧ step ≤ 100) {p q u v d e : Int} {jl : List Int} {e1 e2 : Nat → Int} (h43 : APure Tryz.prog 43 [rgA r, I h, ints f] (.tup [.agg [I p, I q], .agg [I u, I v], I 0])) (h44 : APure Tryz.prog 44 [rgA r, I h, ints f] (.tup [ints jl, I 0])) (h50 : APure Tryz.prog 50 [rgA r, I h, ints f, I near, I step] (.tup [.agg [I d, I e], I 0])) (h45 : ∀ i : Nat, i < r.kinds.length → APure Tryz.prog 45 [rgA r, I h, ints f, I i] (.tup [.agg [I (e1 i), I (e2 i)], I 0])) (hc : ((chA r h f x).length : Int) ≤ r.mends) (hab : (p ≤ x.a ∧ x.a ≤ q) ∧ (u ≤ x.b ∧ x.b ≤ v)) (hde : d ≤ max (days x.a near step) (days x.b near step) ∧ max (days x.a near step) (days x.b near step) ≤ e) (hjl : jl.length = f.length) (hj1 : ∀ i : Nat, (hi : i < jl.length) → (i : Int) ∈ chA r h f x → jl[i] ≠ 1) (hj3 : ∀ i : Nat, (hi : i < jl.length) → ¬ (i : Int) ∈ chA r h f x → jl[i] ≠ 3) (hex : ∀ i : Nat, (hi : i < f.length) → 0 ≤ f[i] → ¬ (i : Int) ∈ chA r h f x → e1 i ≤ f[i] ∧ f[i] ≤ e2 i) (hl : (f.length : Int) ≤ 9223372036854775807) : APure Tryz.prog 9 [rgA r, I h, ints f, rtA x, I near, I step] (B true) := by
  refine ap Tryz.func9 (fun e0 he0 => ?_)
  refine aw_seq ?_
  have gB := (okF_facts ho).1
  have hcl := chA_le gB h f x
  have hfk := (okF_facts ho).2.2.1
  have hnk := gB.nk
  refine wz 4 ?_
  refine kz az (short_t hs) ?_
  refine wz 5 ?_
  refine ky az (asked_any hs hl ho) ?_
  refine wz 5 ?_
  refine ky az (rated_b hx) ?_
  refine wz 7 ?_
  refine sz 46 (fun g1_20 g1_20' => ?_) (fun g1_20 g1_20' => ?_)
  ·exfalso
   omega
  refine wz 4 ?_
  refine sz 50 (fun g1_24 g1_24' => ?_) (fun g1_24 g1_24' => ?_)
  ·exfalso
   omega
  refine wz 4 ?_
  refine sz 54 (fun g1_28 g1_28' => ?_) (fun g1_28 g1_28' => ?_)
  ·exfalso
   omega
  refine wz 3 ?_
  refine iz (fun c_57 c_57' => ?_) (fun c_57 c_57' => ?_)
  ·exfalso
   omega
  refine wz 4 ?_
  refine kz az (changes_ok (shB_len hs).1 (shB_len hs).2.1 (shB_len hs).2.2 (okF_slim ho) (show okC r h f x = true by unfold okC; rw [ho, hx]; rfl)) ?_
  refine wz 8 ?_
  refine kz az (h43) ?_
  refine wz 12 ?_
  refine kz az (h44) ?_
  refine wz 10 ?_
  refine kz az (h50) ?_
  refine vz 6 ?_
  refine sq_nil ?_
  refine aw_seq ?_
  refine aw_seq ?_
  refine nz ?_
  dsimp only [List.append, List.set, List.length, List.take, List.drop, List.cons_append, List.nil_append, List.append_nil, Nat.zero_add, Nat.add_zero]
  refine wz 5 ?_
  refine ky az (measL_b hs (by have := chA_le (okF_facts ho).1 h f x; omega) (chA_okM r h f x)) ?_
  refine wz 27 ?_
  refine sz 123 (fun g7_32 g7_32' => ?_) (fun g7_32 g7_32' => ?_)
  ·refine wz 4 ?_
   refine iz (fun c_127 c_127' => ?_) (fun c_127 c_127' => ?_)
   ·exfalso
    simp at c_127'
   refine wz 5 ?_
   refine iz (fun c_132 c_132' => ?_) (fun c_132 c_132' => ?_)
   ·exfalso
    omega
   refine wz 0 ?_
   refine aw_draw 12 mo (by kernel_rfl) ?_
   refine dz 4 ?_
   refine dkz az (rdays_pure _ _ _ (rates_bd gB hx).1 hn hq) ?_
   refine dz 4 ?_
   refine dkz az (rdays_pure _ _ _ (rates_bd gB hx).2 hn hq) ?_
   refine dz 2 ?_
   refine wz 6 ?_
   refine sz 150 (fun g12_5 g12_5' => ?_) (fun g12_5 g12_5' => ?_)
   ·exfalso
    omega
   refine wz 7 ?_
   refine sz 157 (fun g12_12 g12_12' => ?_) (fun g12_12 g12_12' => ?_)
   ·exfalso
    omega
   refine wz 7 ?_
   refine sz 164 (fun g12_19 g12_19' => ?_) (fun g12_19 g12_19' => ?_)
   ·exfalso
    omega
   refine wz 7 ?_
   refine sz 171 (fun g12_26 g12_26' => ?_) (fun g12_26 g12_26' => ?_)
   ·exfalso
    omega
   refine wz 7 ?_
   refine sz 178 (fun g12_33 g12_33' => ?_) (fun g12_33 g12_33' => ?_)
   ·exfalso
    omega
   refine wz 6 ?_
   refine sz 184 (fun g12_39 g12_39' => ?_) (fun g12_39 g12_39' => ?_)
   ·exfalso
    omega
   refine wz 5 ?_
   refine iz (fun c_189 c_189' => ?_) (fun c_189 c_189' => ?_)
   ·exfalso
    omega
   refine wz 1 ?_
   refine aw_loopk (ι := { k : Nat // k ≤ f.length }) [1, 2, 6, 13, 18] (fun i => [(23, I i.1)]) (fun H i => H) (fun i => f.length - i.1) (⟨0, Nat.zero_le _⟩) ⟨jz, jz, jz, jz, jz, jz, trivial⟩ rfl ?_
   rintro ⟨k, hk⟩
   refine nz ?_
   refine wz 4 ?_
   refine iz (fun c_193 c_193' => ?_) (fun c_193 c_193' => ?_)
   ·have hkl : k < f.length := by omega
    have hkk : k < r.kinds.length := by omega
    have hkj : k < jl.length := by omega
    have k1 := hj1 k hkj
    have k3 := hj3 k hkj
    have kx := hex k hkl
    refine wz 2 ?_
    refine kz az (has_pure _ _ (by have := chA_le (okF_facts ho).1 h f x; omega)) ?_
    refine wz 1 ?_
    refine sz 199 (fun g17_3 g17_3' => ?_) (fun g17_3 g17_3' => ?_)
    ·refine wz 7 ?_
     refine sz 206 (fun g17_10 g17_10' => ?_) (fun g17_10 g17_10' => ?_)
     ·exfalso
      exact k1 (of_decide_eq_true g17_3) g17_10'
     refine wz 2 ?_
     refine ky az (has_pure _ _ (by have := chA_le (okF_facts ho).1 h f x; omega)) ?_
     refine wz 2 ?_
     refine sz 211 (fun g17_15 g17_15' => ?_) (fun g17_15 g17_15' => ?_)
     ·exfalso
      exact absurd g17_15 (by rw [g17_3]; decide)
     refine wz 12 ?_
     refine kz az (h45 k hkk) ?_
     refine vz 6 ?_
     refine sq_nil ?_
     refine aw_seq ?_
     refine nz ?_
     dsimp only [List.append, List.set, List.length, List.take, List.drop, List.cons_append, List.nil_append, List.append_nil, Nat.zero_add, Nat.add_zero]
     refine aw_draw 33 mo (by kernel_rfl) ?_
     refine dz 9 ?_
     refine dsz 235 (fun g20_8 g20_8' => ?_) (fun g20_8 g20_8' => ?_)
     ·refine dz 2 ?_
      refine dky az (has_pure _ _ (by have := chA_le (okF_facts ho).1 h f x; omega)) ?_
      refine dz 3 ?_
      refine dsz 241 (fun g20_14 g20_14' => ?_) (fun g20_14 g20_14' => ?_)
      ·exfalso
       exact absurd g20_14 (by rw [g17_3]; decide)
      refine dz 18 ?_
      refine wz 4 ?_
      exact ⟨⟨k + 1, by omega⟩, by simp only; omega, sb 5 ⟨jz, jz, jz, jz, jz, jz, trivial⟩⟩
     refine dz 24 ?_
     refine wz 4 ?_
     exact ⟨⟨k + 1, by omega⟩, by simp only; omega, sb 5 ⟨jz, jz, jz, jz, jz, jz, trivial⟩⟩
    refine wz 9 ?_
    refine ky az (has_pure _ _ (by have := chA_le (okF_facts ho).1 h f x; omega)) ?_
    refine wz 2 ?_
    refine sz 211 (fun g17_15 g17_15' => ?_) (fun g17_15 g17_15' => ?_)
    ·refine wz 7 ?_
     refine iz (fun c_218 c_218' => ?_) (fun c_218 c_218' => ?_)
     ·exfalso
      exact k3 (by simpa using g17_15) c_218'
     refine wz 4 ?_
     refine kz az (h45 k hkk) ?_
     refine vz 6 ?_
     refine sq_nil ?_
     refine aw_seq ?_
     refine nz ?_
     dsimp only [List.append, List.set, List.length, List.take, List.drop, List.cons_append, List.nil_append, List.append_nil, Nat.zero_add, Nat.add_zero]
     refine aw_draw 33 mo (by kernel_rfl) ?_
     refine dz 9 ?_
     refine dsz 235 (fun g20_8 g20_8' => ?_) (fun g20_8 g20_8' => ?_)
     ·refine dz 2 ?_
      refine dky az (has_pure _ _ (by have := chA_le (okF_facts ho).1 h f x; omega)) ?_
      refine dz 3 ?_
      refine dsz 241 (fun g20_14 g20_14' => ?_) (fun g20_14 g20_14' => ?_)
      ·refine dz 8 ?_
       refine dsz 249 (fun g20_22 g20_22' => ?_) (fun g20_22 g20_22' => ?_)
       ·exfalso
        have hk2 := kx (by omega) (by simpa using g20_14)
        omega
       refine dz 10 ?_
       refine wz 0 ?_
       refine iz (fun c_259 c_259' => ?_) (fun c_259 c_259' => ?_)
       ·exfalso
        have hk2 := kx (by omega) (by simpa using g20_14)
        omega
       refine wz 3 ?_
       exact ⟨⟨k + 1, by omega⟩, by simp only; omega, sb 5 ⟨jz, jz, jz, jz, jz, jz, trivial⟩⟩
      exfalso
      exact absurd g20_14 (by rw [g17_3]; decide)
     refine dz 24 ?_
     refine wz 4 ?_
     exact ⟨⟨k + 1, by omega⟩, by simp only; omega, sb 5 ⟨jz, jz, jz, jz, jz, jz, trivial⟩⟩
    exfalso
    exact absurd g17_15 (by rw [g17_3]; decide)
   obtain rfl : k = f.length := by omega
   refine wz 0 ?_
   refine kz az (known_pure) ?_
   refine wz 1 ?_
   exact rz rfl jz
  refine wz 10 ?_
  refine iz (fun c_132 c_132' => ?_) (fun c_132 c_132' => ?_)
  ·exfalso
   omega
  refine wz 0 ?_
  refine aw_draw 12 mo (by kernel_rfl) ?_
  refine dz 4 ?_
  refine dkz az (rdays_pure _ _ _ (rates_bd gB hx).1 hn hq) ?_
  refine dz 4 ?_
  refine dkz az (rdays_pure _ _ _ (rates_bd gB hx).2 hn hq) ?_
  refine dz 2 ?_
  refine wz 6 ?_
  refine sz 150 (fun g12_5 g12_5' => ?_) (fun g12_5 g12_5' => ?_)
  ·exfalso
   omega
  refine wz 7 ?_
  refine sz 157 (fun g12_12 g12_12' => ?_) (fun g12_12 g12_12' => ?_)
  ·exfalso
   omega
  refine wz 7 ?_
  refine sz 164 (fun g12_19 g12_19' => ?_) (fun g12_19 g12_19' => ?_)
  ·exfalso
   omega
  refine wz 7 ?_
  refine sz 171 (fun g12_26 g12_26' => ?_) (fun g12_26 g12_26' => ?_)
  ·exfalso
   omega
  refine wz 7 ?_
  refine sz 178 (fun g12_33 g12_33' => ?_) (fun g12_33 g12_33' => ?_)
  ·exfalso
   omega
  refine wz 6 ?_
  refine sz 184 (fun g12_39 g12_39' => ?_) (fun g12_39 g12_39' => ?_)
  ·exfalso
   omega
  refine wz 5 ?_
  refine iz (fun c_189 c_189' => ?_) (fun c_189 c_189' => ?_)
  ·exfalso
   omega
  refine wz 1 ?_
  refine aw_loopk (ι := { k : Nat // k ≤ f.length }) [1, 2, 6, 13, 18] (fun i => [(23, I i.1)]) (fun H i => H) (fun i => f.length - i.1) (⟨0, Nat.zero_le _⟩) ⟨jz, jz, jz, jz, jz, jz, trivial⟩ rfl ?_
  rintro ⟨k, hk⟩
  refine nz ?_
  refine wz 4 ?_
  refine iz (fun c_193 c_193' => ?_) (fun c_193 c_193' => ?_)
  ·have hkl : k < f.length := by omega
   have hkk : k < r.kinds.length := by omega
   have hkj : k < jl.length := by omega
   have k1 := hj1 k hkj
   have k3 := hj3 k hkj
   have kx := hex k hkl
   refine wz 2 ?_
   refine kz az (has_pure _ _ (by have := chA_le (okF_facts ho).1 h f x; omega)) ?_
   refine wz 1 ?_
   refine sz 199 (fun g17_3 g17_3' => ?_) (fun g17_3 g17_3' => ?_)
   ·refine wz 7 ?_
    refine sz 206 (fun g17_10 g17_10' => ?_) (fun g17_10 g17_10' => ?_)
    ·exfalso
     exact k1 (of_decide_eq_true g17_3) g17_10'
    refine wz 2 ?_
    refine ky az (has_pure _ _ (by have := chA_le (okF_facts ho).1 h f x; omega)) ?_
    refine wz 2 ?_
    refine sz 211 (fun g17_15 g17_15' => ?_) (fun g17_15 g17_15' => ?_)
    ·exfalso
     exact absurd g17_15 (by rw [g17_3]; decide)
    refine wz 12 ?_
    refine kz az (h45 k hkk) ?_
    refine vz 6 ?_
    refine sq_nil ?_
    refine aw_seq ?_
    refine nz ?_
    dsimp only [List.append, List.set, List.length, List.take, List.drop, List.cons_append, List.nil_append, List.append_nil, Nat.zero_add, Nat.add_zero]
    refine aw_draw 33 mo (by kernel_rfl) ?_
    refine dz 9 ?_
    refine dsz 235 (fun g20_8 g20_8' => ?_) (fun g20_8 g20_8' => ?_)
    ·refine dz 2 ?_
     refine dky az (has_pure _ _ (by have := chA_le (okF_facts ho).1 h f x; omega)) ?_
     refine dz 3 ?_
     refine dsz 241 (fun g20_14 g20_14' => ?_) (fun g20_14 g20_14' => ?_)
     ·exfalso
      exact absurd g20_14 (by rw [g17_3]; decide)
     refine dz 18 ?_
     refine wz 4 ?_
     exact ⟨⟨k + 1, by omega⟩, by simp only; omega, sb 5 ⟨jz, jz, jz, jz, jz, jz, trivial⟩⟩
    refine dz 24 ?_
    refine wz 4 ?_
    exact ⟨⟨k + 1, by omega⟩, by simp only; omega, sb 5 ⟨jz, jz, jz, jz, jz, jz, trivial⟩⟩
   refine wz 9 ?_
   refine ky az (has_pure _ _ (by have := chA_le (okF_facts ho).1 h f x; omega)) ?_
   refine wz 2 ?_
   refine sz 211 (fun g17_15 g17_15' => ?_) (fun g17_15 g17_15' => ?_)
   ·refine wz 7 ?_
    refine iz (fun c_218 c_218' => ?_) (fun c_218 c_218' => ?_)
    ·exfalso
     exact k3 (by simpa using g17_15) c_218'
    refine wz 4 ?_
    refine kz az (h45 k hkk) ?_
    refine vz 6 ?_
    refine sq_nil ?_
    refine aw_seq ?_
    refine nz ?_
    dsimp only [List.append, List.set, List.length, List.take, List.drop, List.cons_append, List.nil_append, List.append_nil, Nat.zero_add, Nat.add_zero]
    refine aw_draw 33 mo (by kernel_rfl) ?_
    refine dz 9 ?_
    refine dsz 235 (fun g20_8 g20_8' => ?_) (fun g20_8 g20_8' => ?_)
    ·refine dz 2 ?_
     refine dky az (has_pure _ _ (by have := chA_le (okF_facts ho).1 h f x; omega)) ?_
     refine dz 3 ?_
     refine dsz 241 (fun g20_14 g20_14' => ?_) (fun g20_14 g20_14' => ?_)
     ·refine dz 8 ?_
      refine dsz 249 (fun g20_22 g20_22' => ?_) (fun g20_22 g20_22' => ?_)
      ·exfalso
       have hk2 := kx (by omega) (by simpa using g20_14)
       omega
      refine dz 10 ?_
      refine wz 0 ?_
      refine iz (fun c_259 c_259' => ?_) (fun c_259 c_259' => ?_)
      ·exfalso
       have hk2 := kx (by omega) (by simpa using g20_14)
       omega
      refine wz 3 ?_
      exact ⟨⟨k + 1, by omega⟩, by simp only; omega, sb 5 ⟨jz, jz, jz, jz, jz, jz, trivial⟩⟩
     exfalso
     exact absurd g20_14 (by rw [g17_3]; decide)
    refine dz 24 ?_
    refine wz 4 ?_
    exact ⟨⟨k + 1, by omega⟩, by simp only; omega, sb 5 ⟨jz, jz, jz, jz, jz, jz, trivial⟩⟩
   exfalso
   exact absurd g17_15 (by rw [g17_3]; decide)
  obtain rfl : k = f.length := by omega
  refine wz 0 ?_
  refine kz az (known_pure) ?_
  refine wz 1 ?_
  exact rz rfl jz
/-- **HideWithin.** -/
theorem law9 (r : Rg) (n : Int) (_ : -9223372036854775808 ≤ n) (_ : n ≤ 9223372036854775807) (f : List Int) (hl : (f.length : Int) ≤ 9223372036854775807) (x : Rt) (near : Int) (_ : -9223372036854775808 ≤ near) (_ : near ≤ 9223372036854775807) (step : Int) (_ : -9223372036854775808 ≤ step) (_ : step ≤ 9223372036854775807) : APure Tryz.prog 9 [rgA r, I n, ints f, rtA x, I near, I step] (B true) := by
  cases hs : shB r with
  | false => exact law9_0 hs hl
  | true =>
    cases ho : okF r n f with
    | false => exact law9_1 hs ho hl
    | true =>
      cases hx : rtOK r x with
      | false => exact law9_2 hs ho hx hl
      | true =>
        cases hd : okD near step with
        | false => exact law9_3 hs ho hx hd hl
        | true =>
          obtain ⟨gB, ⟨h, rfl, hhl⟩, hfk, _, hfd⟩ := okF_facts ho
          have hnq := okD_iff.1 hd
          cases hm : may r h f with
          | false => exact law9_n hs ho hhl hx hd (by omega) (by omega) hm hl
          | true =>
            have h45 : ∀ i : Nat, i < r.kinds.length → APure Tryz.prog 45 [rgA r, I h, ints f, I i] (.tup [.agg [I (expOf r h f i).1, I (expOf r h f i).2], I 0]) := fun i hi => expected_ok (shB_len hs).1 (shB_len hs).2.1 (shB_len hs).2.2 (okF_slim ho) ho hm (msIn_iff.2 (by omega))
            rcases Int.lt_or_le r.mends ((chA r h f x).length : Int) with hc | hc
            · exact law9_k hs ho hhl hx hd (by omega) (by omega) (rates_ok (shB_len hs).1 (shB_len hs).2.1 (shB_len hs).2.2 (okF_slim ho) ho hm) (joints_ok (shB_len hs).1 (shB_len hs).2.1 (shB_len hs).2.2 (okF_slim ho) ho hm) (dries_ok (shB_len hs).1 (shB_len hs).2.1 (shB_len hs).2.2 (okF_slim ho) ho hm hd) h45 hc hl
            · have hin : x ∈ fit r h f := (mem_fit gB).2 ⟨hx, hc⟩
              refine law9_m hs ho hhl hx hd (by omega) (by omega) (rates_ok (shB_len hs).1 (shB_len hs).2.1 (shB_len hs).2.2 (okF_slim ho) ho hm) (joints_ok (shB_len hs).1 (shB_len hs).2.1 (shB_len hs).2.2 (okF_slim ho) ho hm) (dries_ok (shB_len hs).1 (shB_len hs).2.1 (shB_len hs).2.2 (okF_slim ho) ho hm hd) h45 hc (rates_in hin) (dries_in hin) (by rw [joi_len, hfk]) (fun i hi q => ?_) (fun i hi q => ?_) (fun i hi h0 q => ?_) hl
              · rw [joi_at]; exact joint_1 hin (mem_chA.1 q).2
              · rw [joi_at]; exact joint_3 hin (Bool.eq_false_iff.2 fun z => q (mem_chA.2 ⟨by rw [joi_len] at hi; exact hi, z⟩))
              · have := exp_in (m := i) hin (by rw [getD_at hi]; exact h0) (Bool.eq_false_iff.2 fun z => q (mem_chA.2 ⟨by omega, z⟩))
                rw [getD_at hi] at this; exact this
end Go.Proofs.YtjpokekbjmdgmaaGreatDoor
