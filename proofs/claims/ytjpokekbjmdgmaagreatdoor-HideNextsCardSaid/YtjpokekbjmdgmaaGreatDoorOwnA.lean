/-
  A part of the proof: conditions: none beyond each theorem's own.
-/
import Derived.Test.YtjpokekbjmdgmaaGreatDoorLogicA
import Derived.RangeFuncCalls
import Derived.IntWalk
import Derived.Test.YtjpokekbjmdgmaaGreatDoorLogicD
import Derived.Deep.Slices
import Derived.OpenShut
import Derived.Carry
import Derived.Test.YtjpokekbjmdgmaaGreatDoorLogicC
import Derived.Test.YtjpokekbjmdgmaaGreatDoorSpecA
import Derived.Test.YtjpokekbjmdgmaaGreatDoorProg
import Derived.KernelRfl
import Derived.Lib.LaidTab
import Derived.Lib.ItoaNum
import Derived.Test.YtjpokekbjmdgmaaGreatDoorWalkC
import Derived.Test.YtjpokekbjmdgmaaGreatDoorWalkB
import Derived.Test.YtjpokekbjmdgmaaGreatDoorWalkE
import Derived.Test.YtjpokekbjmdgmaaGreatDoorLogicB
import Derived.Test.YtjpokekbjmdgmaaGreatDoorShelf
import Derived.Test.YtjpokekbjmdgmaaGreatDoorWalkA
import Derived.Test.YtjpokekbjmdgmaaGreatDoorWalkD
import Derived.Test.YtjpokekbjmdgmaaGreatDoorRow
set_option linter.all false
set_option maxRecDepth 100000
set_option maxHeartbeats 8000000
namespace Go.Ab
variable [Tabs]
theorem FW_room (r : Option Nat) (n : Nat) : (FW r).room n := fun _ h => by simp [FW] at h
variable {c : Ctx} {Q : AExit → St → Prop} {s : St}
end Go.Ab
namespace Go.Ab
variable [Tabs]
section types
variable {P : Program} {w : World}
end types
section ops
variable {P : Program} {r : Option Nat} {H : List AObj} {ρ : Operand → AV}
variable {d : Option Tmp} {t : TypeId} {p : String} {af : Array Edge} {g : Option (Nat × Bool)}
variable {x y z : Operand}
theorem ev_neg {k : IntKind} {n q : Int} {xt : TypeId} (hx : Less (ρ x) (.raw (.int k n))) (hq : k.wrap (0 - n) = q) : Ev P r ⟨d, .unOp .neg xt x, t, p, af, g⟩ H ρ (.raw (.int k q)) :=
  Ev.pure (by intro c h; cases h) fun e ρc _ _ hs => by
    have e1 := rep_raw hx (hs x (by simp [Op.operands]))
    exact ⟨.int k q, by rw [← hq]; simp [execOp, e1, Op.unary, Op.intArith], by rw [Rep]⟩
end ops
end Go.Ab
namespace Go.Ab
open Go.ChangeShapes Go.WideShapes
variable [Tabs]
theorem env0_ok {w : World} (h : Tabs.is w) (hb : ∀ b, Tabs.blk b → b < w.heap.size) : EnvOK (env0 w) :=
  ⟨fun b hb => by have hb' : w.heap.size ≤ b := hb
                  have : w.heap[b]? = none := by simpa using hb'
                  simp [env0, this], fun i o h => by simp [env0] at h, fun i j b hi => by simp [env0] at hi, fun i b hi => by simp [env0] at hi, h, fun b hk => ⟨hb b hk, fun i hi => by simp [env0] at hi⟩⟩
section
variable {H : Type} {enc : TypeId × Value → H} {P : Program} {w : World} {base : Nat} {spare : Nat → Bool} {held : Bool}
theorem trodAll_stays (hl : laidOutB P = true) {W W' : World} (hheap : ∀ b, b < W.heap.size → W'.heap[b]? = W.heap[b]?) {sp' : Nat → Bool} :
    ∀ {ts : List TypeId} {vs : List Value} {ds : List (DataW H)} {ps : List MemPlace}, (∀ t ∈ ts, P.readableRec t = true ∧ t < P.types.size) → DataW.TrodAll enc P W base (fun _ => true) true ts vs ds ps → (∀ p ∈ ps, p.block < W.heap.size) → (∀ p ∈ ps, sp' p.block = true) →
      DataW.TrodAll enc P W' base sp' true ts vs ds ps
  | [], _, _, _, _, h, _, _ => by
    obtain ⟨rfl, rfl, rfl⟩ := trodAll_nil h
    exact trodAll_mk0
  | t :: ts, _, _, _, ht, h, hlt, hs => by
    obtain ⟨v, vs1, d, ds1, a, b, rfl, rfl, rfl, h1, h2⟩ := trodAll_cons h
    refine trodAll_cons_mk (WideElems.Trod_stays hl (ht t (by simp)).1 (ht t (by simp)).2 h1 (fun p hp => ?_) (fun p hp => hs p (by simp [hp]))) (trodAll_stays hl hheap (fun u hu => ht u (List.mem_cons_of_mem _ hu)) h2 (fun p hp => hlt p (by simp [hp])) (fun p hp => hs p (by simp [hp])))
    have hb := hheap p.block (hlt p (by simp [hp]))
    cases p with
    | cell b o => exact cell?_of_heap hb
    | map b => exact hb
/-- **What a law's row asks of a call that returns true and leaves what it met.** -/
theorem post_true {f : Func} {s : ChangeSpec} {W W' : World} {args : Array Value} {ds gs : List (DataW H)} {before : List MemPlace} {tb : TypeId} (hl : laidOutB P = true) (hread : ∀ t ∈ f.params.toList, P.readableRec t = true ∧ t < P.types.size)
    (hres : f.resultTypes = #[tb]) (htb : P.underlying tb = some .bool) (hvars : s.vars = []) (hspec : (s.fn H ds).results = [.lit (.bool true)] ∧ (s.fn H ds).args = ds ∧ (s.fn H ds).vars = [])
    (hW : DataW.Whole enc P f.params.toList s.vars false W args.toList ds gs before) (hheap : ∀ b, b < W.heap.size → W'.heap[b]? = W.heap[b]?) (hst : Still W W') :
    s.post enc P f false true false false W args (.bool true) W' := by
  have hlt := hW.lt
  have hW0 := hW
  obtain ⟨p, q, h1, h2, rfl, _, _⟩ := hW
  rw [hvars] at h2
  obtain ⟨rfl, rfl⟩ := trodVars_none h2
  simp only [List.append_nil] at hlt
  obtain ⟨e1, e2, e3⟩ := hspec
  refine ⟨ds, [], p ++ [], [], p, [], hW0, ?_, ?_, ?_, ?_, fun h => by cases h⟩
  · rw [List.append_nil, e1, hres]
    exact trodAll_cons_mk (RowKit.shut_bool htb _) trodAll_mk0
  · rw [List.append_nil, e2]
    exact trodAll_stays hl hheap hread h1 hlt (fun p hp => by simpa using hlt p hp)
  · rw [List.append_nil, e3, hvars]; rfl
  · refine ⟨hst.1, hst.2, fun i hi => ?_⟩
    rw [hheap i hi]
    split <;> simp_all
theorem APure.law {f : FuncId} {args : List AV} {W : World} {vs : Array Value} (hc : APure P f args (.raw (.bool true))) (ht : Tabs.is W) (hb : ∀ b, Tabs.blk b → b < W.heap.size) (hr : RepL (env0 W) args vs.toList) :
    Calls P f vs W fun x W' => x = .returned (.bool true) ∧ (∀ b, b < W.heap.size → W'.heap[b]? = W.heap[b]?) ∧ Still W W' := by
  refine ((hc (env0 W) vs (env0_ok ht hb) hr).calls (fun k => FW_room none k)).mono ?_
  rintro x w' ⟨u, e', rfl, rfl, hx, hu⟩
  rw [Rep] at hu; subst hu
  exact ⟨rfl, hx.heap, hx.still⟩
end
end Go.Ab
namespace Go.Ab
variable [Tabs]
section seq
variable {c : Ctx} {ops : Array Oper} {Q : AExit → St → Prop} {rest : List Oper} {s : St} {i : Nat}
variable {d : Option Tmp} {op : Op} {t : TypeId} {p : String} {af : Array Edge}
end seq
section cond
variable {c : Ctx} {Q : AExit → St → Prop} {s : St} {x : Operand} {y z : Code}
end cond
section split
variable {c : Ctx} {ops : Array Oper} {Q : AExit → St → Prop} {s : St} {i : Nat} {l : List Oper}
end split
section draw
variable {c : Ctx} {H0 : List AObj} {ops : Array Oper} {Q : AExit → St → Prop} {m i : Nat} {s : St} {rest : List Oper}
variable {d : Option Tmp} {op : Op} {t : TypeId} {p : String} {af : Array Edge}
end draw
section ex
variable {c : Ctx} {Q : AExit → St → Prop} {K : St → Prop} {s : St} {id j : Nat}
end ex
section app
variable {c : Ctx} {ops : Array Oper} {Q : AExit → St → Prop} {s : St} {i : Nat} {o : Oper} {l m : List Oper} {H0 : List AObj} {k : Nat}
end app
theorem W (n : Nat) {p q : Prop} (k : q) (h : Cnt n → (Unit → q) → p := by
  intro hc hk
  repeat (
    replace hc := Cnt.pred hc
    repeat (with_reducible (first | refine xn ?_ | refine sa ?_ | refine sa0 ?_ | refine aw_seq ?_ | refine aw_region ?_ | refine sq_nil ?_ | refine aw_skip ?_ | refine aw_block ?_ | refine bn ?_ | refine aw_exit ?_ | refine xe ?_ | refine be ?_ | refine bo ?_ | refine gn ?_ | refine ge ?_ | refine xr ?_ | refine br ?_ | refine gr ?_ | refine aw_label ?_ | refine aw_scope ?_))
    first
    | ((with_reducible apply sq_ev); exact rfl; exact EV)
    | ((with_reducible apply sn1); exact rfl; exact rfl; exact GD J; exact rfl)
    | ((with_reducible apply sn0); exact rfl; exact rfl; exact GD J; exact rfl)
    | ((with_reducible apply sq_yes); exact rfl; exact rfl; exact GD J; exact rfl; exact EV)
    | ((with_reducible apply su); exact rfl; exact rfl; exact J; exact rfl)
    | ((with_reducible apply sq_box); exact rfl; exact J; exact rfl)
    | ((with_reducible apply sq_alloc); exact rfl; exact ZeO.h)
    | ((with_reducible apply sq_store); exact rfl; exact J; exact J; exact rfl; exact rfl; exact TyF.h; exact rfl; exact rfl)
    | ((with_reducible refine aw_true ?_ ?_); exact GD J)
    | ((with_reducible refine aw_false ?_ ?_); exact GD J))
  repeat (with_reducible (first | refine xn ?_ | refine sa ?_ | refine sa0 ?_ | refine aw_seq ?_ | refine aw_region ?_ | refine sq_nil ?_ | refine aw_skip ?_ | refine aw_block ?_ | refine bn ?_ | refine aw_exit ?_ | refine xe ?_ | refine be ?_ | refine bo ?_ | refine gn ?_ | refine ge ?_ | refine xr ?_ | refine br ?_ | refine gr ?_ | refine aw_label ?_ | refine aw_scope ?_ | refine aw_ret ?_))
  exact hk ()) : p := h ⟨⟩ fun _ => k
end Go.Ab
namespace Go.Ab
variable [Tabs]
section flat
variable {α : Type} {f : α → List AV} {sz : Nat}
end flat
section seq
variable {c : Ctx} {ops : Array Oper} {Q : AExit → St → Prop} {rest : List Oper} {i : Nat}
variable {d : Option Tmp} {t : TypeId} {p : String} {af : Array Edge} {sl : List (Nat × AV)} {A X : List AObj} {df : List ADef} {α : Type} {f : α → List AV} {sz k : Nat} {R : List α} {rs : List AV}
theorem row_look (hk : k < A.length) : (A.set k (.cells ((R.map f).flatten ++ rs)) ++ X)[k]? = some (.cells ((R.map f).flatten ++ rs)) := by
  rw [List.getElem?_append_left (by simpa using hk), List.getElem?_set_self hk]
theorem sq_storeRow {st : TypeId} {x y : Operand} {a : AV} {bb : Bool} {n : Nat} {v : α} (hd : dOK c.nt d = true) (hdn : d = none) (hsz : ∀ a, (f a).length = sz) (hk : k < A.length) (hn : n < R.length)
    (hx : Less ((⟨sl, A.set k (.cells ((R.map f).flatten ++ rs)) ++ X, df⟩ : St).op x) (.ptr k (0 + n * sz))) (hy : Less ((⟨sl, A.set k (.cells ((R.map f).flatten ++ rs)) ++ X, df⟩ : St).op y) a) (hm : a.cells = some (f v)) (ht : tySz c.P st = some (bb, sz))
    (kk : SeqWP c ops Q (i + 1) rest ⟨sl, A.set k (.cells (((R.set n v).map f).flatten ++ rs)) ++ X, df⟩) : SeqWP c ops Q i (⟨d, .store st x y, t, p, af, none⟩ :: rest) ⟨sl, A.set k (.cells ((R.map f).flatten ++ rs)) ++ X, df⟩ := by
  subst hdn
  have hl := fl_len hsz R
  have hle : n * sz + sz ≤ R.length * sz := by rw [← Nat.succ_mul]; exact Nat.mul_le_mul_right _ hn
  refine sq_store (j := k) (off := 0 + n * sz) (n := sz) (l := (R.map f).flatten ++ rs) hd hx hy hm (row_look hk) ht (by rw [hsz]; exact Nat.beq_refl _) (by rw [List.length_append, hl]; exact Nat.ble_eq_true_of_le (by omega)) ?_
  have e : (A.set k (.cells ((R.map f).flatten ++ rs)) ++ X).set k (.cells (((R.map f).flatten ++ rs).take (0 + n * sz) ++ f v ++ ((R.map f).flatten ++ rs).drop (0 + n * sz + (f v).length))) = A.set k (.cells (((R.set n v).map f).flatten ++ rs)) ++ X := by
    rw [fl_set hsz R rs hn v, List.set_append_left _ _ (by simpa using hk), List.set_set]
  show SeqWP c ops Q (i + 1) rest ⟨sl, (A.set k (.cells ((R.map f).flatten ++ rs)) ++ X).set k (.cells (((R.map f).flatten ++ rs).take (0 + n * sz) ++ f v ++ ((R.map f).flatten ++ rs).drop (0 + n * sz + (f v).length))), df⟩
  rw [e]; exact kk
end seq
section ev
variable {P : Program} {r : Option Nat} {ρ : Operand → AV} {d : Option Tmp} {t : TypeId} {p : String} {af : Array Edge} {g : Option (Nat × Bool)} {x : Operand}
variable {A X : List AObj} {α : Type} {f : α → List AV} {sz k : Nat} {R : List α} {rs : List AV}
end ev
end Go.Ab
namespace Hd
open Ni (inn)
theorem chg_ref {off long x : Int} (h0 : 0 ≤ off) (h : 0 ≤ long) (hx : x ≤ 1000) : chg off long x = (decide (0 ≤ x) && decide (off * 1000 < max (x * 1000 - long) (-(x * 1000 - long)))) := by
  unfold chg
  rw [lo_eq, hi_eq h0 h]
  by_cases hp : 0 ≤ x
  · rw [Bool.eq_iff_iff]
    simp only [inn, hp, decide_true, Bool.true_and, Bool.not_eq_true', Bool.and_eq_false_iff, decide_eq_false_iff_not, decide_eq_true_eq]
    omega
  · simp [hp]
end Hd
namespace Hd
open Ni (inn)
theorem every_rising (n : Nat) : (every n).Pairwise (· < ·) := by
  unfold every
  rw [List.pairwise_map]
  exact List.pairwise_lt_range.imp fun h => by omega
theorem best_all : ∀ (l : List (Int × Int)) (a : Int × Int), (a :: l).Pairwise (fun p q => p.1 < q.1) → l.foldl better a ∈ a :: l ∧ ∀ y ∈ a :: l, (l.foldl better a).2 < y.2 ∨ ((l.foldl better a).2 = y.2 ∧ (l.foldl better a).1 ≤ y.1)
  | [], a, _ => ⟨by simp, fun y hy => by rw [List.mem_singleton] at hy; subst hy; right; exact ⟨rfl, Int.le_refl _⟩⟩
  | b :: l, a, h => by
    obtain ⟨h1, h2⟩ := List.pairwise_cons.1 h
    obtain ⟨h3, h4⟩ := List.pairwise_cons.1 h2
    rw [List.foldl_cons]
    by_cases c : b.2 < a.2
    · have e : better a b = b := by unfold better; rw [if_pos c]
      rw [e]
      obtain ⟨i1, i2⟩ := best_all l b h2
      refine ⟨List.mem_cons_of_mem _ i1, fun y hy => ?_⟩
      rcases List.mem_cons.1 hy with rfl | hy
      · have := i2 b (by simp); left; omega
      · exact i2 y hy
    · have e : better a b = a := by unfold better; rw [if_neg c]
      rw [e]
      obtain ⟨i1, i2⟩ := best_all l a (List.pairwise_cons.2 ⟨fun y hy => h1 y (List.mem_cons_of_mem _ hy), h4⟩)
      refine ⟨?_, fun y hy => ?_⟩
      · rcases List.mem_cons.1 i1 with e1 | e1
        · rw [e1]; simp
        · exact List.mem_cons_of_mem _ (List.mem_cons_of_mem _ e1)
      · rcases List.mem_cons.1 hy with rfl | hy
        · exact i2 _ (by simp)
        · rcases List.mem_cons.1 hy with rfl | hy
          · have k1 := i2 a (by simp)
            have k2 := h1 y (by simp)
            omega
          · exact i2 y (List.mem_cons_of_mem _ hy)
theorem offers_rising (r : Rg) (f : List Int) (n : Nat) : (offers r f n).Pairwise (fun p q => p.1 < q.1) := by
  unfold offers
  rw [List.pairwise_map]
  refine List.Pairwise.sublist List.filter_sublist ?_
  exact List.pairwise_lt_range.imp fun h => by simp only; omega
theorem mem_offers {r : Rg} {f : List Int} {n : Nat} {p : Int × Int} : p ∈ offers r f n ↔ ∃ m : Nat, m < n ∧ f.getD m 0 < 0 ∧ p = ((m : Int), worst r f m) := by
  unfold offers
  rw [List.mem_map]
  constructor
  · rintro ⟨m, hm, rfl⟩
    rw [List.mem_filter, List.mem_range, decide_eq_true_eq] at hm
    exact ⟨m, hm.1, hm.2, rfl⟩
  · rintro ⟨m, h1, h2, rfl⟩
    exact ⟨m, List.mem_filter.2 ⟨List.mem_range.2 h1, decide_eq_true h2⟩, rfl⟩
theorem next_spec {r : Rg} {f : List Int} (h : offers r f r.kinds.length ≠ []) : ∃ m : Nat, m < r.kinds.length ∧ f.getD m 0 < 0 ∧ nextOf r f = ((m : Int), worst r f m) ∧
    ∀ k, k < r.kinds.length → f.getD k 0 < 0 → worst r f m < worst r f k ∨ (worst r f m = worst r f k ∧ m ≤ k) := by
  unfold nextOf
  have hr := offers_rising r f r.kinds.length
  have hm := @mem_offers r f r.kinds.length
  cases hl : offers r f r.kinds.length with
  | nil => exact absurd hl h
  | cons a l =>
    rw [hl] at hr hm
    obtain ⟨h1, h2⟩ := best_all l a hr
    obtain ⟨m, k1, k2, e⟩ := hm.1 h1
    refine ⟨m, k1, k2, e, fun k hk hf => ?_⟩
    have := h2 _ (hm.2 ⟨k, hk, hf, rfl⟩)
    rw [e] at this
    simp only at this
    omega
end Hd
namespace Hd
open Ni (inn)
theorem fd_bd {r : Rg} {f : List Int} (h : fdOK r f = true) {i : Nat} (hi : i < f.length) : -1 ≤ f[i] ∧ f[i] ≤ 1000 := (fdOK_iff.1 h).2 _ (List.getElem_mem hi)
end Hd
namespace Go.Proofs.YtjpokekbjmdgmaaGreatDoor
open Go Go.Ab Ni Hd
theorem rin_pure (n lo hi : Int) : APure Tryz.prog 74 [I n, I lo, I hi] (B (inn n lo hi)) := by
  refine ap Tryz.func74 (fun e0 he0 => ?_)
  refine wz 5 ?_
  refine sz 10 (fun g1 g1' => ?_) (fun g1 g1' => ?_)
  ·refine wz 5 ?_
   exact rz rfl (Less.eq (by simp [inn, *]))
  refine wz 5 ?_
  exact rz rfl (Less.eq (by simp [inn, *]))
end Go.Proofs.YtjpokekbjmdgmaaGreatDoor
namespace Go.Proofs.YtjpokekbjmdgmaaGreatDoor
open Go Go.Ab Ni Hd
section
variable {P : Program} {r : Option Nat} {H : List AObj} {ρ : Operand → AV}
variable {d : Option Tmp} {t : TypeId} {p : String} {af : Array Edge} {g : Option (Nat × Bool)} {x y : Operand}
end
theorem cnt_many (r : Rg) (f : List Int) (m x : Nat) : cntX r f m r.hides.length x = manyX r f m x := rfl
theorem worst_bd {r : Rg} (gB : RgB r) (f : List Int) (m : Nat) : 0 ≤ worst r f m ∧ worst r f m ≤ 6 := by
  obtain ⟨x, _, e⟩ := worst_is r f m
  have := cntX_le r f m r.hides.length x
  rw [cnt_many] at this
  have := gB.nh
  omega
theorem next_bad (r : Rg) (f : List Int) (hk : r.kinds.length ≤ 1000000) (hh : r.hides.length ≤ 1000000) (hw : ∀ h ∈ r.hides, h.length ≤ 1000000) (hl : f.length ≤ 1000000) (ho : okWho r f = false) : APure Tryz.prog 52 [rgA r, ints f] (.tup [I 0, I 0, I 2]) := by
  refine ap Tryz.func52 (fun e0 he0 => ?_)
  refine wz 5 ?_
  refine kz az (isregister_pure r hk hh hw) ?_
  refine wz 2 ?_
  refine sz 18 (fun g1_3 g1_3' => ?_) (fun g1_3 g1_3' => ?_)
  ·refine wz 9 ?_
   exact retQ_pure (v := .tup [.raw _, .raw _, .raw _]) rfl rfl (less_tup ⟨jz, jz, jz, trivial⟩)
  refine wz 2 ?_
  refine ky az (isfind_pure r f hl) ?_
  refine wz 2 ?_
  refine iz (fun c_23 c_23' => ?_) (fun c_23 c_23' => ?_)
  ·refine wz 3 ?_
   exact retQ_pure (v := .tup [.raw _, .raw _, .raw _]) rfl rfl (less_tup ⟨jz, jz, jz, trivial⟩)
  exfalso
  revert ho
  unfold okWho
  simp_all
theorem next_no {r : Rg} {f : List Int} (hk : r.kinds.length ≤ 1000000) (hh : r.hides.length ≤ 1000000) (hw : ∀ h ∈ r.hides, h.length ≤ 1000000) (hl : f.length ≤ 1000000) (ho : okWho r f = true) (hn : (mays r f).length = 0) : APure Tryz.prog 52 [rgA r, ints f] (.tup [I 0, I 0, I 7]) := by
  refine ap Tryz.func52 (fun e0 he0 => ?_)
  refine vz 4 ?_
  refine sq_nil ?_
  refine aw_seq ?_
  refine aw_seq ?_
  obtain ⟨gB, hfl⟩ := whoF ho
  have hnk := gB.nk
  refine wz 1 ?_
  refine kz az (isregister_pure r hk hh hw) ?_
  refine wz 2 ?_
  refine sz 18 (fun g1_3 g1_3' => ?_) (fun g1_3 g1_3' => ?_)
  ·exfalso
   revert ho
   unfold okWho
   simp_all
  refine wz 2 ?_
  refine ky az (isfind_pure r f hl) ?_
  refine wz 2 ?_
  refine iz (fun c_23 c_23' => ?_) (fun c_23 c_23' => ?_)
  ·exfalso
   revert ho
   unfold okWho
   simp_all
  refine wz 2 ?_
  refine sq_call (first := []) (cap := []) (args := [rgA r, ints f]) rfl en97.h jz ⟨jz, jz, trivial⟩ (hides_call gB hfl _) ?_ (by rintro v H' ⟨h, _⟩; cases h)
  rintro _ _ ⟨h, rfl⟩; cases h
  refine sq_ev rfl (ev_len_mp mt138 jz rfl) ?_
  refine wz 1 ?_
  refine iz (fun c_28 c_28' => ?_) (fun c_28 c_28' => ?_)
  ·refine wz 3 ?_
   exact retQ_pure (v := .tup [.raw _, .raw _, .raw _]) rfl rfl (less_tup ⟨jz, jz, jz, trivial⟩)
  exfalso
  rw [mayK_len] at c_28'
  omega
end Go.Proofs.YtjpokekbjmdgmaaGreatDoor
namespace Go.Proofs.YtjpokekbjmdgmaaGreatDoor
open Go Go.Ab Ni Hd
def shB (r : Rg) : Bool := decide ((r.kinds.length ≤ 8 ∧ r.hides.length ≤ 8) ∧ ∀ i, (hi : i < r.hides.length) → i < 9 → r.hides[i].length ≤ 10)
theorem shB_fin {r : Rg} (h3 : ∀ i, (hi : i < r.hides.length) → i < 9 → r.hides[i].length ≤ 10) : shB r = (decide (r.kinds.length ≤ 8) && decide (r.hides.length ≤ 8)) := by
  rw [Bool.eq_iff_iff]; unfold shB; simp only [decide_eq_true_eq, Bool.and_eq_true]
  exact ⟨fun h => h.1, fun h => ⟨h, h3⟩⟩
theorem shB_row {r : Rg} {i : Nat} (hi : i < r.hides.length) (h9 : i < 9) (h : ¬ r.hides[i].length ≤ 10) : shB r = false := decide_eq_false fun q => h (q.2 i hi h9)
theorem shB_len {r : Rg} (h : shB r = true) : r.kinds.length ≤ 1000000 ∧ r.hides.length ≤ 1000000 ∧ (∀ h ∈ r.hides, h.length ≤ 1000000) := by
  have q := of_decide_eq_true h
  refine ⟨by omega, by omega, fun x hx => ?_⟩
  obtain ⟨i, hi, rfl⟩ := List.getElem_of_mem hx
  have := q.2 i hi (by omega); omega
theorem rg_kind {r : Rg} {i : Nat} (hi : i < r.kinds.length) (h : kdOK r.kinds[i] = false) : rgOK r = false := by
  have e : r.kinds.all kdOK = false := by rw [List.all_eq_false]; exact ⟨_, List.getElem_mem hi, by rw [h]; simp⟩
  unfold rgOK; rw [e]; simp
theorem rg_hide {r : Rg} {i : Nat} (hi : i < r.hides.length) (h : hdOK r.kinds.length r.hides[i] = false) : rgOK r = false := by
  have e : r.hides.all (hdOK r.kinds.length) = false := by rw [List.all_eq_false]; exact ⟨_, List.getElem_mem hi, by rw [h]; simp⟩
  unfold rgOK; rw [e]; simp
theorem hd_len {w : Nat} {h : List Int} (e : h.length ≠ w) : hdOK w h = false := by unfold hdOK; rw [decide_eq_false e]; rfl
theorem hd_num {w : Nat} {h : List Int} {j : Nat} (hj : j < h.length) (e : inn h[j] 1 500 = false) : hdOK w h = false := by
  have q : (h.all fun n => inn n 1 500) = false := by rw [List.all_eq_false]; exact ⟨_, List.getElem_mem hj, by rw [e]; simp⟩
  unfold hdOK; rw [q]; simp
theorem hd_yes {w : Nat} {h : List Int} (e : h.length = w) (k : ∀ j, (hj : j < h.length) → inn h[j] 1 500 = true) : hdOK w h = true := by
  unfold hdOK; rw [decide_eq_true e, List.all_eq_true.2 fun x hx => by obtain ⟨j, hj, rfl⟩ := List.getElem_of_mem hx; exact k j hj]; rfl
theorem all_of {α : Type} {q : α → Bool} {l : List α} (h : ∀ j, (hj : j < l.length) → q l[j] = true) : l.all q = true := List.all_eq_true.2 fun x hx => by obtain ⟨j, hj, rfl⟩ := List.getElem_of_mem hx; exact h j hj
theorem fd_bad {r : Rg} {f : List Int} {i : Nat} (hi : i < f.length) (h : inn f[i] (-1) 1000 = false) : fdOK r f = false := by
  have e : (f.all fun n => inn n (-1) 1000) = false := by rw [List.all_eq_false]; exact ⟨_, List.getElem_mem hi, by rw [h]; simp⟩
  unfold fdOK; rw [e]; simp
theorem short_pure (r : Rg) : APure Tryz.prog 20 [rgA r] (B (shB r)) := by
  refine ap Tryz.func20 (fun e0 he0 => ?_)
  refine wz 3 ?_
  refine aw_loopk (ι := { k : Nat // k ≤ r.hides.length ∧ k ≤ 9 ∧ ∀ i, (hi : i < r.hides.length) → i < k → r.hides[i].length ≤ 10 }) [1] (fun i => [(3, I i.1)]) (fun H i => H) (fun i => r.hides.length - i.1) (⟨0, Nat.zero_le _, by omega, by omega⟩) ⟨jz, jz, trivial⟩ rfl ?_
  rintro ⟨k, hk, hk9, hok⟩
  refine nz ?_
  refine wz 6 ?_
  refine sz 9 (fun g2_5 g2_5' => ?_) (fun g2_5 g2_5' => ?_)
  ·have hkl : k < r.hides.length := by omega
   refine wz 3 ?_
   refine iz (fun c_12 c_12' => ?_) (fun c_12 c_12' => ?_)
   ·have hk9b : k < 9 := by have := of_decide_eq_true c_12; omega
    refine wz 7 ?_
    refine iz (fun c_21 c_21' => ?_) (fun c_21 c_21' => ?_)
    ·have hbad := shB_row hkl hk9b (by omega)
     refine wz 1 ?_
     exact rz rfl (Less.eq (by rw [hbad]))
    refine wz 3 ?_
    exact ⟨⟨k + 1, by omega, by omega, fun i hi h => (by by_cases e : i = k; (subst e; omega); exact hok i hi (by omega))⟩, by simp only; omega, Sub.slots ⟨jz, jz, trivial⟩⟩
   refine wz 5 ?_
   refine sz 26 (fun g6_4 g6_4' => ?_) (fun g6_4 g6_4' => ?_)
   ·refine wz 6 ?_
    exact rz rfl (Less.eq (congrArg B (by have h9 := of_decide_eq_false c_12; rw [shB_fin (fun i hi h8 => hok i hi (by omega)), Bool.eq_iff_iff]; simp; omega)))
   refine wz 6 ?_
   exact rz rfl (Less.eq (congrArg B (by have h9 := of_decide_eq_false c_12; rw [shB_fin (fun i hi h8 => hok i hi (by omega)), Bool.eq_iff_iff]; simp; omega)))
  obtain rfl : k = r.hides.length := by omega
  refine wz 9 ?_
  refine sz 26 (fun g6_4 g6_4' => ?_) (fun g6_4 g6_4' => ?_)
  ·refine wz 6 ?_
   exact rz rfl (Less.eq (congrArg B (by rw [shB_fin (fun i hi _ => hok i hi hi), Bool.eq_iff_iff]; simp; omega)))
  refine wz 6 ?_
  exact rz rfl (Less.eq (congrArg B (by rw [shB_fin (fun i hi _ => hok i hi hi), Bool.eq_iff_iff]; simp; omega)))
theorem rspan_pure (a b : Int) (ha : -1000000 ≤ a ∧ a ≤ 1000000 ∨ True) : APure Tryz.prog 75 [.agg [I a, I b]] (B (spOK a b)) := by
  refine ap Tryz.func75 (fun e0 he0 => ?_)
  refine vz 2 ?_
  refine sq_nil ?_
  refine aw_seq ?_
  have hin : ∀ x lo hi : Int, inn x lo hi = true ↔ lo ≤ x ∧ x ≤ hi := fun x lo hi => by unfold inn; simp
  refine wz 2 ?_
  refine kz az (rin_pure _ _ _) ?_
  refine wz 1 ?_
  refine sz 6 (fun g1_3 g1_3' => ?_) (fun g1_3 g1_3' => ?_)
  ·have h1 := (hin _ _ _).1 g1_3
   refine wz 4 ?_
   refine ky az (rin_pure _ _ _) ?_
   refine wz 2 ?_
   refine sz 13 (fun g1_10 g1_10' => ?_) (fun g1_10 g1_10' => ?_)
   ·have h2 := (hin _ _ _).1 g1_10
    refine wz 8 ?_
    exact rz rfl (Less.eq (by unfold spOK; simp [*]))
   refine wz 8 ?_
   exact rz rfl (Less.eq (by unfold spOK; simp [*]))
  refine wz 15 ?_
  exact rz rfl (Less.eq (by unfold spOK; simp [*]))
theorem register_pure (r : Rg) (hk : r.kinds.length ≤ 1000000) (hh : r.hides.length ≤ 1000000) (hw : ∀ h ∈ r.hides, h.length ≤ 1000000) : APure Tryz.prog 21 [rgA r] (B (rgOK r)) := by
  refine ap Tryz.func21 (fun e0 he0 => ?_)
  refine wz 5 ?_
  refine kz az (rin_pure _ _ _) ?_
  refine wz 2 ?_
  refine sz 11 (fun g1_5 g1_5' => ?_) (fun g1_5 g1_5' => ?_)
  ·refine wz 8 ?_
   exact rz rfl (Less.eq (by unfold rgOK; simp_all))
  refine wz 3 ?_
  refine ky az (rin_pure _ _ _) ?_
  refine wz 2 ?_
  refine iz (fun c_17 c_17' => ?_) (fun c_17 c_17' => ?_)
  ·refine wz 1 ?_
   exact rz rfl (Less.eq (by unfold rgOK; simp_all))
  refine wz 1 ?_
  refine aw_loopk (ι := { k : Nat // k ≤ r.kinds.length ∧ ∀ i, (hi : i < r.kinds.length) → i < k → kdOK r.kinds[i] = true }) [1] (fun i => [(3, I i.1)]) (fun H i => H) (fun i => r.kinds.length - i.1) (⟨0, Nat.zero_le _, by omega⟩) ⟨jz, jz, trivial⟩ rfl ?_
  rintro ⟨k, hkk, hok⟩
  refine nz ?_
  refine wz 5 ?_
  refine iz (fun c_22 c_22' => ?_) (fun c_22 c_22' => ?_)
  ·have hkl : k < r.kinds.length := by omega
   refine wz 7 ?_
   refine sz 31 (fun g6_6 g6_6' => ?_) (fun g6_6 g6_6' => ?_)
   ·refine wz 7 ?_
    refine iz (fun c_38 c_38' => ?_) (fun c_38 c_38' => ?_)
    ·have hbad := rg_kind hkl (by unfold kdOK; have h5 := of_decide_eq_true c_38; exact decide_eq_false (by omega))
     refine wz 1 ?_
     exact rz rfl (Less.eq (by rw [hbad]))
    have hkd : kdOK r.kinds[k] = true := by unfold kdOK; have h5 := of_decide_eq_false c_38; exact decide_eq_true (by omega)
    refine wz 3 ?_
    exact ⟨⟨k + 1, by omega, fun i hi h => (by by_cases e : i = k; (subst e; exact hkd); exact hok i hi (by omega))⟩, by simp only; omega, Sub.slots ⟨jz, jz, trivial⟩⟩
   have hkd : kdOK r.kinds[k] = true := by unfold kdOK; exact decide_eq_true (by omega)
   refine wz 11 ?_
   exact ⟨⟨k + 1, by omega, fun i hi h => (by by_cases e : i = k; (subst e; exact hkd); exact hok i hi (by omega))⟩, by simp only; omega, Sub.slots ⟨jz, jz, trivial⟩⟩
  obtain rfl : k = r.kinds.length := by omega
  have hall1 : r.kinds.all kdOK = true := all_of fun j hj => hok j hj hj
  refine wz 1 ?_
  refine aw_loopk (ι := { k : Nat // k ≤ r.hides.length ∧ ∀ i, (hi : i < r.hides.length) → i < k → hdOK r.kinds.length r.hides[i] = true }) [1] (fun i => [(4, I i.1)]) (fun H i => H) (fun i => r.hides.length - i.1) (⟨0, Nat.zero_le _, by omega⟩) ⟨jz, jz, trivial⟩ rfl ?_
  rintro ⟨k, hkh, hok2⟩
  refine nz ?_
  refine wz 5 ?_
  refine iz (fun c_43 c_43' => ?_) (fun c_43 c_43' => ?_)
  ·have hhl : k < r.hides.length := by omega
   have hwl := hw _ (List.getElem_mem hhl)
   refine wz 0 ?_
   refine aw_draw 10 mo (by kernel_rfl) ?_
   refine dz 10 ?_
   refine wz 0 ?_
   refine iz (fun c_55 c_55' => ?_) (fun c_55 c_55' => ?_)
   ·have hbad := rg_hide hhl (hd_len (by omega))
    refine wz 1 ?_
    exact rz rfl (Less.eq (by rw [hbad]))
   have hle : r.hides[k].length = r.kinds.length := by omega
   refine wz 1 ?_
   refine aw_loopk (ι := { j : Nat // j ≤ r.hides[k].length ∧ ∀ i, (hi : i < r.hides[k].length) → i < j → inn r.hides[k][i] 1 500 = true }) [1, 4] (fun u => [(5, I u.1)]) (fun H u => H) (fun u => r.hides[k].length - u.1) (⟨0, Nat.zero_le _, by omega⟩) ⟨jz, jz, jz, trivial⟩ rfl ?_
   rintro ⟨j, hj, hok3⟩
   refine nz ?_
   refine wz 8 ?_
   refine iz (fun c_63 c_63' => ?_) (fun c_63 c_63' => ?_)
   ·have hjl : j < r.hides[k].length := by omega
    refine wz 8 ?_
    refine kz az (rin_pure _ _ _) ?_
    refine wz 1 ?_
    refine iz (fun c_75 c_75' => ?_) (fun c_75 c_75' => ?_)
    ·have hbad := rg_hide hhl (hd_num hjl (by simpa using c_75))
     refine wz 1 ?_
     exact rz rfl (Less.eq (by rw [hbad]))
    have hin : inn r.hides[k][j] 1 500 = true := by simpa using c_75
    refine wz 3 ?_
    exact ⟨⟨j + 1, by omega, fun i hi h => (by by_cases e : i = j; (subst e; exact hin); exact hok3 i hi (by omega))⟩, by simp only; omega, Sub.slots ⟨jz, jz, jz, trivial⟩⟩
   obtain rfl : j = r.hides[k].length := by omega
   refine wz 3 ?_
   exact ⟨⟨k + 1, by omega, fun i hi h => (by by_cases e : i = k; (subst e; exact hd_yes hle fun j hj => hok3 j hj hj); exact hok2 i hi (by omega))⟩, by simp only; omega, Sub.slots ⟨jz, jz, trivial⟩⟩
  obtain rfl : k = r.hides.length := by omega
  have hall2 : r.hides.all (hdOK r.kinds.length) = true := all_of fun j hj => hok2 j hj hj
  refine wz 2 ?_
  refine kz az (rspan_pure _ _ (.inr trivial)) ?_
  refine wz 1 ?_
  refine sz 79 (fun g18_3 g18_3' => ?_) (fun g18_3 g18_3' => ?_)
  ·refine wz 2 ?_
   refine ky az (rspan_pure _ _ (.inr trivial)) ?_
   refine wz 2 ?_
   refine sz 84 (fun g18_8 g18_8' => ?_) (fun g18_8 g18_8' => ?_)
   ·refine wz 2 ?_
    refine ky az (rin_pure _ _ _) ?_
    refine wz 2 ?_
    refine sz 89 (fun g18_13 g18_13' => ?_) (fun g18_13 g18_13' => ?_)
    ·refine wz 2 ?_
     refine ky az (rin_pure _ _ _) ?_
     refine wz 2 ?_
     exact rz rfl (Less.eq (by unfold rgOK; rw [hall1, hall2]; simp_all))
    refine wz 5 ?_
    exact rz rfl (Less.eq (by unfold rgOK; rw [hall1, hall2]; simp_all))
   refine wz 10 ?_
   exact rz rfl (Less.eq (by unfold rgOK; rw [hall1, hall2]; simp_all))
  refine wz 15 ?_
  exact rz rfl (Less.eq (by unfold rgOK; rw [hall1, hall2]; simp_all))
end Go.Proofs.YtjpokekbjmdgmaaGreatDoor
namespace Go.Proofs.YtjpokekbjmdgmaaGreatDoor
open Go Go.Ab Ni Hd
theorem short_t {r : Rg} (h : shB r = true) : APure Tryz.prog 20 [rgA r] (B true) := by have q := short_pure r; rw [h] at q; exact q
theorem short_f {r : Rg} (h : shB r = false) : APure Tryz.prog 20 [rgA r] (B false) := by have q := short_pure r; rw [h] at q; exact q
theorem reg_t {r : Rg} (hs : shB r = true) (h : rgOK r = true) : APure Tryz.prog 21 [rgA r] (B true) := by have q := register_pure r (shB_len hs).1 (shB_len hs).2.1 (shB_len hs).2.2; rw [h] at q; exact q
theorem reg_f {r : Rg} (hs : shB r = true) (h : rgOK r = false) : APure Tryz.prog 21 [rgA r] (B false) := by have q := register_pure r (shB_len hs).1 (shB_len hs).2.1 (shB_len hs).2.2; rw [h] at q; exact q
end Go.Proofs.YtjpokekbjmdgmaaGreatDoor
namespace Go.Proofs.YtjpokekbjmdgmaaGreatDoor
open Go Go.Ab Ni Hd
instance en105 : EnT Tryz.prog 105 := ⟨Ent.of Tryz.func105 (by kernel_rfl) rfl⟩
instance en114 : EnT Tryz.prog 114 := ⟨Ent.of Tryz.func114 (by kernel_rfl) rfl⟩
instance en34 : EnT Tryz.prog 34 := ⟨Ent.of Tryz.func34 (by kernel_rfl) rfl⟩
instance en35 : EnT Tryz.prog 35 := ⟨Ent.of Tryz.func35 (by kernel_rfl) rfl⟩
instance en40 : EnT Tryz.prog 40 := ⟨Ent.of Tryz.func40 (by kernel_rfl) rfl⟩
instance en93 : EnT Tryz.prog 93 := ⟨Ent.of Tryz.func93 (by kernel_rfl) rfl⟩
def slimB (l : List Int) : Bool := decide (l.length ≤ 10)
theorem slim_len {l : List Int} (h : slimB l = true) : l.length ≤ 1000000 := by have := of_decide_eq_true h; omega
theorem chg_bd {r : Rg} (gB : RgB r) {h m : Nat} (hh : h < r.hides.length) (hm : m < r.kinds.length) {x : Rt} (hx : (0 ≤ x.a ∧ x.a ≤ 1300) ∧ (0 ≤ x.b ∧ x.b ≤ 1300)) : 0 ≤ sz r h m * rm r x m ∧ sz r h m * rm r x m ≤ 650000 := long_bd gB hh hm (by unfold rm; split <;> omega)
def fewI (r : Rg) (h : Nat) (f : List Int) (k i : Nat) : Int := if i = 0 then -1 else least 6 (((rng (sl r k) (sh r k)).take i).map fun n => ((chs r h f k n).length : Int))
theorem least_nn : ∀ (l : List Int), (∀ x ∈ l, 0 ≤ x) → 0 ≤ least 6 l
  | [], _ => by decide
  | x :: l, h => by have := least_nn l (fun y hy => h y (List.mem_cons_of_mem _ hy)); have := h x (by simp); simp only [least]; omega
theorem fewI_bd (r : Rg) (h : Nat) (f : List Int) (k i : Nat) : -1 ≤ fewI r h f k i ∧ fewI r h f k i ≤ 6 ∧ (0 < i → 0 ≤ fewI r h f k i) := by
  unfold fewI
  split
  · omega
  · have h1 := least_le 6 (((rng (sl r k) (sh r k)).take i).map fun n => ((chs r h f k n).length : Int))
    have h2 := least_nn (((rng (sl r k) (sh r k)).take i).map fun n => ((chs r h f k n).length : Int)) (fun x hx => by obtain ⟨n, _, rfl⟩ := List.mem_map.1 hx; omega)
    omega
theorem fewI_succ {r : Rg} (gB : RgB r) {h : Nat} {f : List Int} {k i : Nat} (hi : i < (rng (sl r k) (sh r k)).length) : fewI r h f k (i + 1) = if fewI r h f k i < 0 ∨ ((chs r h f k (sl r k + i)).length : Int) < fewI r h f k i then ((chs r h f k (sl r k + i)).length : Int) else fewI r h f k i := by
  have hc := chs_le gB h f k (sl r k + (i : Int))
  have hb := fewI_bd r h f k i
  have e : fewI r h f k (i + 1) = min (least 6 (((rng (sl r k) (sh r k)).take i).map fun n => ((chs r h f k n).length : Int))) ((chs r h f k (sl r k + (i : Int))).length : Int) := by
    unfold fewI; rw [if_neg (by omega), List.take_succ_eq_append_getElem hi, List.map_append, List.map_cons, List.map_nil, least_snoc, rng_get]
  rw [e]
  by_cases h0 : i = 0
  · subst h0
    have : fewI r h f k 0 = -1 := rfl
    rw [if_pos (.inl (by omega))]; simp only [List.take_zero, List.map_nil, least]; omega
  · have e2 : fewI r h f k i = least 6 (((rng (sl r k) (sh r k)).take i).map fun n => ((chs r h f k n).length : Int)) := by unfold fewI; rw [if_neg h0]
    rw [← e2]
    have := hb.2.2 (by omega)
    split <;> omega
theorem fewI_all {r : Rg} (gB : RgB r) (h : Nat) (f : List Int) {k : Nat} (hk : k < 2) : fewI r h f k (rng (sl r k) (sh r k)).length = few r h f k := by
  have hs := spank_bd gB hk
  have hl := rng_len (sl r k) (sh r k)
  unfold fewI few; rw [if_neg (by omega), List.take_length]
theorem rfind_pure (r : Rg) (f : List Int) (hl : f.length ≤ 1000000) : APure Tryz.prog 24 [rgA r, ints f] (B (fdOK r f)) := by
  refine ap Tryz.func24 (fun e0 he0 => ?_)
  refine wz 3 ?_
  refine aw_loopk (ι := { k : Nat // k ≤ f.length ∧ ∀ i, (hi : i < f.length) → i < k → inn f[i] (-1) 1000 = true }) [1, 2] (fun i => [(5, I i.1)]) (fun H i => H) (fun i => f.length - i.1) (⟨0, Nat.zero_le _, by omega⟩) ⟨jz, jz, jz, trivial⟩ rfl ?_
  rintro ⟨k, hk, hok⟩
  refine nz ?_
  refine wz 4 ?_
  refine iz (fun c_9 c_9' => ?_) (fun c_9 c_9' => ?_)
  ·have hkl : k < f.length := by omega
   refine wz 4 ?_
   refine kz az (rin_pure _ _ _) ?_
   refine wz 1 ?_
   refine iz (fun c_17 c_17' => ?_) (fun c_17 c_17' => ?_)
   ·refine wz 1 ?_
    exact rz rfl (Less.eq (by rw [fd_bad hkl (by simpa using c_17)]))
   refine wz 3 ?_
   exact ⟨⟨k + 1, by omega, fun i hi h => (by by_cases e : i = k; (subst e; simpa using c_17); exact hok i hi (by omega))⟩, by simp only; omega, Sub.slots ⟨jz, jz, jz, trivial⟩⟩
  obtain rfl : k = f.length := by omega
  have hall : (f.all fun n => inn n (-1) 1000) = true := all_of fun j hj => hok j hj hj
  refine wz 7 ?_
  exact rz rfl (Less.eq (congrArg B (by unfold fdOK; rw [hall, Bool.and_true, Bool.eq_iff_iff]; simp; omega)))
theorem slim_pure (l : List Int) : APure Tryz.prog 30 [ints l] (B (slimB l)) := by
  refine ap Tryz.func30 (fun e0 he0 => ?_)
  refine wz 5 ?_
  exact rz rfl (Less.eq (congrArg B (by unfold slimB; rw [Bool.eq_iff_iff]; simp; omega)))
theorem rlong_pure {r : Rg} (gB : RgB r) {h m : Nat} (hhl : h < r.hides.length) (hml : m < r.kinds.length) {x : Rt} (hx : (0 ≤ x.a ∧ x.a ≤ 1300) ∧ (0 ≤ x.b ∧ x.b ≤ 1300)) : APure Tryz.prog 114 [rgA r, I h, I m, rtA x] (I (sz r h m * rm r x m)) := by
  refine ap Tryz.func114 (fun e0 he0 => ?_)
  refine vz 3 ?_
  refine sq_nil ?_
  refine aw_seq ?_
  refine aw_seq ?_
  have hq := chg_bd gB hhl hml hx
  have hmh : m < (r.hides[h]).length := by rw [gB.hl h hhl]; exact hml
  have hsz := sz_at gB hhl hml
  have hkd := kd_at hml
  refine wz 6 ?_
  refine iz (fun c_14 c_14' => ?_) (fun c_14 c_14' => ?_)
  ·have hrm : rm r x m = x.a := by unfold rm; rw [hkd, if_pos (by omega)]
   rw [hrm, hsz] at hq
   refine wz 0 ?_
   refine aw_draw 12 mo (by kernel_rfl) ?_
   refine dz 12 ?_
   refine wz 0 ?_
   exact rz rfl (Less.eq (by rw [hrm, hsz]))
  have hrm : rm r x m = x.b := by unfold rm; rw [hkd, if_neg (by omega)]
  rw [hrm, hsz] at hq
  refine wz 0 ?_
  refine aw_draw 12 mo (by kernel_rfl) ?_
  refine dz 12 ?_
  refine wz 0 ?_
  exact rz rfl (Less.eq (by rw [hrm, hsz]))
theorem rchanged_pure {r : Rg} (gB : RgB r) {h m : Nat} (hhl : h < r.hides.length) (hml : m < r.kinds.length) {x : Rt} (hx : (0 ≤ x.a ∧ x.a ≤ 1300) ∧ (0 ≤ x.b ∧ x.b ≤ 1300)) {f : List Int} (hf : f.length = r.kinds.length) (hfd : fdOK r f = true) : APure Tryz.prog 105 [rgA r, I h, ints f, I m, rtA x] (B (chB r h f (rm r x m) m)) := by
  refine ap Tryz.func105 (fun e0 he0 => ?_)
  refine vz 3 ?_
  refine sq_nil ?_
  refine aw_seq ?_
  have hq := chg_bd gB hhl hml hx
  have hmf : m < f.length := by omega
  have hfb := fd_bd hfd hmf
  have hoff := gB.off
  have hcr := chg_ref (off := r.off) (long := sz r h m * rm r x m) (x := f[m]) (by omega) hq.1 hfb.2
  have hgd : f.getD m 0 = f[m] := getD_at hmf
  refine aw_draw 12 mo (by kernel_rfl) ?_
  refine dz 9 ?_
  refine dkz az (rlong_pure gB hhl hml hx) ?_
  refine dz 2 ?_
  refine wz 6 ?_
  refine sz 28 (fun g2_5 g2_5' => ?_) (fun g2_5 g2_5' => ?_)
  ·refine wz 2 ?_
   refine sq_yes rfl rfl (less_b g2_5) rfl (ev_neg jz (by first | exact wr (by omega) (by omega) | (rw [show (0 : Int) - _ = -(_) from Int.zero_sub _]; exact wr (by omega) (by omega)))) ?_
   refine wz 7 ?_
   exact rz rfl (Less.eq (congrArg B (by unfold chB; rw [hgd, hcr, Bool.eq_iff_iff]; simp; omega)))
  refine wz 10 ?_
  exact rz rfl (Less.eq (congrArg B (by unfold chB; rw [hgd, hcr, Bool.eq_iff_iff]; simp; omega)))
end Go.Proofs.YtjpokekbjmdgmaaGreatDoor
namespace Go.Proofs.YtjpokekbjmdgmaaGreatDoor
open Go Go.Ab Ni Hd
def chP (r : Rg) (h : Nat) (f : List Int) (x : Rt) (k : Nat) : List Int := nums (fun m => chB r h f (rm r x m) m) k
theorem chP_len (r : Rg) (h : Nat) (f : List Int) (x : Rt) (k : Nat) : (chP r h f x k).length ≤ k := nums_len _ _
theorem rm_same (r : Rg) (n : Int) (m : Nat) : rm r ⟨n, n⟩ m = n := by unfold rm; split <;> rfl
def mayC (r : Rg) (f : List Int) (k : Nat) : Nat := ((List.range k).filter fun h => may r h f).length
theorem mayC_succ (r : Rg) (f : List Int) (k : Nat) : mayC r f (k + 1) = mayC r f k + if may r k f = true then 1 else 0 := by
  unfold mayC; rw [List.range_succ, List.filter_append, List.length_append]
  cases h : may r k f <;> simp [h]
theorem mayC_le (r : Rg) (f : List Int) (k : Nat) : mayC r f k ≤ k := by unfold mayC; exact Nat.le_trans (List.length_filter_le _ _) (by simp)
theorem rchanges_pure {r : Rg} (gB : RgB r) {h : Nat} (hhl : h < r.hides.length) {x : Rt} (hx : (0 ≤ x.a ∧ x.a ≤ 1300) ∧ (0 ≤ x.b ∧ x.b ≤ 1300)) {f : List Int} (hf : f.length = r.kinds.length) (hfd : fdOK r f = true) : APure Tryz.prog 60 [rgA r, I h, ints f, rtA x] (ints (chA r h f x)) := by
  refine ap Tryz.func60 (fun e0 he0 => ?_)
  refine vz 5 ?_
  refine sq_nil ?_
  refine aw_block ?_
  refine aw_sub (sub_token 9 1 jz) ?_
  refine aw_loopk (ι := { k : Nat // k ≤ f.length }) [1, 2, 4, 7] (fun i => [(10, I i.1), (9, .own 2 1 ((chP r h f x i.1).map fun x => [I x]))]) (fun H i => H.set 2 (.tok ((chP r h f x i.1).map fun x => [I x]).length)) (fun i => f.length - i.1) (⟨0, Nat.zero_le _⟩) ⟨jz, jz, jz, jz, jz, jz, trivial⟩ rfl ?_
  rintro ⟨k, hk⟩
  refine nz ?_
  have hcl := chP_len r h f x k
  have hnk := gB.nk
  refine wz 4 ?_
  refine iz (fun c_14 c_14' => ?_) (fun c_14 c_14' => ?_)
  ·have hml : k < r.kinds.length := by omega
   refine wz 5 ?_
   refine kz az (rchanged_pure gB hhl hml hx hf hfd) ?_
   refine wz 0 ?_
   refine iz (fun c_22 c_22' => ?_) (fun c_22 c_22' => ?_)
   ·have eS : ((chP r h f x (k + 1)).map fun x => [I x]) = ((chP r h f x k).map fun x => [I x]) ++ [[I k]] := by unfold chP; rw [nums_succ, if_pos c_22, List.map_append]; rfl
    refine wz 2 ?_
    refine sq_ev rfl (ev_buildSlice (es := [[_]]) sf28.h rfl rfl rfl rfl) ?_
    first | refine sq_append rfl sf28.h Tryz.underlying28 rfl rfl jz (Nat.succ_pos _) (by simp; omega) (by simp; omega) ?_ | refine sq_append rfl sf28.h Tryz.underlying28 rfl rfl (less_slx _ _) (Nat.succ_pos _) (by simp; omega) (by simp; omega) ?_
    refine wz 4 ?_
    exact ⟨⟨k + 1, by omega⟩, by simp only; omega, sb 3 ⟨jz, Less.eq (by rw [eS] <;> rfl), jz, jz, jz, jz, trivial⟩ (hH := (congrArg (fun n => [_, _, AObj.tok n]) (congrArg List.length eS.symm)))⟩
   have eS : ((chP r h f x (k + 1)).map fun x => [I x]) = ((chP r h f x k).map fun x => [I x]) := by unfold chP; rw [nums_succ, if_neg (by rw [c_22]; simp)]
   refine wz 3 ?_
   exact ⟨⟨k + 1, by omega⟩, by simp only; omega, sb 3 ⟨jz, Less.eq (by rw [eS] <;> rfl), jz, jz, jz, jz, trivial⟩ (hH := (congrArg (fun n => [_, _, AObj.tok n]) (congrArg List.length eS.symm)))⟩
  obtain rfl : k = f.length := by omega
  refine wz 2 ?_
  exact retQ_pure (v := .own _ _ _) rfl rfl (Less.trans (less_own _ _ _) (Less.eq (by rw [hf]; rfl)))
theorem rfewest_pure {r : Rg} (gB : RgB r) {h : Nat} (hhl : h < r.hides.length) {f : List Int} (hf : f.length = r.kinds.length) (hfd : fdOK r f = true) {k : Nat} (hk2 : k < 2) {K : Int} (hK : K = (k : Int) + 1) : APure Tryz.prog 93 [rgA r, I h, ints f, I K, .agg [I (sl r k), I (sh r k)]] (I (few r h f k)) := by
  refine ap Tryz.func93 (fun e0 he0 => ?_)
  refine vz 3 ?_
  refine sq_nil ?_
  refine aw_seq ?_
  have hsp := spank_bd gB hk2
  have hrl := rng_len (sl r k) (sh r k)
  have hnk := gB.nk
  refine wz 4 ?_
  refine aw_loopk (ι := { i : Nat // i ≤ (rng (sl r k) (sh r k)).length }) [1, 2, 3, 5, 9] (fun i => [(11, I (fewI r h f k i.1)), (12, I (sl r k + (i.1 : Int)))]) (fun H i => H) (fun i => (rng (sl r k) (sh r k)).length - i.1) (⟨0, Nat.zero_le _⟩) ⟨jz, (by exact less_int (show (sl r k : Int) = sl r k + ((0 : Nat) : Int) by omega)), jz, jz, jz, jz, jz, trivial⟩ rfl ?_
  rintro ⟨i, hi⟩
  refine nz ?_
  have hfb := fewI_bd r h f k i
  refine wz 4 ?_
  refine iz (fun c_20 c_20' => ?_) (fun c_20 c_20' => ?_)
  ·have hil : i < (rng (sl r k) (sh r k)).length := by omega
   refine wz 2 ?_
   refine aw_loopk (ι := { j : Nat // j ≤ f.length }) [1, 2, 3, 5, 9, 11, 12] (fun u => [(13, I ((nums (chK r h f k (sl r k + (i : Int))) u.1).length : Nat)), (14, I u.1)]) (fun H u => H) (fun u => f.length - u.1) (⟨0, Nat.zero_le _⟩) ⟨jz, jz, jz, jz, jz, jz, jz, jz, jz, trivial⟩ rfl ?_
   rintro ⟨j, hj⟩
   refine nz ?_
   have hnl := nums_len (chK r h f k (sl r k + (i : Int))) j
   refine wz 4 ?_
   refine iz (fun c_26 c_26' => ?_) (fun c_26 c_26' => ?_)
   ·have hml : j < r.kinds.length := by omega
    have hkd := kd_at hml
    refine wz 8 ?_
    refine sz 36 (fun g9_7 g9_7' => ?_) (fun g9_7 g9_7' => ?_)
    ·have hkk : decide (kd r j - 1 = (k : Int)) = true := decide_eq_true (by omega)
     refine wz 7 ?_
     refine ky az (rchanged_pure gB hhl hml (x := ⟨sl r k + (i : Int), sl r k + (i : Int)⟩) (by simp only; omega) hf hfd) ?_
     refine wz 1 ?_
     refine iz (fun c_45 c_45' => ?_) (fun c_45 c_45' => ?_)
     ·have eC : ((nums (chK r h f k (sl r k + (i : Int))) (j + 1)).length : Nat) = ((nums (chK r h f k (sl r k + (i : Int))) j).length : Nat) + 1 := by rw [nums_succ, if_pos (by unfold chK; rw [hkk, Bool.true_and]; rw [rm_same] at c_45; exact c_45), List.length_append]; rfl
      refine wz 6 ?_
      exact ⟨⟨j + 1, by omega⟩, by simp only; omega, Sub.slots ⟨Less.eq (by rw [eC] <;> rfl), jz, jz, jz, jz, jz, jz, jz, jz, trivial⟩⟩
     have eC : ((nums (chK r h f k (sl r k + (i : Int))) (j + 1)).length : Nat) = ((nums (chK r h f k (sl r k + (i : Int))) j).length : Nat) := by rw [nums_succ, if_neg (by unfold chK; rw [hkk, Bool.true_and]; rw [rm_same] at c_45; rw [c_45]; simp)]
     refine wz 3 ?_
     exact ⟨⟨j + 1, by omega⟩, by simp only; omega, Sub.slots ⟨Less.eq (by rw [eC] <;> rfl), jz, jz, jz, jz, jz, jz, jz, jz, trivial⟩⟩
    have eC : ((nums (chK r h f k (sl r k + (i : Int))) (j + 1)).length : Nat) = ((nums (chK r h f k (sl r k + (i : Int))) j).length : Nat) := by rw [nums_succ, if_neg (by unfold chK; rw [decide_eq_false (by omega)]; simp)]
    refine wz 13 ?_
    exact ⟨⟨j + 1, by omega⟩, by simp only; omega, Sub.slots ⟨Less.eq (by rw [eC] <;> rfl), jz, jz, jz, jz, jz, jz, jz, jz, trivial⟩⟩
   obtain rfl : j = f.length := by omega
   have hcc : nums (chK r h f k (sl r k + (i : Int))) f.length = chs r h f k (sl r k + (i : Int)) := by rw [hf]; rfl
   have hstep := fewI_succ gB (h := h) (f := f) hil
   rw [← hcc] at hstep
   refine wz 3 ?_
   refine sz 50 (fun g11_2 g11_2' => ?_) (fun g11_2 g11_2' => ?_)
   ·have eF : fewI r h f k (i + 1) = ((nums (chK r h f k (sl r k + (i : Int))) f.length).length : Nat) := by rw [hstep, if_pos (.inl (by omega))]
    refine wz 10 ?_
    exact ⟨⟨i + 1, by omega⟩, by simp only; omega, Sub.slots ⟨Less.eq (by rw [eF] <;> rfl), (by exact less_int (show sl r k + (i : Int) + 1 = sl r k + ((i + 1 : Nat) : Int) by omega)), jz, jz, jz, jz, jz, trivial⟩⟩
   refine wz 4 ?_
   refine iz (fun c_54 c_54' => ?_) (fun c_54 c_54' => ?_)
   ·have eF : fewI r h f k (i + 1) = ((nums (chK r h f k (sl r k + (i : Int))) f.length).length : Nat) := by rw [hstep, if_pos (.inr (of_decide_eq_true c_54))]
    refine wz 5 ?_
    exact ⟨⟨i + 1, by omega⟩, by simp only; omega, Sub.slots ⟨Less.eq (by rw [eF] <;> rfl), (by exact less_int (show sl r k + (i : Int) + 1 = sl r k + ((i + 1 : Nat) : Int) by omega)), jz, jz, jz, jz, jz, trivial⟩⟩
   have eF : fewI r h f k (i + 1) = fewI r h f k i := by rw [hstep, if_neg (by have h5 := of_decide_eq_false c_54; omega)]
   refine wz 3 ?_
   exact ⟨⟨i + 1, by omega⟩, by simp only; omega, Sub.slots ⟨Less.eq (by rw [eF] <;> rfl), (by exact less_int (show sl r k + (i : Int) + 1 = sl r k + ((i + 1 : Nat) : Int) by omega)), jz, jz, jz, jz, jz, trivial⟩⟩
  obtain rfl : i = (rng (sl r k) (sh r k)).length := by omega
  refine wz 2 ?_
  exact rz rfl (Less.eq (by rw [fewI_all gB h f hk2]))
theorem rfews_pure {r : Rg} (gB : RgB r) {h : Nat} (hhl : h < r.hides.length) {f : List Int} (hf : f.length = r.kinds.length) (hfd : fdOK r f = true) : APure Tryz.prog 34 [rgA r, I h, ints f] (I (fews r h f)) := by
  refine ap Tryz.func34 (fun e0 he0 => ?_)
  refine vz 2 ?_
  refine sq_nil ?_
  refine aw_seq ?_
  have h0 := few_bd gB h f (k := 0) (by rw [sl0, sh0]; exact gB.a.2.1.1)
  have h1 := few_bd gB h f (k := 1) (by rw [sl1, sh1]; exact gB.b.2.1.1)
  refine aw_draw 14 mo (by kernel_rfl) ?_
  refine dz 5 ?_
  refine dkz az (rfewest_pure gB hhl hf hfd (k := 0) (by omega) rfl) ?_
  refine dz 5 ?_
  refine dkz az (rfewest_pure gB hhl hf hfd (k := 1) (by omega) rfl) ?_
  refine dz 2 ?_
  refine wz 0 ?_
  exact rz rfl (Less.eq rfl)
theorem rmay_pure {r : Rg} (gB : RgB r) {h : Nat} (hhl : h < r.hides.length) {f : List Int} (hf : f.length = r.kinds.length) (hfd : fdOK r f = true) : APure Tryz.prog 35 [rgA r, I h, ints f] (B (may r h f)) := by
  refine ap Tryz.func35 (fun e0 he0 => ?_)
  refine wz 2 ?_
  refine aw_draw 8 mo (by kernel_rfl) ?_
  refine dz 3 ?_
  refine dkz az (rfews_pure gB hhl hf hfd) ?_
  refine dz 4 ?_
  refine wz 0 ?_
  exact rz rfl (Less.eq rfl)
theorem rmany_pure {r : Rg} (gB : RgB r) {f : List Int} (hf : f.length = r.kinds.length) (hfd : fdOK r f = true) : APure Tryz.prog 40 [rgA r, ints f] (I (mays r f).length) := by
  refine ap Tryz.func40 (fun e0 he0 => ?_)
  refine vz 2 ?_
  refine sq_nil ?_
  refine aw_seq ?_
  have hnh := gB.nh
  refine wz 2 ?_
  refine aw_loopk (ι := { i : Nat // i ≤ r.hides.length }) [1, 2] (fun i => [(5, I (mayC r f i.1 : Nat)), (6, I i.1)]) (fun H i => H) (fun i => r.hides.length - i.1) (⟨0, Nat.zero_le _⟩) ⟨jz, jz, jz, jz, trivial⟩ rfl ?_
  rintro ⟨i, hi⟩
  refine nz ?_
  have hcl := mayC_le r f i
  refine wz 5 ?_
  refine iz (fun c_11 c_11' => ?_) (fun c_11 c_11' => ?_)
  ·have hil : i < r.hides.length := by omega
   refine wz 3 ?_
   refine kz az (rmay_pure gB hil hf hfd) ?_
   refine wz 0 ?_
   refine iz (fun c_17 c_17' => ?_) (fun c_17 c_17' => ?_)
   ·have eC : mayC r f (i + 1) = mayC r f i + 1 := by rw [mayC_succ, if_pos c_17]
    refine wz 6 ?_
    exact ⟨⟨i + 1, by omega⟩, by simp only; omega, Sub.slots ⟨Less.eq (by rw [eC] <;> rfl), jz, jz, jz, trivial⟩⟩
   have eC : mayC r f (i + 1) = mayC r f i := by rw [mayC_succ, if_neg (by rw [c_17]; simp), Nat.add_zero]
   refine wz 3 ?_
   exact ⟨⟨i + 1, by omega⟩, by simp only; omega, Sub.slots ⟨Less.eq (by rw [eC] <;> rfl), jz, jz, jz, trivial⟩⟩
  obtain rfl : i = r.hides.length := by omega
  refine wz 2 ?_
  exact rz rfl (Less.eq rfl)
end Go.Proofs.YtjpokekbjmdgmaaGreatDoor
namespace Go.Proofs.YtjpokekbjmdgmaaGreatDoor
open Go Go.Ab Ni Hd
theorem slim_t {l : List Int} (h : slimB l = true) : APure Tryz.prog 30 [ints l] (B true) := by have q := slim_pure l; rw [h] at q; exact q
theorem slim_f {l : List Int} (h : slimB l = false) : APure Tryz.prog 30 [ints l] (B false) := by have q := slim_pure l; rw [h] at q; exact q
theorem find_t {r : Rg} {f : List Int} (hf : slimB f = true) (h : fdOK r f = true) : APure Tryz.prog 24 [rgA r, ints f] (B true) := by have q := rfind_pure r f (slim_len hf); rw [h] at q; exact q
theorem find_f {r : Rg} {f : List Int} (hf : slimB f = true) (h : fdOK r f = false) : APure Tryz.prog 24 [rgA r, ints f] (B false) := by have q := rfind_pure r f (slim_len hf); rw [h] at q; exact q
theorem many_n {r : Rg} {f : List Int} (hr : rgOK r = true) (hd : fdOK r f = true) (hn : (mays r f).length = 0) : APure Tryz.prog 40 [rgA r, ints f] (I 0) := by
  have q := rmany_pure (rgOK_B hr) (fdOK_iff.1 hd).1 hd
  rw [hn] at q; exact q
theorem okWho_of {r : Rg} {f : List Int} (hr : rgOK r = true) (hd : fdOK r f = true) : okWho r f = true := by unfold okWho; rw [hr, hd]; rfl
theorem okWho_r {r : Rg} {f : List Int} (hr : rgOK r = false) : okWho r f = false := by unfold okWho; rw [hr]; rfl
theorem okWho_f {r : Rg} {f : List Int} (hd : fdOK r f = false) : okWho r f = false := by unfold okWho; rw [hd]; simp
end Go.Proofs.YtjpokekbjmdgmaaGreatDoor
namespace Go.Proofs.YtjpokekbjmdgmaaGreatDoor
open Go Go.Ab Ni Hd
instance en113 : EnT Tryz.prog 113 := ⟨Ent.of Tryz.func113 (by kernel_rfl) rfl⟩
instance en53 : EnT Tryz.prog 53 := ⟨Ent.of Tryz.func53 (by kernel_rfl) rfl⟩
instance en55 : EnT Tryz.prog 55 := ⟨Ent.of Tryz.func55 (by kernel_rfl) rfl⟩
theorem fd_set {r : Rg} {f : List Int} (h : fdOK r f = true) {m : Nat} {x : Int} (hx : -1 ≤ x ∧ x ≤ 1000) : fdOK r (f.set m x) = true := by
  rw [fdOK_iff] at h ⊢
  refine ⟨by rw [List.length_set]; exact h.1, fun n hn => ?_⟩
  rcases List.mem_or_eq_of_mem_set hn with q | q
  · exact h.2 n q
  · omega
def wstK (r : Rg) (f : List Int) (m i : Nat) : Int := ((List.range i).map fun (x : Nat) => ((manyX r f m x : Nat) : Int)).foldl max 0
theorem wstK_succ (r : Rg) (f : List Int) (m i : Nat) : wstK r f m (i + 1) = max (wstK r f m i) ((manyX r f m i : Nat) : Int) := by unfold wstK; rw [List.range_succ, List.map_append, List.foldl_append]; rfl
theorem wstK_bd {r : Rg} (gB : RgB r) (f : List Int) (m i : Nat) : 0 ≤ wstK r f m i ∧ wstK r f m i ≤ 6 := by
  induction i with
  | zero => unfold wstK; simp
  | succ i ih =>
    have h1 := cntX_le r f m r.hides.length i
    rw [cnt_many] at h1
    have := gB.nh
    rw [wstK_succ]; omega
def nxR (l : List (Int × Int)) : Int × Int := if l = [] then (-1, 0) else bestOf l
theorem nxR_snoc (l : List (Int × Int)) (p : Int × Int) : nxR (l ++ [p]) = if l = [] then p else better (bestOf l) p := by
  unfold nxR; rw [if_neg (by simp)]
  cases l with
  | nil => rfl
  | cons a l => rw [if_neg (by simp)]; simp only [List.cons_append, bestOf, List.foldl_append]; rfl
theorem bestOf_mem {l : List (Int × Int)} (h : l ≠ []) : bestOf l ∈ l := by
  have key : ∀ (l : List (Int × Int)) (a : Int × Int), l.foldl better a ∈ a :: l := by
    intro l
    induction l with
    | nil => intro a; simp
    | cons b l ih =>
      intro a
      rw [List.foldl_cons]
      have := ih (better a b)
      rcases List.mem_cons.1 this with e | e
      · rw [e]; unfold better; split <;> simp
      · exact List.mem_cons_of_mem _ (List.mem_cons_of_mem _ e)
  cases l with
  | nil => exact absurd rfl h
  | cons a l => exact key l a
theorem nxR_bd {r : Rg} (gB : RgB r) (f : List Int) (n : Nat) : -1 ≤ (nxR (offers r f n)).1 ∧ (nxR (offers r f n)).1 ≤ n ∧ 0 ≤ (nxR (offers r f n)).2 ∧ (nxR (offers r f n)).2 ≤ 6 ∧ ((nxR (offers r f n)).1 < 0 ↔ offers r f n = []) := by
  unfold nxR
  by_cases h : offers r f n = []
  · rw [if_pos h]; simp [h]
  · rw [if_neg h]
    obtain ⟨m, h1, h2, e⟩ := mem_offers.1 (bestOf_mem h)
    have := worst_bd gB f m
    rw [e]; simp only [h, iff_false]; omega
theorem rtaken_pure (f : List Int) (m : Nat) (x : Int) (hm : m < f.length) (hl : f.length ≤ 1000000) : APure Tryz.prog 55 [ints f, I m, I x] (ints (f.set m x)) := by
  refine ap Tryz.func55 (fun e0 he0 => ?_) (hr := by simp only [AV.pureB]; exact pureE_map fun x _ => rfl)
  refine wz 2 ?_
  refine sq_append_msl (xs := f.map fun x => [I x]) rfl sf28.h Tryz.underlying28 (less_nilx _) jz (by simp; omega) (by simp; omega) (by simp; omega) fun cap hcap => ?_
  rw [List.length_map] at hcap
  refine sq_ev rfl (ev_as (v := .msl _ _ _ _) jz) ?_
  refine wz 0 ?_
  refine sq_ev rfl (ev_mv (v := .msl _ _ _ _) jz) ?_
  refine wz 2 ?_
  refine sq_ev rfl (ev_index_msl sl28.h jz jz rfl (by simpa using hm)) ?_
  refine Go.Ab.sq_storeRow (A := [AObj.dead]) (X := []) (R := f) (rs := (List.replicate ((cap - (f.map fun x => [I x]).length) * 1) AV.any)) (k := 0) (v := x) (a := I x) (n := m) (f := fun x => [I x]) (sz := 1) (bb := false) ?_ ?_ (fun _ => rfl) (by simp) ?_ ?_ ?_ ?_ ?_ ?_
  ·rfl
  ·rfl
  ·exact hm
  ·exact jz
  ·exact jz
  ·rfl
  ·exact ty3.h
  refine wz 0 ?_
  refine sq_ev rfl (ev_mv (v := .msl _ _ _ _) jz) ?_
  refine sq_sub (sub_freezeK [] 14 (j := 0) (sz := 1) (es := (f.set m x).map fun x => [I x]) (rest := (List.replicate ((cap - (f.map fun x => [I x]).length) * 1) AV.any)) rfl rfl (by simp) (fun r hr => by obtain ⟨t, _, rfl⟩ := List.mem_map.1 hr; rfl)) ?_
  refine sq_ev rfl (ev_as (v := .sl _ _) jz) ?_
  refine wz 0 ?_
  exact retQ_pure (v := .sl _ _) rfl rfl jz
theorem rworst_pure {r : Rg} (gB : RgB r) {f : List Int} (hf : f.length = r.kinds.length) (hfd : fdOK r f = true) {m : Nat} (hm : m < r.kinds.length) (hn : f.getD m 0 < 0) : APure Tryz.prog 113 [rgA r, ints f, I m] (I (worst r f m)) := by
  refine ap Tryz.func113 (fun e0 he0 => ?_)
  refine vz 2 ?_
  refine sq_nil ?_
  refine aw_seq ?_
  have hnk := gB.nk
  refine wz 2 ?_
  refine aw_loopk (ι := { i : Nat // i ≤ 1001 }) [1, 2, 3] (fun i => [(7, I (wstK r f m i.1)), (8, I i.1)]) (fun H i => H) (fun i => 1001 - i.1) (⟨0, by omega⟩) ⟨jz, jz, jz, jz, jz, trivial⟩ rfl ?_
  rintro ⟨i, hi⟩
  refine nz ?_
  have hwb := wstK_bd gB f m i
  refine wz 2 ?_
  refine iz (fun c_10 c_10' => ?_) (fun c_10 c_10' => ?_)
  ·have hil : i < 1001 := by omega
   have hms : (mays r (f.set m (i : Int))).length = manyX r f m i := many_set gB hm hf hn (by omega)
   have eW : wstK r f m (i + 1) = max (wstK r f m i) ((mays r (f.set m (i : Int))).length : Nat) := by rw [wstK_succ, hms]
   refine wz 0 ?_
   refine aw_draw 8 mo (by kernel_rfl) ?_
   refine dz 5 ?_
   refine dkz az (rtaken_pure f m i (by omega) (by omega)) ?_
   refine dkz az (rmany_pure gB (by rw [List.length_set]; exact hf) (fd_set hfd (by omega))) ?_
   refine dz 1 ?_
   refine wz 4 ?_
   exact ⟨⟨i + 1, by omega⟩, by simp only; omega, Sub.slots ⟨Less.eq (by rw [eW] <;> rfl), jz, jz, jz, jz, trivial⟩⟩
  obtain rfl : i = 1001 := by omega
  refine wz 2 ?_
  exact rz rfl (Less.eq rfl)
theorem rnext_pure {r : Rg} (gB : RgB r) {f : List Int} (hf : f.length = r.kinds.length) (hfd : fdOK r f = true) : APure Tryz.prog 53 [rgA r, ints f] (.tup [I (nxR (offers r f r.kinds.length)).1, I (nxR (offers r f r.kinds.length)).2]) := by
  refine ap Tryz.func53 (fun e0 he0 => ?_)
  refine wz 6 ?_
  refine aw_loopk (ι := { k : Nat // k ≤ f.length }) [1, 2] (fun i => [(6, I (nxR (offers r f i.1)).1), (7, I (nxR (offers r f i.1)).2), (8, I i.1)]) (fun H i => H) (fun i => f.length - i.1) (⟨0, Nat.zero_le _⟩) ⟨jz, jz, jz, jz, jz, trivial⟩ rfl ?_
  rintro ⟨k, hk⟩
  refine nz ?_
  have hnb := nxR_bd gB f k
  have hnk := gB.nk
  have hos := offers_succ r f k
  refine wz 4 ?_
  refine iz (fun c_13 c_13' => ?_) (fun c_13 c_13' => ?_)
  ·have hml : k < r.kinds.length := by omega
   have hmf : k < f.length := by omega
   have hgd : f.getD k 0 = f[k] := getD_at hmf
   rw [hgd] at hos
   refine wz 5 ?_
   refine iz (fun c_20 c_20' => ?_) (fun c_20 c_20' => ?_)
   ·rw [if_neg (by omega)] at hos
    have eO : (nxR (offers r f (k + 1))) = (nxR (offers r f k)) := by rw [hos]
    refine wz 3 ?_
    exact ⟨⟨k + 1, by omega⟩, by simp only; omega, Sub.slots ⟨Less.eq (by rw [eO] <;> rfl), Less.eq (by rw [eO] <;> rfl), jz, jz, jz, trivial⟩⟩
   have hneg : f.getD k 0 < 0 := by rw [hgd]; omega
   rw [if_pos (by omega)] at hos
   have hwb := worst_bd gB f k
   have hsn := nxR_snoc (offers r f k) ((k : Int), worst r f k)
   rw [← hos] at hsn
   refine wz 3 ?_
   refine kz az (rworst_pure gB hf hfd hml hneg) ?_
   refine wz 4 ?_
   refine sz 27 (fun g7_2 g7_2' => ?_) (fun g7_2 g7_2' => ?_)
   ·rw [if_pos (hnb.2.2.2.2.1 (by omega))] at hsn
    have eO := hsn
    refine wz 12 ?_
    exact ⟨⟨k + 1, by omega⟩, by simp only; omega, Sub.slots ⟨Less.eq (by rw [eO] <;> rfl), Less.eq (by rw [eO] <;> rfl), jz, jz, jz, trivial⟩⟩
   have hne : offers r f k ≠ [] := fun q => by have := hnb.2.2.2.2.2 q; omega
   have hnx : nxR (offers r f k) = bestOf (offers r f k) := by unfold nxR; rw [if_neg hne]
   rw [if_neg hne, ← hnx] at hsn
   refine wz 4 ?_
   refine iz (fun c_31 c_31' => ?_) (fun c_31 c_31' => ?_)
   ·have eO : (nxR (offers r f (k + 1))) = ((k : Int), worst r f k) := by rw [hsn]; unfold better; rw [if_pos (of_decide_eq_true c_31)]
    refine wz 7 ?_
    exact ⟨⟨k + 1, by omega⟩, by simp only; omega, Sub.slots ⟨Less.eq (by rw [eO] <;> rfl), Less.eq (by rw [eO] <;> rfl), jz, jz, jz, trivial⟩⟩
   have eO : (nxR (offers r f (k + 1))) = (nxR (offers r f k)) := by rw [hsn]; unfold better; rw [if_neg (of_decide_eq_false c_31)]
   refine wz 3 ?_
   exact ⟨⟨k + 1, by omega⟩, by simp only; omega, Sub.slots ⟨Less.eq (by rw [eO] <;> rfl), Less.eq (by rw [eO] <;> rfl), jz, jz, jz, trivial⟩⟩
  obtain rfl : k = f.length := by omega
  refine wz 4 ?_
  exact retQ_pure (v := .tup [.raw _, .raw _]) rfl rfl (less_tup ⟨Less.eq (by rw [← hf]), Less.eq (by rw [← hf]), trivial⟩)
theorem law10_a {r : Rg} {f : List Int} (hs : shB r = false) : APure Tryz.prog 10 [rgA r, ints f] (B true) := by
  refine ap Tryz.func10 (fun e0 he0 => ?_)
  refine wz 3 ?_
  refine kz az (short_f hs) ?_
  refine wz 7 ?_
  refine kz az (known_pure) ?_
  refine wz 1 ?_
  exact rz rfl jz
theorem law10_b {r : Rg} {f : List Int} (hs : shB r = true) (hf : slimB f = false) : APure Tryz.prog 10 [rgA r, ints f] (B true) := by
  refine ap Tryz.func10 (fun e0 he0 => ?_)
  refine wz 3 ?_
  refine kz az (short_t hs) ?_
  refine wz 3 ?_
  refine ky az (slim_f hf) ?_
  refine wz 3 ?_
  refine kz az (known_pure) ?_
  refine wz 1 ?_
  exact rz rfl jz
theorem law10_c {r : Rg} {f : List Int} (hs : shB r = true) (hf : slimB f = true) (hr : rgOK r = false) : APure Tryz.prog 10 [rgA r, ints f] (B true) := by
  refine ap Tryz.func10 (fun e0 he0 => ?_)
  refine wz 3 ?_
  refine kz az (short_t hs) ?_
  refine wz 3 ?_
  refine ky az (slim_t hf) ?_
  refine wz 5 ?_
  refine kz az (next_bad r f (shB_len hs).1 (shB_len hs).2.1 (shB_len hs).2.2 (slim_len hf) (okWho_r hr)) ?_
  refine wz 11 ?_
  refine kz az (reg_f hs hr) ?_
  refine wz 24 ?_
  refine ky az (known_pure) ?_
  refine wz 2 ?_
  exact rz rfl jz
theorem law10_d {r : Rg} {f : List Int} (hs : shB r = true) (hf : slimB f = true) (hr : rgOK r = true) (hd : fdOK r f = false) : APure Tryz.prog 10 [rgA r, ints f] (B true) := by
  refine ap Tryz.func10 (fun e0 he0 => ?_)
  refine wz 3 ?_
  refine kz az (short_t hs) ?_
  refine wz 3 ?_
  refine ky az (slim_t hf) ?_
  refine wz 5 ?_
  refine kz az (next_bad r f (shB_len hs).1 (shB_len hs).2.1 (shB_len hs).2.2 (slim_len hf) (okWho_f hd)) ?_
  refine wz 11 ?_
  refine kz az (reg_t hs hr) ?_
  refine wz 4 ?_
  refine ky az (find_f hf hd) ?_
  refine wz 19 ?_
  refine ky az (known_pure) ?_
  refine wz 2 ?_
  exact rz rfl jz
theorem law10_e {r : Rg} {f : List Int} (hs : shB r = true) (hf : slimB f = true) (hr : rgOK r = true) (hd : fdOK r f = true) (hn : (mays r f).length = 0) : APure Tryz.prog 10 [rgA r, ints f] (B true) := by
  refine ap Tryz.func10 (fun e0 he0 => ?_)
  refine wz 3 ?_
  refine kz az (short_t hs) ?_
  refine wz 3 ?_
  refine ky az (slim_t hf) ?_
  refine wz 5 ?_
  refine kz az (next_no (shB_len hs).1 (shB_len hs).2.1 (shB_len hs).2.2 (slim_len hf) (okWho_of hr hd) hn) ?_
  refine wz 11 ?_
  refine kz az (reg_t hs hr) ?_
  refine wz 4 ?_
  refine ky az (find_t hf hd) ?_
  refine wz 5 ?_
  refine kz az (many_n hr hd hn) ?_
  refine wz 18 ?_
  refine ky az (known_pure) ?_
  refine wz 2 ?_
  exact rz rfl jz
theorem rnext_n {r : Rg} {f : List Int} (hr : rgOK r = true) (hd : fdOK r f = true) (h0 : offers r f r.kinds.length = []) : APure Tryz.prog 53 [rgA r, ints f] (.tup [I (-1), I 0]) := by
  have q := rnext_pure (rgOK_B hr) (fdOK_iff.1 hd).1 hd
  rw [show nxR (offers r f r.kinds.length) = (-1, 0) from by unfold nxR; rw [if_pos h0]] at q; exact q
theorem rnext_t {r : Rg} {f : List Int} (hr : rgOK r = true) (hd : fdOK r f = true) (h0 : 0 < (offers r f r.kinds.length).length) : APure Tryz.prog 53 [rgA r, ints f] (.tup [I (nextOf r f).1, I (nextOf r f).2]) := by
  have q := rnext_pure (rgOK_B hr) (fdOK_iff.1 hd).1 hd
  rw [show nxR (offers r f r.kinds.length) = nextOf r f from by unfold nxR; rw [if_neg (List.length_pos_iff.1 h0)]; rfl] at q; exact q
theorem law10_f {r : Rg} {f : List Int} (hs : shB r = true) (hf : slimB f = true) (hr : rgOK r = true) (hd : fdOK r f = true) (hn : 0 < (mays r f).length) (h0 : offers r f r.kinds.length = []) : APure Tryz.prog 10 [rgA r, ints f] (B true) := by
  refine ap Tryz.func10 (fun e0 he0 => ?_)
  refine wz 3 ?_
  refine kz az (short_t hs) ?_
  refine wz 3 ?_
  refine ky az (slim_t hf) ?_
  refine wz 5 ?_
  refine kz az (next_none (shB_len hs).1 (shB_len hs).2.1 (shB_len hs).2.2 (slim_len hf) (okWho_of hr hd) hn h0) ?_
  refine wz 11 ?_
  refine kz az (reg_t hs hr) ?_
  refine wz 4 ?_
  refine ky az (find_t hf hd) ?_
  refine wz 5 ?_
  refine kz az (rmany_pure (rgOK_B hr) (fdOK_iff.1 hd).1 hd) ?_
  refine wz 1 ?_
  refine iz (fun c_39 c_39' => ?_) (fun c_39 c_39' => ?_)
  ·exfalso
   omega
  refine wz 2 ?_
  refine kz az (rnext_n hr hd h0) ?_
  refine wz 24 ?_
  refine ky az (known_pure) ?_
  refine wz 2 ?_
  exact rz rfl jz
theorem law10_g {r : Rg} {f : List Int} (hs : shB r = true) (hf : slimB f = true) (hr : rgOK r = true) (hd : fdOK r f = true) (hn : 0 < (mays r f).length) (h0 : 0 < (offers r f r.kinds.length).length) : APure Tryz.prog 10 [rgA r, ints f] (B true) := by
  refine ap Tryz.func10 (fun e0 he0 => ?_)
  refine aw_seq ?_
  have hnb : 0 ≤ (nextOf r f).1 := by obtain ⟨m, _, _, e, _⟩ := next_spec (List.length_pos_iff.1 h0); rw [e]; simp only; omega
  refine wz 3 ?_
  refine kz az (short_t hs) ?_
  refine wz 3 ?_
  refine ky az (slim_t hf) ?_
  refine wz 5 ?_
  refine kz az (next_ok (shB_len hs).1 (shB_len hs).2.1 (shB_len hs).2.2 (slim_len hf) (okWho_of hr hd) hn h0) ?_
  refine wz 11 ?_
  refine kz az (reg_t hs hr) ?_
  refine wz 4 ?_
  refine ky az (find_t hf hd) ?_
  refine wz 5 ?_
  refine kz az (rmany_pure (rgOK_B hr) (fdOK_iff.1 hd).1 hd) ?_
  refine wz 1 ?_
  refine iz (fun c_39 c_39' => ?_) (fun c_39 c_39' => ?_)
  ·exfalso
   omega
  refine wz 2 ?_
  refine kz az (rnext_t hr hd h0) ?_
  refine wz 7 ?_
  refine iz (fun c_47 c_47' => ?_) (fun c_47 c_47' => ?_)
  ·exfalso
   omega
  refine wz 8 ?_
  refine sq_yes rfl rfl jz rfl (ev_less (ev_eql jz jz) (Less.eq (b := B true) (congrArg B (decide_eq_true rfl)))) ?_
  refine wz 4 ?_
  refine sq_yes rfl rfl jz rfl (ev_less (ev_eql jz jz) (Less.eq (b := B true) (congrArg B (decide_eq_true rfl)))) ?_
  refine wz 2 ?_
  refine ky az (known_pure) ?_
  refine wz 2 ?_
  exact rz rfl jz
/-- **HideNexts.** -/
theorem law10 (r : Rg) (f : List Int) : APure Tryz.prog 10 [rgA r, ints f] (B true) := by
  cases hs : shB r with
  | false => exact law10_a hs
  | true =>
    cases hf : slimB f with
    | false => exact law10_b hs hf
    | true =>
      cases hr : rgOK r with
      | false => exact law10_c hs hf hr
      | true =>
        cases hd : fdOK r f with
        | false => exact law10_d hs hf hr hd
        | true =>
          rcases Nat.eq_zero_or_pos (mays r f).length with hn | hn
          · exact law10_e hs hf hr hd hn
          · rcases Nat.eq_zero_or_pos (offers r f r.kinds.length).length with h0 | h0
            · exact law10_f hs hf hr hd hn (List.length_eq_zero_iff.1 h0)
            · exact law10_g hs hf hr hd hn h0
end Go.Proofs.YtjpokekbjmdgmaaGreatDoor
