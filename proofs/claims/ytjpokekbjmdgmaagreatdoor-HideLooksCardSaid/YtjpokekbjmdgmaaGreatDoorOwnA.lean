/-
  A part of the proof: conditions: none beyond each theorem's own.
-/
import Derived.Test.YtjpokekbjmdgmaaGreatDoorLogicA
import Derived.Test.YtjpokekbjmdgmaaGreatDoorLogicD
import Derived.Deep.Slices
import Derived.OpenShut
import Derived.Carry
import Derived.Test.YtjpokekbjmdgmaaGreatDoorLogicC
import Derived.IntWalk
import Derived.Test.YtjpokekbjmdgmaaGreatDoorSpecA
import Derived.Test.YtjpokekbjmdgmaaGreatDoorProg
import Derived.KernelRfl
import Derived.Lib.LaidTab
import Derived.Lib.ItoaNum
import Derived.Test.YtjpokekbjmdgmaaGreatDoorWalkB
import Derived.Test.YtjpokekbjmdgmaaGreatDoorWalkC
import Derived.Test.YtjpokekbjmdgmaaGreatDoorWalkE
import Derived.Test.YtjpokekbjmdgmaaGreatDoorLogicB
import Derived.Test.YtjpokekbjmdgmaaGreatDoorShelf
import Derived.Test.YtjpokekbjmdgmaaGreatDoorWalkA
import Derived.Test.YtjpokekbjmdgmaaGreatDoorWalkD
import Derived.Test.YtjpokekbjmdgmaaGreatDoorRow
set_option linter.all false
set_option maxRecDepth 100000
set_option maxHeartbeats 8000000
namespace Go.Ab
variable [Tabs]
theorem FW_room (r : Option Nat) (n : Nat) : (FW r).room n := fun _ h => by simp [FW] at h
variable {c : Ctx} {Q : AExit → St → Prop} {s : St}
end Go.Ab
namespace Go.Ab
open Go.ChangeShapes Go.WideShapes
variable [Tabs]
theorem env0_ok {w : World} (h : Tabs.is w) (hb : ∀ b, Tabs.blk b → b < w.heap.size) : EnvOK (env0 w) :=
  ⟨fun b hb => by have hb' : w.heap.size ≤ b := hb
                  have : w.heap[b]? = none := by simpa using hb'
                  simp [env0, this], fun i o h => by simp [env0] at h, fun i j b hi => by simp [env0] at hi, fun i b hi => by simp [env0] at hi, h, fun b hk => ⟨hb b hk, fun i hi => by simp [env0] at hi⟩⟩
section
variable {H : Type} {enc : TypeId × Value → H} {P : Program} {w : World} {base : Nat} {spare : Nat → Bool} {held : Bool}
theorem trodAll_stays (hl : laidOutB P = true) {W W' : World} (hheap : ∀ b, b < W.heap.size → W'.heap[b]? = W.heap[b]?) {sp' : Nat → Bool} :
    ∀ {ts : List TypeId} {vs : List Value} {ds : List (DataW H)} {ps : List MemPlace}, (∀ t ∈ ts, P.readableRec t = true ∧ t < P.types.size) → DataW.TrodAll enc P W base (fun _ => true) true ts vs ds ps → (∀ p ∈ ps, p.block < W.heap.size) → (∀ p ∈ ps, sp' p.block = true) →
      DataW.TrodAll enc P W' base sp' true ts vs ds ps
  | [], _, _, _, _, h, _, _ => by
    obtain ⟨rfl, rfl, rfl⟩ := trodAll_nil h
    exact trodAll_mk0
  | t :: ts, _, _, _, ht, h, hlt, hs => by
    obtain ⟨v, vs1, d, ds1, a, b, rfl, rfl, rfl, h1, h2⟩ := trodAll_cons h
    refine trodAll_cons_mk (WideElems.Trod_stays hl (ht t (by simp)).1 (ht t (by simp)).2 h1 (fun p hp => ?_) (fun p hp => hs p (by simp [hp]))) (trodAll_stays hl hheap (fun u hu => ht u (List.mem_cons_of_mem _ hu)) h2 (fun p hp => hlt p (by simp [hp])) (fun p hp => hs p (by simp [hp])))
    have hb := hheap p.block (hlt p (by simp [hp]))
    cases p with
    | cell b o => exact cell?_of_heap hb
    | map b => exact hb
/-- **What a law's row asks of a call that returns true and leaves what it met.** -/
theorem post_true {f : Func} {s : ChangeSpec} {W W' : World} {args : Array Value} {ds gs : List (DataW H)} {before : List MemPlace} {tb : TypeId} (hl : laidOutB P = true) (hread : ∀ t ∈ f.params.toList, P.readableRec t = true ∧ t < P.types.size)
    (hres : f.resultTypes = #[tb]) (htb : P.underlying tb = some .bool) (hvars : s.vars = []) (hspec : (s.fn H ds).results = [.lit (.bool true)] ∧ (s.fn H ds).args = ds ∧ (s.fn H ds).vars = [])
    (hW : DataW.Whole enc P f.params.toList s.vars false W args.toList ds gs before) (hheap : ∀ b, b < W.heap.size → W'.heap[b]? = W.heap[b]?) (hst : Still W W') :
    s.post enc P f false true false false W args (.bool true) W' := by
  have hlt := hW.lt
  have hW0 := hW
  obtain ⟨p, q, h1, h2, rfl, _, _⟩ := hW
  rw [hvars] at h2
  obtain ⟨rfl, rfl⟩ := trodVars_none h2
  simp only [List.append_nil] at hlt
  obtain ⟨e1, e2, e3⟩ := hspec
  refine ⟨ds, [], p ++ [], [], p, [], hW0, ?_, ?_, ?_, ?_, fun h => by cases h⟩
  · rw [List.append_nil, e1, hres]
    exact trodAll_cons_mk (RowKit.shut_bool htb _) trodAll_mk0
  · rw [List.append_nil, e2]
    exact trodAll_stays hl hheap hread h1 hlt (fun p hp => by simpa using hlt p hp)
  · rw [List.append_nil, e3, hvars]; rfl
  · refine ⟨hst.1, hst.2, fun i hi => ?_⟩
    rw [hheap i hi]
    split <;> simp_all
theorem APure.law {f : FuncId} {args : List AV} {W : World} {vs : Array Value} (hc : APure P f args (.raw (.bool true))) (ht : Tabs.is W) (hb : ∀ b, Tabs.blk b → b < W.heap.size) (hr : RepL (env0 W) args vs.toList) :
    Calls P f vs W fun x W' => x = .returned (.bool true) ∧ (∀ b, b < W.heap.size → W'.heap[b]? = W.heap[b]?) ∧ Still W W' := by
  refine ((hc (env0 W) vs (env0_ok ht hb) hr).calls (fun k => FW_room none k)).mono ?_
  rintro x w' ⟨u, e', rfl, rfl, hx, hu⟩
  rw [Rep] at hu; subst hu
  exact ⟨rfl, hx.heap, hx.still⟩
end
end Go.Ab
namespace Go.Ab
variable [Tabs]
section seq
variable {c : Ctx} {ops : Array Oper} {Q : AExit → St → Prop} {rest : List Oper} {s : St} {i : Nat}
variable {d : Option Tmp} {op : Op} {t : TypeId} {p : String} {af : Array Edge}
end seq
section cond
variable {c : Ctx} {Q : AExit → St → Prop} {s : St} {x : Operand} {y z : Code}
end cond
section split
variable {c : Ctx} {ops : Array Oper} {Q : AExit → St → Prop} {s : St} {i : Nat} {l : List Oper}
end split
section draw
variable {c : Ctx} {H0 : List AObj} {ops : Array Oper} {Q : AExit → St → Prop} {m i : Nat} {s : St} {rest : List Oper}
variable {d : Option Tmp} {op : Op} {t : TypeId} {p : String} {af : Array Edge}
end draw
section ex
variable {c : Ctx} {Q : AExit → St → Prop} {K : St → Prop} {s : St} {id j : Nat}
end ex
section app
variable {c : Ctx} {ops : Array Oper} {Q : AExit → St → Prop} {s : St} {i : Nat} {o : Oper} {l m : List Oper} {H0 : List AObj} {k : Nat}
end app
theorem W (n : Nat) {p q : Prop} (k : q) (h : Cnt n → (Unit → q) → p := by
  intro hc hk
  repeat (
    replace hc := Cnt.pred hc
    repeat (with_reducible (first | refine xn ?_ | refine sa ?_ | refine sa0 ?_ | refine aw_seq ?_ | refine aw_region ?_ | refine sq_nil ?_ | refine aw_skip ?_ | refine aw_block ?_ | refine bn ?_ | refine aw_exit ?_ | refine xe ?_ | refine be ?_ | refine bo ?_ | refine gn ?_ | refine ge ?_ | refine xr ?_ | refine br ?_ | refine gr ?_ | refine aw_label ?_ | refine aw_scope ?_))
    first
    | ((with_reducible apply sq_ev); exact rfl; exact EV)
    | ((with_reducible apply sn1); exact rfl; exact rfl; exact GD J; exact rfl)
    | ((with_reducible apply sn0); exact rfl; exact rfl; exact GD J; exact rfl)
    | ((with_reducible apply sq_yes); exact rfl; exact rfl; exact GD J; exact rfl; exact EV)
    | ((with_reducible apply su); exact rfl; exact rfl; exact J; exact rfl)
    | ((with_reducible apply sq_box); exact rfl; exact J; exact rfl)
    | ((with_reducible apply sq_alloc); exact rfl; exact ZeO.h)
    | ((with_reducible apply sq_store); exact rfl; exact J; exact J; exact rfl; exact rfl; exact TyF.h; exact rfl; exact rfl)
    | ((with_reducible refine aw_true ?_ ?_); exact GD J)
    | ((with_reducible refine aw_false ?_ ?_); exact GD J))
  repeat (with_reducible (first | refine xn ?_ | refine sa ?_ | refine sa0 ?_ | refine aw_seq ?_ | refine aw_region ?_ | refine sq_nil ?_ | refine aw_skip ?_ | refine aw_block ?_ | refine bn ?_ | refine aw_exit ?_ | refine xe ?_ | refine be ?_ | refine bo ?_ | refine gn ?_ | refine ge ?_ | refine xr ?_ | refine br ?_ | refine gr ?_ | refine aw_label ?_ | refine aw_scope ?_ | refine aw_ret ?_))
  exact hk ()) : p := h ⟨⟩ fun _ => k
end Go.Ab
namespace Go.Ab
variable [Tabs]
section flat
variable {α : Type} {f : α → List AV} {sz : Nat}
end flat
section seq
variable {c : Ctx} {ops : Array Oper} {Q : AExit → St → Prop} {rest : List Oper} {i : Nat}
variable {d : Option Tmp} {t : TypeId} {p : String} {af : Array Edge} {sl : List (Nat × AV)} {A X : List AObj} {df : List ADef} {α : Type} {f : α → List AV} {sz k : Nat} {R : List α} {rs : List AV}
theorem row_look (hk : k < A.length) : (A.set k (.cells ((R.map f).flatten ++ rs)) ++ X)[k]? = some (.cells ((R.map f).flatten ++ rs)) := by
  rw [List.getElem?_append_left (by simpa using hk), List.getElem?_set_self hk]
theorem sq_storeRow {st : TypeId} {x y : Operand} {a : AV} {bb : Bool} {n : Nat} {v : α} (hd : dOK c.nt d = true) (hdn : d = none) (hsz : ∀ a, (f a).length = sz) (hk : k < A.length) (hn : n < R.length)
    (hx : Less ((⟨sl, A.set k (.cells ((R.map f).flatten ++ rs)) ++ X, df⟩ : St).op x) (.ptr k (0 + n * sz))) (hy : Less ((⟨sl, A.set k (.cells ((R.map f).flatten ++ rs)) ++ X, df⟩ : St).op y) a) (hm : a.cells = some (f v)) (ht : tySz c.P st = some (bb, sz))
    (kk : SeqWP c ops Q (i + 1) rest ⟨sl, A.set k (.cells (((R.set n v).map f).flatten ++ rs)) ++ X, df⟩) : SeqWP c ops Q i (⟨d, .store st x y, t, p, af, none⟩ :: rest) ⟨sl, A.set k (.cells ((R.map f).flatten ++ rs)) ++ X, df⟩ := by
  subst hdn
  have hl := fl_len hsz R
  have hle : n * sz + sz ≤ R.length * sz := by rw [← Nat.succ_mul]; exact Nat.mul_le_mul_right _ hn
  refine sq_store (j := k) (off := 0 + n * sz) (n := sz) (l := (R.map f).flatten ++ rs) hd hx hy hm (row_look hk) ht (by rw [hsz]; exact Nat.beq_refl _) (by rw [List.length_append, hl]; exact Nat.ble_eq_true_of_le (by omega)) ?_
  have e : (A.set k (.cells ((R.map f).flatten ++ rs)) ++ X).set k (.cells (((R.map f).flatten ++ rs).take (0 + n * sz) ++ f v ++ ((R.map f).flatten ++ rs).drop (0 + n * sz + (f v).length))) = A.set k (.cells (((R.set n v).map f).flatten ++ rs)) ++ X := by
    rw [fl_set hsz R rs hn v, List.set_append_left _ _ (by simpa using hk), List.set_set]
  show SeqWP c ops Q (i + 1) rest ⟨sl, (A.set k (.cells ((R.map f).flatten ++ rs)) ++ X).set k (.cells (((R.map f).flatten ++ rs).take (0 + n * sz) ++ f v ++ ((R.map f).flatten ++ rs).drop (0 + n * sz + (f v).length))), df⟩
  rw [e]; exact kk
end seq
section ev
variable {P : Program} {r : Option Nat} {ρ : Operand → AV} {d : Option Tmp} {t : TypeId} {p : String} {af : Array Edge} {g : Option (Nat × Bool)} {x : Operand}
variable {A X : List AObj} {α : Type} {f : α → List AV} {sz k : Nat} {R : List α} {rs : List AV}
end ev
end Go.Ab
namespace Hd
open Ni (inn)
theorem every_rising (n : Nat) : (every n).Pairwise (· < ·) := by
  unfold every
  rw [List.pairwise_map]
  exact List.pairwise_lt_range.imp fun h => by omega
theorem best_all : ∀ (l : List (Int × Int)) (a : Int × Int), (a :: l).Pairwise (fun p q => p.1 < q.1) → l.foldl better a ∈ a :: l ∧ ∀ y ∈ a :: l, (l.foldl better a).2 < y.2 ∨ ((l.foldl better a).2 = y.2 ∧ (l.foldl better a).1 ≤ y.1)
  | [], a, _ => ⟨by simp, fun y hy => by rw [List.mem_singleton] at hy; subst hy; right; exact ⟨rfl, Int.le_refl _⟩⟩
  | b :: l, a, h => by
    obtain ⟨h1, h2⟩ := List.pairwise_cons.1 h
    obtain ⟨h3, h4⟩ := List.pairwise_cons.1 h2
    rw [List.foldl_cons]
    by_cases c : b.2 < a.2
    · have e : better a b = b := by unfold better; rw [if_pos c]
      rw [e]
      obtain ⟨i1, i2⟩ := best_all l b h2
      refine ⟨List.mem_cons_of_mem _ i1, fun y hy => ?_⟩
      rcases List.mem_cons.1 hy with rfl | hy
      · have := i2 b (by simp); left; omega
      · exact i2 y hy
    · have e : better a b = a := by unfold better; rw [if_neg c]
      rw [e]
      obtain ⟨i1, i2⟩ := best_all l a (List.pairwise_cons.2 ⟨fun y hy => h1 y (List.mem_cons_of_mem _ hy), h4⟩)
      refine ⟨?_, fun y hy => ?_⟩
      · rcases List.mem_cons.1 i1 with e1 | e1
        · rw [e1]; simp
        · exact List.mem_cons_of_mem _ (List.mem_cons_of_mem _ e1)
      · rcases List.mem_cons.1 hy with rfl | hy
        · exact i2 _ (by simp)
        · rcases List.mem_cons.1 hy with rfl | hy
          · have k1 := i2 a (by simp)
            have k2 := h1 y (by simp)
            omega
          · exact i2 y (List.mem_cons_of_mem _ hy)
theorem offers_rising (r : Rg) (f : List Int) (n : Nat) : (offers r f n).Pairwise (fun p q => p.1 < q.1) := by
  unfold offers
  rw [List.pairwise_map]
  refine List.Pairwise.sublist List.filter_sublist ?_
  exact List.pairwise_lt_range.imp fun h => by simp only; omega
theorem mem_offers {r : Rg} {f : List Int} {n : Nat} {p : Int × Int} : p ∈ offers r f n ↔ ∃ m : Nat, m < n ∧ f.getD m 0 < 0 ∧ p = ((m : Int), worst r f m) := by
  unfold offers
  rw [List.mem_map]
  constructor
  · rintro ⟨m, hm, rfl⟩
    rw [List.mem_filter, List.mem_range, decide_eq_true_eq] at hm
    exact ⟨m, hm.1, hm.2, rfl⟩
  · rintro ⟨m, h1, h2, rfl⟩
    exact ⟨m, List.mem_filter.2 ⟨List.mem_range.2 h1, decide_eq_true h2⟩, rfl⟩
theorem next_spec {r : Rg} {f : List Int} (h : offers r f r.kinds.length ≠ []) : ∃ m : Nat, m < r.kinds.length ∧ f.getD m 0 < 0 ∧ nextOf r f = ((m : Int), worst r f m) ∧
    ∀ k, k < r.kinds.length → f.getD k 0 < 0 → worst r f m < worst r f k ∨ (worst r f m = worst r f k ∧ m ≤ k) := by
  unfold nextOf
  have hr := offers_rising r f r.kinds.length
  have hm := @mem_offers r f r.kinds.length
  cases hl : offers r f r.kinds.length with
  | nil => exact absurd hl h
  | cons a l =>
    rw [hl] at hr hm
    obtain ⟨h1, h2⟩ := best_all l a hr
    obtain ⟨m, k1, k2, e⟩ := hm.1 h1
    refine ⟨m, k1, k2, e, fun k hk hf => ?_⟩
    have := h2 _ (hm.2 ⟨k, hk, hf, rfl⟩)
    rw [e] at this
    simp only at this
    omega
theorem may_some {r : Rg} (B : RgB r) {h : Nat} {f : List Int} {m : Nat} (hh : h < r.hides.length) (hm : m < r.kinds.length) (hf : f.length = r.kinds.length) (hn : f.getD m 0 < 0) (hy : may r h f = true) : ∃ x : Nat, x < 1001 ∧ may r h (f.set m x) = true := by
  have hk : kd r m - 1 = (kp r m : Nat) := by rcases kp_cases B hm with ⟨e1, e2⟩ | ⟨e1, e2⟩ <;> rw [e1, e2] <;> rfl
  have hko : kd r m - 1 ≠ ((1 - kp r m : Nat) : Int) := by rcases kp_cases B hm with ⟨e1, e2⟩ | ⟨e1, e2⟩ <;> rw [e1, e2] <;> decide
  have ha := B.a; have hb := B.b; have ho := B.off
  have hspan : (sl r (kp r m) ≤ sh r (kp r m)) ∧ 700 ≤ sl r (kp r m) ∧ sh r (kp r m) ≤ 1300 := by
    rcases kp_cases B hm with ⟨_, e⟩ | ⟨_, e⟩ <;> rw [e]
    · rw [sl0, sh0]; omega
    · rw [sl1, sh1]; omega
  obtain ⟨n, hn2, e⟩ := few_is B h f hspan.1
  have hs := B.sz h m hh hm
  have hp : 0 ≤ sz r h m * n := Int.mul_nonneg (by omega) (by omega)
  have hq : sz r h m * n ≤ 500 * 1300 := Int.mul_le_mul (by omega) (by omega) (by omega) (by omega)
  have hlo : 0 ≤ lo r.off (sz r h m * n) ∧ lo r.off (sz r h m * n) ≤ hi r.off (sz r h m * n) ∧ hi r.off (sz r h m * n) ≤ 1000 := by
    rw [lo_eq, hi_eq (by omega) hp]; omega
  refine ⟨(lo r.off (sz r h m * n)).toNat, by omega, ?_⟩
  rw [show (((lo r.off (sz r h m * n)).toNat : Nat) : Int) = lo r.off (sz r h m * n) by omega]
  have hc : chg r.off (sz r h m * n) (lo r.off (sz r h m * n)) = false := by
    unfold chg inn
    rw [Bool.and_eq_false_iff]
    right
    simp only [Bool.not_eq_false', Bool.and_eq_true, decide_eq_true_eq]
    omega
  have o1 := chs_own (h := h) (x := lo r.off (sz r h m * n)) (rate := n) hm hf hn hk
  rw [hc] at o1
  simp at o1
  have l1 : few r h (f.set m (lo r.off (sz r h m * n))) (kp r m) ≤ _ := few_le hn2
  have hot := few_other (r := r) (h := h) (f := f) (x := lo r.off (sz r h m * n)) hko
  unfold may fews at hy ⊢
  rw [decide_eq_true_eq] at hy ⊢
  rcases kp_cases B hm with ⟨_, e2⟩ | ⟨_, e2⟩ <;> rw [e2] at hot l1 e o1
  · simp only [Nat.sub_zero] at hot; omega
  · simp only [Nat.sub_self] at hot; omega
theorem worst_bd {r : Rg} (B : RgB r) {f : List Int} {m : Nat} (hm : m < r.kinds.length) (hf : f.length = r.kinds.length) (hn : f.getD m 0 < 0) (hy : 0 < manyOf r f) : 1 ≤ worst r f m ∧ worst r f m ≤ manyOf r f := by
  constructor
  · unfold manyOf at hy
    obtain ⟨h, hh⟩ := List.exists_mem_of_length_pos hy
    unfold mays at hh
    rw [List.mem_filter, List.mem_range] at hh
    obtain ⟨x, hx, hs⟩ := may_some B hh.1 hm hf hn hh.2
    have h1 := worst_ge (r := r) (f := f) (m := m) hx
    rw [← many_set B hm hf hn (by omega)] at h1
    have : 0 < manyOf r (f.set m x) := List.length_pos_of_mem (a := h) (by unfold mays; rw [List.mem_filter, List.mem_range]; exact ⟨hh.1, hs⟩)
    omega
  · obtain ⟨x, hx, e⟩ := worst_is r f m
    rw [e, ← many_set B hm hf hn (by omega)]
    have := many_le B (x := x) hm hf hn
    omega
end Hd
namespace Go.Proofs.YtjpokekbjmdgmaaGreatDoor
open Go Go.Ab Ni Hd
theorem rin_pure (n lo hi : Int) : APure Tryz.prog 74 [I n, I lo, I hi] (B (inn n lo hi)) := by
  refine ap Tryz.func74 (fun e0 he0 => ?_)
  refine wz 5 ?_
  refine sz 10 (fun g1 g1' => ?_) (fun g1 g1' => ?_)
  ·refine wz 5 ?_
   exact rz rfl (Less.eq (by simp [inn, *]))
  refine wz 5 ?_
  exact rz rfl (Less.eq (by simp [inn, *]))
end Go.Proofs.YtjpokekbjmdgmaaGreatDoor
namespace Go.Proofs.YtjpokekbjmdgmaaGreatDoor
open Go Go.Ab Ni Hd
theorem who_no {r : Rg} {f : List Int} (hk : r.kinds.length ≤ 1000000) (hh : r.hides.length ≤ 1000000) (hw : ∀ h ∈ r.hides, h.length ≤ 1000000) (hl : f.length ≤ 1000000) (ho : okWho r f = true) (hn : (mays r f).length = 0) : APure Tryz.prog 39 [rgA r, ints f] (.tup [ints [], I 7]) := by
  refine ap Tryz.func39 (fun e0 he0 => ?_)
  refine vz 3 ?_
  refine sq_nil ?_
  refine aw_seq ?_
  refine aw_seq ?_
  obtain ⟨gB, hfl⟩ := whoF ho
  refine wz 1 ?_
  refine kz az (isregister_pure r hk hh hw) ?_
  refine wz 2 ?_
  refine sz 15 (fun g1_3 g1_3' => ?_) (fun g1_3 g1_3' => ?_)
  ·exfalso
   revert ho
   unfold okWho
   simp_all
  refine wz 2 ?_
  refine ky az (isfind_pure r f hl) ?_
  refine wz 2 ?_
  refine iz (fun c_20 c_20' => ?_) (fun c_20 c_20' => ?_)
  ·exfalso
   revert ho
   unfold okWho
   simp_all
  refine wz 2 ?_
  refine sq_call (first := []) (cap := []) (args := [rgA r, ints f]) rfl en97.h jz ⟨jz, jz, trivial⟩ (hides_call gB hfl _) ?_ (by rintro v H' ⟨h, _⟩; cases h)
  rintro _ _ ⟨h, rfl⟩; cases h
  refine wz 2 ?_
  refine sq_ev rfl (ev_len_mp mt138 jz rfl) ?_
  refine wz 1 ?_
  refine iz (fun c_26 c_26' => ?_) (fun c_26 c_26' => ?_)
  ·refine wz 2 ?_
   exact retQ_pure (v := .tup [.raw _, .raw _]) rfl rfl (less_tup ⟨less_nil 1, jz, trivial⟩)
  exfalso
  rw [mayK_len] at c_26'
  omega
end Go.Proofs.YtjpokekbjmdgmaaGreatDoor
namespace Go.Proofs.YtjpokekbjmdgmaaGreatDoor
open Go Go.Ab Ni Hd
section
variable {P : Program} {r : Option Nat} {H : List AObj} {ρ : Operand → AV}
variable {d : Option Tmp} {t : TypeId} {p : String} {af : Array Edge} {g : Option (Nat × Bool)} {x y : Operand}
end
theorem cnt_many (r : Rg) (f : List Int) (m x : Nat) : cntX r f m r.hides.length x = manyX r f m x := rfl
theorem next_no {r : Rg} {f : List Int} (hk : r.kinds.length ≤ 1000000) (hh : r.hides.length ≤ 1000000) (hw : ∀ h ∈ r.hides, h.length ≤ 1000000) (hl : f.length ≤ 1000000) (ho : okWho r f = true) (hn : (mays r f).length = 0) : APure Tryz.prog 52 [rgA r, ints f] (.tup [I 0, I 0, I 7]) := by
  refine ap Tryz.func52 (fun e0 he0 => ?_)
  refine vz 4 ?_
  refine sq_nil ?_
  refine aw_seq ?_
  refine aw_seq ?_
  obtain ⟨gB, hfl⟩ := whoF ho
  have hnk := gB.nk
  refine wz 1 ?_
  refine kz az (isregister_pure r hk hh hw) ?_
  refine wz 2 ?_
  refine sz 18 (fun g1_3 g1_3' => ?_) (fun g1_3 g1_3' => ?_)
  ·exfalso
   revert ho
   unfold okWho
   simp_all
  refine wz 2 ?_
  refine ky az (isfind_pure r f hl) ?_
  refine wz 2 ?_
  refine iz (fun c_23 c_23' => ?_) (fun c_23 c_23' => ?_)
  ·exfalso
   revert ho
   unfold okWho
   simp_all
  refine wz 2 ?_
  refine sq_call (first := []) (cap := []) (args := [rgA r, ints f]) rfl en97.h jz ⟨jz, jz, trivial⟩ (hides_call gB hfl _) ?_ (by rintro v H' ⟨h, _⟩; cases h)
  rintro _ _ ⟨h, rfl⟩; cases h
  refine sq_ev rfl (ev_len_mp mt138 jz rfl) ?_
  refine wz 1 ?_
  refine iz (fun c_28 c_28' => ?_) (fun c_28 c_28' => ?_)
  ·refine wz 3 ?_
   exact retQ_pure (v := .tup [.raw _, .raw _, .raw _]) rfl rfl (less_tup ⟨jz, jz, jz, trivial⟩)
  exfalso
  rw [mayK_len] at c_28'
  omega
end Go.Proofs.YtjpokekbjmdgmaaGreatDoor
namespace Go.Proofs.YtjpokekbjmdgmaaGreatDoor
open Go Go.Ab Ni Hd
def shB (r : Rg) : Bool := decide ((r.kinds.length ≤ 8 ∧ r.hides.length ≤ 8) ∧ ∀ i, (hi : i < r.hides.length) → i < 9 → r.hides[i].length ≤ 10)
theorem shB_fin {r : Rg} (h3 : ∀ i, (hi : i < r.hides.length) → i < 9 → r.hides[i].length ≤ 10) : shB r = (decide (r.kinds.length ≤ 8) && decide (r.hides.length ≤ 8)) := by
  rw [Bool.eq_iff_iff]; unfold shB; simp only [decide_eq_true_eq, Bool.and_eq_true]
  exact ⟨fun h => h.1, fun h => ⟨h, h3⟩⟩
theorem shB_row {r : Rg} {i : Nat} (hi : i < r.hides.length) (h9 : i < 9) (h : ¬ r.hides[i].length ≤ 10) : shB r = false := decide_eq_false fun q => h (q.2 i hi h9)
theorem shB_len {r : Rg} (h : shB r = true) : r.kinds.length ≤ 1000000 ∧ r.hides.length ≤ 1000000 ∧ (∀ h ∈ r.hides, h.length ≤ 1000000) := by
  have q := of_decide_eq_true h
  refine ⟨by omega, by omega, fun x hx => ?_⟩
  obtain ⟨i, hi, rfl⟩ := List.getElem_of_mem hx
  have := q.2 i hi (by omega); omega
theorem rg_kind {r : Rg} {i : Nat} (hi : i < r.kinds.length) (h : kdOK r.kinds[i] = false) : rgOK r = false := by
  have e : r.kinds.all kdOK = false := by rw [List.all_eq_false]; exact ⟨_, List.getElem_mem hi, by rw [h]; simp⟩
  unfold rgOK; rw [e]; simp
theorem rg_hide {r : Rg} {i : Nat} (hi : i < r.hides.length) (h : hdOK r.kinds.length r.hides[i] = false) : rgOK r = false := by
  have e : r.hides.all (hdOK r.kinds.length) = false := by rw [List.all_eq_false]; exact ⟨_, List.getElem_mem hi, by rw [h]; simp⟩
  unfold rgOK; rw [e]; simp
theorem hd_len {w : Nat} {h : List Int} (e : h.length ≠ w) : hdOK w h = false := by unfold hdOK; rw [decide_eq_false e]; rfl
theorem hd_num {w : Nat} {h : List Int} {j : Nat} (hj : j < h.length) (e : inn h[j] 1 500 = false) : hdOK w h = false := by
  have q : (h.all fun n => inn n 1 500) = false := by rw [List.all_eq_false]; exact ⟨_, List.getElem_mem hj, by rw [e]; simp⟩
  unfold hdOK; rw [q]; simp
theorem hd_yes {w : Nat} {h : List Int} (e : h.length = w) (k : ∀ j, (hj : j < h.length) → inn h[j] 1 500 = true) : hdOK w h = true := by
  unfold hdOK; rw [decide_eq_true e, List.all_eq_true.2 fun x hx => by obtain ⟨j, hj, rfl⟩ := List.getElem_of_mem hx; exact k j hj]; rfl
theorem all_of {α : Type} {q : α → Bool} {l : List α} (h : ∀ j, (hj : j < l.length) → q l[j] = true) : l.all q = true := List.all_eq_true.2 fun x hx => by obtain ⟨j, hj, rfl⟩ := List.getElem_of_mem hx; exact h j hj
theorem fd_bad {r : Rg} {f : List Int} {i : Nat} (hi : i < f.length) (h : inn f[i] (-1) 1000 = false) : fdOK r f = false := by
  have e : (f.all fun n => inn n (-1) 1000) = false := by rw [List.all_eq_false]; exact ⟨_, List.getElem_mem hi, by rw [h]; simp⟩
  unfold fdOK; rw [e]; simp
theorem short_pure (r : Rg) : APure Tryz.prog 20 [rgA r] (B (shB r)) := by
  refine ap Tryz.func20 (fun e0 he0 => ?_)
  refine wz 3 ?_
  refine aw_loopk (ι := { k : Nat // k ≤ r.hides.length ∧ k ≤ 9 ∧ ∀ i, (hi : i < r.hides.length) → i < k → r.hides[i].length ≤ 10 }) [1] (fun i => [(3, I i.1)]) (fun H i => H) (fun i => r.hides.length - i.1) (⟨0, Nat.zero_le _, by omega, by omega⟩) ⟨jz, jz, trivial⟩ rfl ?_
  rintro ⟨k, hk, hk9, hok⟩
  refine nz ?_
  refine wz 6 ?_
  refine sz 9 (fun g2_5 g2_5' => ?_) (fun g2_5 g2_5' => ?_)
  ·have hkl : k < r.hides.length := by omega
   refine wz 3 ?_
   refine iz (fun c_12 c_12' => ?_) (fun c_12 c_12' => ?_)
   ·have hk9b : k < 9 := by have := of_decide_eq_true c_12; omega
    refine wz 7 ?_
    refine iz (fun c_21 c_21' => ?_) (fun c_21 c_21' => ?_)
    ·have hbad := shB_row hkl hk9b (by omega)
     refine wz 1 ?_
     exact rz rfl (Less.eq (by rw [hbad]))
    refine wz 3 ?_
    exact ⟨⟨k + 1, by omega, by omega, fun i hi h => (by by_cases e : i = k; (subst e; omega); exact hok i hi (by omega))⟩, by simp only; omega, Sub.slots ⟨jz, jz, trivial⟩⟩
   refine wz 5 ?_
   refine sz 26 (fun g6_4 g6_4' => ?_) (fun g6_4 g6_4' => ?_)
   ·refine wz 6 ?_
    exact rz rfl (Less.eq (congrArg B (by have h9 := of_decide_eq_false c_12; rw [shB_fin (fun i hi h8 => hok i hi (by omega)), Bool.eq_iff_iff]; simp; omega)))
   refine wz 6 ?_
   exact rz rfl (Less.eq (congrArg B (by have h9 := of_decide_eq_false c_12; rw [shB_fin (fun i hi h8 => hok i hi (by omega)), Bool.eq_iff_iff]; simp; omega)))
  obtain rfl : k = r.hides.length := by omega
  refine wz 9 ?_
  refine sz 26 (fun g6_4 g6_4' => ?_) (fun g6_4 g6_4' => ?_)
  ·refine wz 6 ?_
   exact rz rfl (Less.eq (congrArg B (by rw [shB_fin (fun i hi _ => hok i hi hi), Bool.eq_iff_iff]; simp; omega)))
  refine wz 6 ?_
  exact rz rfl (Less.eq (congrArg B (by rw [shB_fin (fun i hi _ => hok i hi hi), Bool.eq_iff_iff]; simp; omega)))
theorem rspan_pure (a b : Int) (ha : -1000000 ≤ a ∧ a ≤ 1000000 ∨ True) : APure Tryz.prog 75 [.agg [I a, I b]] (B (spOK a b)) := by
  refine ap Tryz.func75 (fun e0 he0 => ?_)
  refine vz 2 ?_
  refine sq_nil ?_
  refine aw_seq ?_
  have hin : ∀ x lo hi : Int, inn x lo hi = true ↔ lo ≤ x ∧ x ≤ hi := fun x lo hi => by unfold inn; simp
  refine wz 2 ?_
  refine kz az (rin_pure _ _ _) ?_
  refine wz 1 ?_
  refine sz 6 (fun g1_3 g1_3' => ?_) (fun g1_3 g1_3' => ?_)
  ·have h1 := (hin _ _ _).1 g1_3
   refine wz 4 ?_
   refine ky az (rin_pure _ _ _) ?_
   refine wz 2 ?_
   refine sz 13 (fun g1_10 g1_10' => ?_) (fun g1_10 g1_10' => ?_)
   ·have h2 := (hin _ _ _).1 g1_10
    refine wz 8 ?_
    exact rz rfl (Less.eq (by unfold spOK; simp [*]))
   refine wz 8 ?_
   exact rz rfl (Less.eq (by unfold spOK; simp [*]))
  refine wz 15 ?_
  exact rz rfl (Less.eq (by unfold spOK; simp [*]))
theorem register_pure (r : Rg) (hk : r.kinds.length ≤ 1000000) (hh : r.hides.length ≤ 1000000) (hw : ∀ h ∈ r.hides, h.length ≤ 1000000) : APure Tryz.prog 21 [rgA r] (B (rgOK r)) := by
  refine ap Tryz.func21 (fun e0 he0 => ?_)
  refine wz 5 ?_
  refine kz az (rin_pure _ _ _) ?_
  refine wz 2 ?_
  refine sz 11 (fun g1_5 g1_5' => ?_) (fun g1_5 g1_5' => ?_)
  ·refine wz 8 ?_
   exact rz rfl (Less.eq (by unfold rgOK; simp_all))
  refine wz 3 ?_
  refine ky az (rin_pure _ _ _) ?_
  refine wz 2 ?_
  refine iz (fun c_17 c_17' => ?_) (fun c_17 c_17' => ?_)
  ·refine wz 1 ?_
   exact rz rfl (Less.eq (by unfold rgOK; simp_all))
  refine wz 1 ?_
  refine aw_loopk (ι := { k : Nat // k ≤ r.kinds.length ∧ ∀ i, (hi : i < r.kinds.length) → i < k → kdOK r.kinds[i] = true }) [1] (fun i => [(3, I i.1)]) (fun H i => H) (fun i => r.kinds.length - i.1) (⟨0, Nat.zero_le _, by omega⟩) ⟨jz, jz, trivial⟩ rfl ?_
  rintro ⟨k, hkk, hok⟩
  refine nz ?_
  refine wz 5 ?_
  refine iz (fun c_22 c_22' => ?_) (fun c_22 c_22' => ?_)
  ·have hkl : k < r.kinds.length := by omega
   refine wz 7 ?_
   refine sz 31 (fun g6_6 g6_6' => ?_) (fun g6_6 g6_6' => ?_)
   ·refine wz 7 ?_
    refine iz (fun c_38 c_38' => ?_) (fun c_38 c_38' => ?_)
    ·have hbad := rg_kind hkl (by unfold kdOK; have h5 := of_decide_eq_true c_38; exact decide_eq_false (by omega))
     refine wz 1 ?_
     exact rz rfl (Less.eq (by rw [hbad]))
    have hkd : kdOK r.kinds[k] = true := by unfold kdOK; have h5 := of_decide_eq_false c_38; exact decide_eq_true (by omega)
    refine wz 3 ?_
    exact ⟨⟨k + 1, by omega, fun i hi h => (by by_cases e : i = k; (subst e; exact hkd); exact hok i hi (by omega))⟩, by simp only; omega, Sub.slots ⟨jz, jz, trivial⟩⟩
   have hkd : kdOK r.kinds[k] = true := by unfold kdOK; exact decide_eq_true (by omega)
   refine wz 11 ?_
   exact ⟨⟨k + 1, by omega, fun i hi h => (by by_cases e : i = k; (subst e; exact hkd); exact hok i hi (by omega))⟩, by simp only; omega, Sub.slots ⟨jz, jz, trivial⟩⟩
  obtain rfl : k = r.kinds.length := by omega
  have hall1 : r.kinds.all kdOK = true := all_of fun j hj => hok j hj hj
  refine wz 1 ?_
  refine aw_loopk (ι := { k : Nat // k ≤ r.hides.length ∧ ∀ i, (hi : i < r.hides.length) → i < k → hdOK r.kinds.length r.hides[i] = true }) [1] (fun i => [(4, I i.1)]) (fun H i => H) (fun i => r.hides.length - i.1) (⟨0, Nat.zero_le _, by omega⟩) ⟨jz, jz, trivial⟩ rfl ?_
  rintro ⟨k, hkh, hok2⟩
  refine nz ?_
  refine wz 5 ?_
  refine iz (fun c_43 c_43' => ?_) (fun c_43 c_43' => ?_)
  ·have hhl : k < r.hides.length := by omega
   have hwl := hw _ (List.getElem_mem hhl)
   refine wz 0 ?_
   refine aw_draw 10 mo (by kernel_rfl) ?_
   refine dz 10 ?_
   refine wz 0 ?_
   refine iz (fun c_55 c_55' => ?_) (fun c_55 c_55' => ?_)
   ·have hbad := rg_hide hhl (hd_len (by omega))
    refine wz 1 ?_
    exact rz rfl (Less.eq (by rw [hbad]))
   have hle : r.hides[k].length = r.kinds.length := by omega
   refine wz 1 ?_
   refine aw_loopk (ι := { j : Nat // j ≤ r.hides[k].length ∧ ∀ i, (hi : i < r.hides[k].length) → i < j → inn r.hides[k][i] 1 500 = true }) [1, 4] (fun u => [(5, I u.1)]) (fun H u => H) (fun u => r.hides[k].length - u.1) (⟨0, Nat.zero_le _, by omega⟩) ⟨jz, jz, jz, trivial⟩ rfl ?_
   rintro ⟨j, hj, hok3⟩
   refine nz ?_
   refine wz 8 ?_
   refine iz (fun c_63 c_63' => ?_) (fun c_63 c_63' => ?_)
   ·have hjl : j < r.hides[k].length := by omega
    refine wz 8 ?_
    refine kz az (rin_pure _ _ _) ?_
    refine wz 1 ?_
    refine iz (fun c_75 c_75' => ?_) (fun c_75 c_75' => ?_)
    ·have hbad := rg_hide hhl (hd_num hjl (by simpa using c_75))
     refine wz 1 ?_
     exact rz rfl (Less.eq (by rw [hbad]))
    have hin : inn r.hides[k][j] 1 500 = true := by simpa using c_75
    refine wz 3 ?_
    exact ⟨⟨j + 1, by omega, fun i hi h => (by by_cases e : i = j; (subst e; exact hin); exact hok3 i hi (by omega))⟩, by simp only; omega, Sub.slots ⟨jz, jz, jz, trivial⟩⟩
   obtain rfl : j = r.hides[k].length := by omega
   refine wz 3 ?_
   exact ⟨⟨k + 1, by omega, fun i hi h => (by by_cases e : i = k; (subst e; exact hd_yes hle fun j hj => hok3 j hj hj); exact hok2 i hi (by omega))⟩, by simp only; omega, Sub.slots ⟨jz, jz, trivial⟩⟩
  obtain rfl : k = r.hides.length := by omega
  have hall2 : r.hides.all (hdOK r.kinds.length) = true := all_of fun j hj => hok2 j hj hj
  refine wz 2 ?_
  refine kz az (rspan_pure _ _ (.inr trivial)) ?_
  refine wz 1 ?_
  refine sz 79 (fun g18_3 g18_3' => ?_) (fun g18_3 g18_3' => ?_)
  ·refine wz 2 ?_
   refine ky az (rspan_pure _ _ (.inr trivial)) ?_
   refine wz 2 ?_
   refine sz 84 (fun g18_8 g18_8' => ?_) (fun g18_8 g18_8' => ?_)
   ·refine wz 2 ?_
    refine ky az (rin_pure _ _ _) ?_
    refine wz 2 ?_
    refine sz 89 (fun g18_13 g18_13' => ?_) (fun g18_13 g18_13' => ?_)
    ·refine wz 2 ?_
     refine ky az (rin_pure _ _ _) ?_
     refine wz 2 ?_
     exact rz rfl (Less.eq (by unfold rgOK; rw [hall1, hall2]; simp_all))
    refine wz 5 ?_
    exact rz rfl (Less.eq (by unfold rgOK; rw [hall1, hall2]; simp_all))
   refine wz 10 ?_
   exact rz rfl (Less.eq (by unfold rgOK; rw [hall1, hall2]; simp_all))
  refine wz 15 ?_
  exact rz rfl (Less.eq (by unfold rgOK; rw [hall1, hall2]; simp_all))
end Go.Proofs.YtjpokekbjmdgmaaGreatDoor
namespace Go.Proofs.YtjpokekbjmdgmaaGreatDoor
open Go Go.Ab Ni Hd
theorem short_t {r : Rg} (h : shB r = true) : APure Tryz.prog 20 [rgA r] (B true) := by have q := short_pure r; rw [h] at q; exact q
theorem short_f {r : Rg} (h : shB r = false) : APure Tryz.prog 20 [rgA r] (B false) := by have q := short_pure r; rw [h] at q; exact q
theorem reg_t {r : Rg} (hs : shB r = true) (h : rgOK r = true) : APure Tryz.prog 21 [rgA r] (B true) := by have q := register_pure r (shB_len hs).1 (shB_len hs).2.1 (shB_len hs).2.2; rw [h] at q; exact q
theorem reg_f {r : Rg} (hs : shB r = true) (h : rgOK r = false) : APure Tryz.prog 21 [rgA r] (B false) := by have q := register_pure r (shB_len hs).1 (shB_len hs).2.1 (shB_len hs).2.2; rw [h] at q; exact q
end Go.Proofs.YtjpokekbjmdgmaaGreatDoor
namespace Go.Proofs.YtjpokekbjmdgmaaGreatDoor
open Go Go.Ab Ni Hd
def slimB (l : List Int) : Bool := decide (l.length ≤ 10)
theorem slim_len {l : List Int} (h : slimB l = true) : l.length ≤ 1000000 := by have := of_decide_eq_true h; omega
theorem rmeas_pure (r : Rg) (n : Int) (hk : r.kinds.length ≤ 1000000) : APure Tryz.prog 48 [rgA r, I n] (B (msIn r n)) := by
  refine ap Tryz.func48 (fun e0 he0 => ?_)
  refine wz 7 ?_
  refine kz az (rin_pure _ _ _) ?_
  refine wz 1 ?_
  exact rz rfl (Less.eq rfl)
end Go.Proofs.YtjpokekbjmdgmaaGreatDoor
namespace Go.Proofs.YtjpokekbjmdgmaaGreatDoor
open Go Go.Ab Ni Hd
def mayC (r : Rg) (f : List Int) (k : Nat) : Nat := ((List.range k).filter fun h => may r h f).length
theorem mayC_succ (r : Rg) (f : List Int) (k : Nat) : mayC r f (k + 1) = mayC r f k + if may r k f = true then 1 else 0 := by
  unfold mayC; rw [List.range_succ, List.filter_append, List.length_append]
  cases h : may r k f <;> simp [h]
theorem mayC_le (r : Rg) (f : List Int) (k : Nat) : mayC r f k ≤ k := by unfold mayC; exact Nat.le_trans (List.length_filter_le _ _) (by simp)
end Go.Proofs.YtjpokekbjmdgmaaGreatDoor
namespace Go.Proofs.YtjpokekbjmdgmaaGreatDoor
open Go Go.Ab Ni Hd
theorem whob_n {r : Rg} {f : List Int} (hs : shB r = true) (hf : slimB f = true) (ho : okWho r f = true) (hn : (mays r f).length = 0) : APure Tryz.prog 39 [rgA r, ints f] (.tup [ints [], I 7]) := who_no (shB_len hs).1 (shB_len hs).2.1 (shB_len hs).2.2 (slim_len hf) ho hn
theorem whob_t {r : Rg} {f : List Int} (hs : shB r = true) (hf : slimB f = true) (ho : okWho r f = true) (hn : 0 < (mays r f).length) : APure Tryz.prog 39 [rgA r, ints f] (.tup [ints (whoOf r f), I 0]) := who_ok (shB_len hs).1 (shB_len hs).2.1 (shB_len hs).2.2 (slim_len hf) ho hn
theorem okWho_of {r : Rg} {f : List Int} (hr : rgOK r = true) (hd : fdOK r f = true) : okWho r f = true := by unfold okWho; rw [hr, hd]; rfl
theorem whoOf_len (r : Rg) (f : List Int) : (whoOf r f).length = r.hides.length := by simp [whoOf]
end Go.Proofs.YtjpokekbjmdgmaaGreatDoor
namespace Go.Proofs.YtjpokekbjmdgmaaGreatDoor
open Go Go.Ab Ni Hd
instance en55 : EnT Tryz.prog 55 := ⟨Ent.of Tryz.func55 (by kernel_rfl) rfl⟩
theorem fd_set {r : Rg} {f : List Int} (h : fdOK r f = true) {m : Nat} {x : Int} (hx : -1 ≤ x ∧ x ≤ 1000) : fdOK r (f.set m x) = true := by
  rw [fdOK_iff] at h ⊢
  refine ⟨by rw [List.length_set]; exact h.1, fun n hn => ?_⟩
  rcases List.mem_or_eq_of_mem_set hn with q | q
  · exact h.2 n q
  · omega
def wstK (r : Rg) (f : List Int) (m i : Nat) : Int := ((List.range i).map fun (x : Nat) => ((manyX r f m x : Nat) : Int)).foldl max 0
theorem wstK_succ (r : Rg) (f : List Int) (m i : Nat) : wstK r f m (i + 1) = max (wstK r f m i) ((manyX r f m i : Nat) : Int) := by unfold wstK; rw [List.range_succ, List.map_append, List.foldl_append]; rfl
theorem wstK_bd {r : Rg} (gB : RgB r) (f : List Int) (m i : Nat) : 0 ≤ wstK r f m i ∧ wstK r f m i ≤ 6 := by
  induction i with
  | zero => unfold wstK; simp
  | succ i ih =>
    have h1 := cntX_le r f m r.hides.length i
    rw [cnt_many] at h1
    have := gB.nh
    rw [wstK_succ]; omega
theorem rtaken_pure (f : List Int) (m : Nat) (x : Int) (hm : m < f.length) (hl : f.length ≤ 1000000) : APure Tryz.prog 55 [ints f, I m, I x] (ints (f.set m x)) := by
  refine ap Tryz.func55 (fun e0 he0 => ?_) (hr := by simp only [AV.pureB]; exact pureE_map fun x _ => rfl)
  refine wz 2 ?_
  refine sq_append_msl (xs := f.map fun x => [I x]) rfl sf28.h Tryz.underlying28 (less_nilx _) jz (by simp; omega) (by simp; omega) (by simp; omega) fun cap hcap => ?_
  rw [List.length_map] at hcap
  refine sq_ev rfl (ev_as (v := .msl _ _ _ _) jz) ?_
  refine wz 0 ?_
  refine sq_ev rfl (ev_mv (v := .msl _ _ _ _) jz) ?_
  refine wz 2 ?_
  refine sq_ev rfl (ev_index_msl sl28.h jz jz rfl (by simpa using hm)) ?_
  refine Go.Ab.sq_storeRow (A := [AObj.dead]) (X := []) (R := f) (rs := (List.replicate ((cap - (f.map fun x => [I x]).length) * 1) AV.any)) (k := 0) (v := x) (a := I x) (n := m) (f := fun x => [I x]) (sz := 1) (bb := false) ?_ ?_ (fun _ => rfl) (by simp) ?_ ?_ ?_ ?_ ?_ ?_
  ·rfl
  ·rfl
  ·exact hm
  ·exact jz
  ·exact jz
  ·rfl
  ·exact ty3.h
  refine wz 0 ?_
  refine sq_ev rfl (ev_mv (v := .msl _ _ _ _) jz) ?_
  refine sq_sub (sub_freezeK [] 14 (j := 0) (sz := 1) (es := (f.set m x).map fun x => [I x]) (rest := (List.replicate ((cap - (f.map fun x => [I x]).length) * 1) AV.any)) rfl rfl (by simp) (fun r hr => by obtain ⟨t, _, rfl⟩ := List.mem_map.1 hr; rfl)) ?_
  refine sq_ev rfl (ev_as (v := .sl _ _) jz) ?_
  refine wz 0 ?_
  exact retQ_pure (v := .sl _ _) rfl rfl jz
end Go.Proofs.YtjpokekbjmdgmaaGreatDoor
namespace Go.Proofs.YtjpokekbjmdgmaaGreatDoor
open Go Go.Ab Ni Hd
def frm (now : List Int) : Nat := if h : 0 < now.length then (now[now.length - 1]).toNat + 1 else 0
end Go.Proofs.YtjpokekbjmdgmaaGreatDoor
namespace Go.Proofs.YtjpokekbjmdgmaaGreatDoor
open Go Go.Ab Ni Hd
theorem ms_b {r : Rg} {mm : Int} (hs : shB r = true) {b : Bool} (h : msIn r mm = b) : APure Tryz.prog 48 [rgA r, I mm] (B b) := by have q := rmeas_pure r mm (shB_len hs).1; rw [h] at q; exact q
end Go.Proofs.YtjpokekbjmdgmaaGreatDoor
namespace Go.Proofs.YtjpokekbjmdgmaaGreatDoor
open Go Go.Ab Ni Hd
theorem rfindL_pure (r : Rg) (f : List Int) (hl : (f.length : Int) ≤ 9223372036854775807) : APure Tryz.prog 24 [rgA r, ints f] (B (fdOK r f)) := by
  refine ap Tryz.func24 (fun e0 he0 => ?_)
  refine wz 3 ?_
  refine aw_loopk (ι := { k : Nat // k ≤ f.length ∧ ∀ i, (hi : i < f.length) → i < k → inn f[i] (-1) 1000 = true }) [1, 2] (fun i => [(5, I i.1)]) (fun H i => H) (fun i => f.length - i.1) (⟨0, Nat.zero_le _, by omega⟩) ⟨jz, jz, jz, trivial⟩ rfl ?_
  rintro ⟨k, hk, hok⟩
  refine nz ?_
  refine wz 4 ?_
  refine iz (fun c_9 c_9' => ?_) (fun c_9 c_9' => ?_)
  ·have hkl : k < f.length := by omega
   refine wz 4 ?_
   refine kz az (rin_pure _ _ _) ?_
   refine wz 1 ?_
   refine iz (fun c_17 c_17' => ?_) (fun c_17 c_17' => ?_)
   ·refine wz 1 ?_
    exact rz rfl (Less.eq (by rw [fd_bad hkl (by simpa using c_17)]))
   refine wz 3 ?_
   exact ⟨⟨k + 1, by omega, fun i hi h => (by by_cases e : i = k; (subst e; simpa using c_17); exact hok i hi (by omega))⟩, by simp only; omega, Sub.slots ⟨jz, jz, jz, trivial⟩⟩
  obtain rfl : k = f.length := by omega
  have hall : (f.all fun n => inn n (-1) 1000) = true := all_of fun j hj => hok j hj hj
  refine wz 7 ?_
  exact rz rfl (Less.eq (congrArg B (by unfold fdOK; rw [hall, Bool.and_true, Bool.eq_iff_iff]; simp; omega)))
theorem find_any (r : Rg) {f : List Int} (hl : (f.length : Int) ≤ 9223372036854775807) {b : Bool} (h : fdOK r f = b) : APure Tryz.prog 24 [rgA r, ints f] (B b) := by have q := rfindL_pure r f hl; rw [h] at q; exact q
theorem slim_of {r : Rg} {f : List Int} (hr : rgOK r = true) (hd : fdOK r f = true) : f.length ≤ 1000000 := by have h1 := (rgOK_B hr).nk; have h2 := (fdOK_iff.1 hd).1; omega
end Go.Proofs.YtjpokekbjmdgmaaGreatDoor
namespace Go.Proofs.YtjpokekbjmdgmaaGreatDoor
open Go Go.Ab Ni Hd
theorem who_at {r : Rg} {f : List Int} {k : Nat} (hk : k < (whoOf r f).length) : (whoOf r f)[k] = wordOf r f k := by simp [whoOf]
end Go.Proofs.YtjpokekbjmdgmaaGreatDoor
namespace Go.Proofs.YtjpokekbjmdgmaaGreatDoor
open Go Go.Ab Ni Hd
instance en54 : EnT Tryz.prog 54 := ⟨Ent.of Tryz.func54 (by kernel_rfl) rfl⟩
theorem who_may1 {r : Rg} {f : List Int} {k : Nat} : wordOf r f k ≠ 1 ↔ may r k f = true := by
  unfold wordOf; cases may r k f
  · simp
  · simp only [if_pos, iff_true]; split <;> omega
theorem slimB_of {r : Rg} {f : List Int} (hr : rgOK r = true) (hd : fdOK r f = true) : slimB f = true := by have h1 := (rgOK_B hr).nk; have h2 := (fdOK_iff.1 hd).1; exact decide_eq_true (by omega)
theorem many_0 {r : Rg} {f : List Int} (hs : shB r = true) (hr : rgOK r = true) (hd : fdOK r f = true) (hn : (mays r f).length = 0) : APure Tryz.prog 54 [rgA r, ints f] (I 0) := by
  refine ap Tryz.func54 (fun e0 he0 => ?_)
  refine wz 4 ?_
  refine kz az (whob_n hs (slimB_of hr hd) (okWho_of hr hd) hn) ?_
  refine wz 9 ?_
  exact rz rfl jz
theorem many_p {r : Rg} {f : List Int} (hs : shB r = true) (hr : rgOK r = true) (hd : fdOK r f = true) (hn : 0 < (mays r f).length) : APure Tryz.prog 54 [rgA r, ints f] (I (mays r f).length) := by
  refine ap Tryz.func54 (fun e0 he0 => ?_)
  refine aw_seq ?_
  have hwl := whoOf_len r f
  have hnh := (rgOK_B hr).nh
  refine wz 4 ?_
  refine kz az (whob_t hs (slimB_of hr hd) (okWho_of hr hd) hn) ?_
  refine wz 18 ?_
  refine iz (fun c_26 c_26' => ?_) (fun c_26 c_26' => ?_)
  ·exfalso
   omega
  refine wz 2 ?_
  refine aw_loopk (ι := { k : Nat // k ≤ r.hides.length }) [5] (fun i => [(7, I (mayC r f i.1 : Nat)), (8, I i.1)]) (fun H i => H) (fun i => r.hides.length - i.1) (⟨0, Nat.zero_le _⟩) ⟨jz, jz, jz, trivial⟩ rfl ?_
  rintro ⟨k, hk⟩
  refine nz ?_
  have hcl := mayC_le r f k
  refine wz 4 ?_
  refine iz (fun c_30 c_30' => ?_) (fun c_30 c_30' => ?_)
  ·have hkw : k < (whoOf r f).length := by omega
   have hwk := who_at hkw
   refine wz 5 ?_
   refine iz (fun c_37 c_37' => ?_) (fun c_37 c_37' => ?_)
   ·have eC : mayC r f (k + 1) = mayC r f k + 1 := by rw [mayC_succ, if_pos (who_may1.1 (by rw [← hwk]; simpa using c_37))]
    refine wz 6 ?_
    exact ⟨⟨k + 1, by omega⟩, by simp only; omega, Sub.slots ⟨Less.eq (by rw [eC] <;> rfl), jz, jz, trivial⟩⟩
   have eC : mayC r f (k + 1) = mayC r f k := by rw [mayC_succ, if_neg (fun q => who_may1.2 q (by rw [← hwk]; simpa using c_37)), Nat.add_zero]
   refine wz 3 ?_
   exact ⟨⟨k + 1, by omega⟩, by simp only; omega, Sub.slots ⟨Less.eq (by rw [eC] <;> rfl), jz, jz, trivial⟩⟩
  obtain rfl : k = r.hides.length := by omega
  refine wz 2 ?_
  exact rz rfl (Less.eq rfl)
theorem many_any {r : Rg} {f : List Int} (hs : shB r = true) (hr : rgOK r = true) (hd : fdOK r f = true) : APure Tryz.prog 54 [rgA r, ints f] (I (mays r f).length) := by
  rcases Nat.eq_zero_or_pos (mays r f).length with hn | hn
  · have q := many_0 hs hr hd hn; rw [hn]; exact q
  · exact many_p hs hr hd hn
theorem many_00 {r : Rg} {f : List Int} (hs : shB r = true) (hr : rgOK r = true) (hd : fdOK r f = true) (hn : (mays r f).length = 0) : APure Tryz.prog 54 [rgA r, ints f] (I 0) := many_0 hs hr hd hn
theorem many_at {r : Rg} {f : List Int} (hs : shB r = true) (hr : rgOK r = true) (hd : fdOK r f = true) {m : Nat} (hm : m < r.kinds.length) (hn : f.getD m 0 < 0) {x : Int} (hx : 0 ≤ x ∧ x ≤ 1000) : APure Tryz.prog 54 [rgA r, ints (f.set m x)] (I (manyX r f m x : Nat)) := by
  have q := many_any hs hr (fd_set (m := m) hd (x := x) (by omega))
  have e : (mays r (f.set m x)).length = manyX r f m x := many_set (rgOK_B hr) hm (fdOK_iff.1 hd).1 hn hx.1
  rw [e] at q; exact q
def allT (f : List Int) (k : Nat) : Bool := (f.take k).all fun x => decide (0 ≤ x)
theorem allT_succ {f : List Int} {k : Nat} (hk : k < f.length) : allT f (k + 1) = (allT f k && decide (0 ≤ f[k])) := by
  unfold allT; rw [List.take_succ_eq_append_getElem hk, List.all_append]; simp
theorem offers_nil {r : Rg} {f : List Int} (hf : f.length = r.kinds.length) (h : offers r f r.kinds.length = []) : allT f f.length = true := by
  unfold allT; rw [List.take_length, List.all_eq_true]
  intro x hx
  obtain ⟨i, hi, rfl⟩ := List.getElem_of_mem hx
  rw [decide_eq_true_eq]
  refine Int.not_lt.1 fun q => ?_
  have : ((i : Int), worst r f i) ∈ offers r f r.kinds.length := mem_offers.2 ⟨i, by omega, by rw [getD_at hi]; exact q, rfl⟩
  rw [h] at this; cases this
theorem wstK_le {r : Rg} {f : List Int} {m i : Nat} (hi : i ≤ 1001) : wstK r f m i ≤ worst r f m := by
  have h0 : 0 ≤ worst r f m := by unfold worst; exact (fmax_spec _ 0).1
  induction i with
  | zero => unfold wstK; simpa using h0
  | succ i ih => rw [wstK_succ]; have := worst_ge (r := r) (f := f) (m := m) (x := i) (by omega); have := ih (by omega); omega
theorem wst_end {r : Rg} {f : List Int} {m q : Nat} (hq : q ≤ 1001) (h : ¬ (q : Int) ≤ 1000) : wstK r f m q = worst r f m := by
  obtain rfl : q = 1001 := by omega
  rfl
theorem law11_0 {r : Rg} {f : List Int} {x o : Int}  (hs : shB r = false) (hl : (f.length : Int) ≤ 9223372036854775807) : APure Tryz.prog 11 [rgA r, ints f, I x, I o] (B true) := by
  refine ap Tryz.func11 (fun e0 he0 => ?_)
  refine wz 3 ?_
  refine kz az (short_f hs) ?_
  refine wz 27 ?_
  refine kz az (known_pure) ?_
  refine wz 1 ?_
  exact rz rfl jz
theorem law11_1 {r : Rg} {f : List Int} {x o : Int} (hs : shB r = true) (hr : rgOK r = false) (hl : (f.length : Int) ≤ 9223372036854775807) : APure Tryz.prog 11 [rgA r, ints f, I x, I o] (B true) := by
  refine ap Tryz.func11 (fun e0 he0 => ?_)
  refine wz 3 ?_
  refine kz az (short_t hs) ?_
  refine wz 3 ?_
  refine ky az (reg_f hs hr) ?_
  refine wz 23 ?_
  refine kz az (known_pure) ?_
  refine wz 1 ?_
  exact rz rfl jz
theorem law11_2 {r : Rg} {f : List Int} {x o : Int} (hs : shB r = true) (hr : rgOK r = true) (hd : fdOK r f = false) (hl : (f.length : Int) ≤ 9223372036854775807) : APure Tryz.prog 11 [rgA r, ints f, I x, I o] (B true) := by
  refine ap Tryz.func11 (fun e0 he0 => ?_)
  refine wz 3 ?_
  refine kz az (short_t hs) ?_
  refine wz 3 ?_
  refine ky az (reg_t hs hr) ?_
  refine wz 5 ?_
  refine ky az (find_any r hl hd) ?_
  refine wz 17 ?_
  refine kz az (known_pure) ?_
  refine wz 1 ?_
  exact rz rfl jz
theorem law11_3 {r : Rg} {f : List Int} {x o : Int} (hs : shB r = true) (hr : rgOK r = true) (hd : fdOK r f = true) (hx : ¬ (0 ≤ x ∧ x ≤ 1000)) (hl : (f.length : Int) ≤ 9223372036854775807) : APure Tryz.prog 11 [rgA r, ints f, I x, I o] (B true) := by
  refine ap Tryz.func11 (fun e0 he0 => ?_)
  refine wz 3 ?_
  refine kz az (short_t hs) ?_
  refine wz 3 ?_
  refine ky az (reg_t hs hr) ?_
  refine wz 5 ?_
  refine ky az (find_any r hl hd) ?_
  refine wz 7 ?_
  refine sz 37 (fun g1_18 g1_18' => ?_) (fun g1_18 g1_18' => ?_)
  ·refine wz 10 ?_
   refine kz az (known_pure) ?_
   refine wz 1 ?_
   exact rz rfl jz
  refine wz 4 ?_
  refine sz 41 (fun g1_22 g1_22' => ?_) (fun g1_22 g1_22' => ?_)
  ·refine wz 6 ?_
   refine kz az (known_pure) ?_
   refine wz 1 ?_
   exact rz rfl jz
  exfalso
  omega
theorem law11_4 {r : Rg} {f : List Int} {x o : Int} (hs : shB r = true) (hr : rgOK r = true) (hd : fdOK r f = true) (hx : 0 ≤ x ∧ x ≤ 1000) (hi : msIn r o = false) (hl : (f.length : Int) ≤ 9223372036854775807) : APure Tryz.prog 11 [rgA r, ints f, I x, I o] (B true) := by
  refine ap Tryz.func11 (fun e0 he0 => ?_)
  refine wz 3 ?_
  refine kz az (short_t hs) ?_
  refine wz 3 ?_
  refine ky az (reg_t hs hr) ?_
  refine wz 5 ?_
  refine ky az (find_any r hl hd) ?_
  refine wz 7 ?_
  refine sz 37 (fun g1_18 g1_18' => ?_) (fun g1_18 g1_18' => ?_)
  ·exfalso
   omega
  refine wz 4 ?_
  refine sz 41 (fun g1_22 g1_22' => ?_) (fun g1_22 g1_22' => ?_)
  ·exfalso
   omega
  refine wz 2 ?_
  refine ky az (ms_b hs hi) ?_
  refine wz 3 ?_
  refine kz az (known_pure) ?_
  refine wz 1 ?_
  exact rz rfl jz
theorem law11_a {r : Rg} {f : List Int} {x : Int} {o : Nat} (hs : shB r = true) (hr : rgOK r = true) (hd : fdOK r f = true) (hx : 0 ≤ x ∧ x ≤ 1000) (hi : msIn r (o : Int) = true) (hok : o < r.kinds.length) (hn : (mays r f).length = 0) (hl : (f.length : Int) ≤ 9223372036854775807) : APure Tryz.prog 11 [rgA r, ints f, I x, I o] (B true) := by
  refine ap Tryz.func11 (fun e0 he0 => ?_)
  refine aw_seq ?_
  have gB := rgOK_B hr
  have hfk := (fdOK_iff.1 hd).1
  have hnk := gB.nk
  refine wz 3 ?_
  refine kz az (short_t hs) ?_
  refine wz 3 ?_
  refine ky az (reg_t hs hr) ?_
  refine wz 5 ?_
  refine ky az (find_any r hl hd) ?_
  refine wz 7 ?_
  refine sz 37 (fun g1_18 g1_18' => ?_) (fun g1_18 g1_18' => ?_)
  ·exfalso
   omega
  refine wz 4 ?_
  refine sz 41 (fun g1_22 g1_22' => ?_) (fun g1_22 g1_22' => ?_)
  ·exfalso
   omega
  refine wz 2 ?_
  refine ky az (ms_b hs hi) ?_
  refine wz 5 ?_
  refine kz az (next_no (shB_len hs).1 (shB_len hs).2.1 (shB_len hs).2.2 (slim_of hr hd) (okWho_of hr hd) hn) ?_
  refine wz 9 ?_
  refine kz az (many_00 hs hr hd hn) ?_
  refine wz 3 ?_
  refine aw_loopk (ι := { k : Nat // k ≤ f.length }) [1, 2, 3, 4, 9, 10, 11, 12] (fun i => [(13, B (allT f i.1)), (14, I i.1)]) (fun H i => H) (fun i => f.length - i.1) (⟨0, Nat.zero_le _⟩) ⟨jz, jz, jz, jz, jz, jz, jz, jz, jz, jz, trivial⟩ rfl ?_
  rintro ⟨k, hk⟩
  refine nz ?_
  refine wz 4 ?_
  refine iz (fun c_61 c_61' => ?_) (fun c_61 c_61' => ?_)
  ·have hkl : k < f.length := by omega
   have hat := allT_succ hkl
   refine wz 2 ?_
   refine sz 65 (fun g9_1 g9_1' => ?_) (fun g9_1 g9_1' => ?_)
   ·have eA : decide (f[k] ≥ 0) = allT f (k + 1) := by rw [hat, g9_1, Bool.true_and]
    refine wz 10 ?_
    exact ⟨⟨k + 1, by omega⟩, by simp only; omega, Sub.slots ⟨(by exact less_b eA), jz, jz, jz, jz, jz, jz, jz, jz, jz, trivial⟩⟩
   have eA : false = allT f (k + 1) := by rw [hat, g9_1, Bool.false_and]
   refine wz 10 ?_
   exact ⟨⟨k + 1, by omega⟩, by simp only; omega, Sub.slots ⟨(by exact less_b eA), jz, jz, jz, jz, jz, jz, jz, jz, jz, trivial⟩⟩
  obtain rfl : k = f.length := by omega
  refine wz 21 ?_
  refine ky az (known_pure) ?_
  refine wz 2 ?_
  exact rz rfl jz
theorem law11_b {r : Rg} {f : List Int} {x : Int} {o : Nat} (hs : shB r = true) (hr : rgOK r = true) (hd : fdOK r f = true) (hx : 0 ≤ x ∧ x ≤ 1000) (hi : msIn r (o : Int) = true) (hok : o < r.kinds.length) (hn : 0 < (mays r f).length) (h0 : offers r f r.kinds.length = []) (hl : (f.length : Int) ≤ 9223372036854775807) : APure Tryz.prog 11 [rgA r, ints f, I x, I o] (B true) := by
  refine ap Tryz.func11 (fun e0 he0 => ?_)
  refine aw_seq ?_
  have gB := rgOK_B hr
  have hfk := (fdOK_iff.1 hd).1
  have hnk := gB.nk
  refine wz 3 ?_
  refine kz az (short_t hs) ?_
  refine wz 3 ?_
  refine ky az (reg_t hs hr) ?_
  refine wz 5 ?_
  refine ky az (find_any r hl hd) ?_
  refine wz 7 ?_
  refine sz 37 (fun g1_18 g1_18' => ?_) (fun g1_18 g1_18' => ?_)
  ·exfalso
   omega
  refine wz 4 ?_
  refine sz 41 (fun g1_22 g1_22' => ?_) (fun g1_22 g1_22' => ?_)
  ·exfalso
   omega
  refine wz 2 ?_
  refine ky az (ms_b hs hi) ?_
  refine wz 5 ?_
  refine kz az (next_none (shB_len hs).1 (shB_len hs).2.1 (shB_len hs).2.2 (slim_of hr hd) (okWho_of hr hd) hn h0) ?_
  refine wz 9 ?_
  refine kz az (many_any hs hr hd) ?_
  refine wz 3 ?_
  refine aw_loopk (ι := { k : Nat // k ≤ f.length }) [1, 2, 3, 4, 9, 10, 11, 12] (fun i => [(13, B (allT f i.1)), (14, I i.1)]) (fun H i => H) (fun i => f.length - i.1) (⟨0, Nat.zero_le _⟩) ⟨jz, jz, jz, jz, jz, jz, jz, jz, jz, jz, trivial⟩ rfl ?_
  rintro ⟨k, hk⟩
  refine nz ?_
  refine wz 4 ?_
  refine iz (fun c_61 c_61' => ?_) (fun c_61 c_61' => ?_)
  ·have hkl : k < f.length := by omega
   have hat := allT_succ hkl
   refine wz 2 ?_
   refine sz 65 (fun g9_1 g9_1' => ?_) (fun g9_1 g9_1' => ?_)
   ·have eA : decide (f[k] ≥ 0) = allT f (k + 1) := by rw [hat, g9_1, Bool.true_and]
    refine wz 10 ?_
    exact ⟨⟨k + 1, by omega⟩, by simp only; omega, Sub.slots ⟨(by exact less_b eA), jz, jz, jz, jz, jz, jz, jz, jz, jz, trivial⟩⟩
   have eA : false = allT f (k + 1) := by rw [hat, g9_1, Bool.false_and]
   refine wz 10 ?_
   exact ⟨⟨k + 1, by omega⟩, by simp only; omega, Sub.slots ⟨(by exact less_b eA), jz, jz, jz, jz, jz, jz, jz, jz, jz, trivial⟩⟩
  obtain rfl : k = f.length := by omega
  refine wz 17 ?_
  refine sz 87 (fun g11_13 g11_13' => ?_) (fun g11_13 g11_13' => ?_)
  ·refine wz 4 ?_
   refine sz 91 (fun g11_17 g11_17' => ?_) (fun g11_17 g11_17' => ?_)
   ·refine ky az (known_pure) ?_
    refine wz 2 ?_
    exact rz rfl jz
   exfalso
   rw [offers_nil hfk h0] at *
   simp at *
  exfalso
  omega
theorem law11_c {r : Rg} {f : List Int} {x : Int} {o : Nat} (hs : shB r = true) (hr : rgOK r = true) (hd : fdOK r f = true) (hx : 0 ≤ x ∧ x ≤ 1000) (hi : msIn r (o : Int) = true) (hok : o < r.kinds.length) {m : Nat} (hn : 0 < (mays r f).length) (h52 : APure Tryz.prog 52 [rgA r, ints f] (.tup [I m, I (worst r f m), I 0])) (hm : m < r.kinds.length) (hmn : f.getD m 0 < 0) (hbst : f.getD o 0 < 0 → worst r f m < worst r f o ∨ (worst r f m = worst r f o ∧ m ≤ o)) (hl : (f.length : Int) ≤ 9223372036854775807) : APure Tryz.prog 11 [rgA r, ints f, I x, I o] (B true) := by
  refine ap Tryz.func11 (fun e0 he0 => ?_)
  refine aw_seq ?_
  have gB := rgOK_B hr
  have hfk := (fdOK_iff.1 hd).1
  have hnk := gB.nk
  have hgm : f.getD m 0 = f[m] := getD_at (by omega)
  have hgo : f.getD o 0 = f[o] := getD_at (by omega)
  have hwb := Hd.worst_bd gB hm hfk hmn hn
  have hmo : manyOf r f = (mays r f).length := rfl
  have hge := worst_ge (r := r) (f := f) (m := m) (x := x.toNat) (by omega)
  rw [show ((x.toNat : Nat) : Int) = x by omega] at hge
  have hom : (o : Int) = m → worst r f o = worst r f m := fun q => by rw [show o = m by omega]
  refine wz 3 ?_
  refine kz az (short_t hs) ?_
  refine wz 3 ?_
  refine ky az (reg_t hs hr) ?_
  refine wz 5 ?_
  refine ky az (find_any r hl hd) ?_
  refine wz 7 ?_
  refine sz 37 (fun g1_18 g1_18' => ?_) (fun g1_18 g1_18' => ?_)
  ·exfalso
   omega
  refine wz 4 ?_
  refine sz 41 (fun g1_22 g1_22' => ?_) (fun g1_22 g1_22' => ?_)
  ·exfalso
   omega
  refine wz 2 ?_
  refine ky az (ms_b hs hi) ?_
  refine wz 5 ?_
  refine kz az (h52) ?_
  refine wz 9 ?_
  refine kz az (many_any hs hr hd) ?_
  refine wz 3 ?_
  refine aw_loopk (ι := { k : Nat // k ≤ f.length }) [1, 2, 3, 4, 9, 10, 11, 12] (fun i => [(13, B (allT f i.1)), (14, I i.1)]) (fun H i => H) (fun i => f.length - i.1) (⟨0, Nat.zero_le _⟩) ⟨jz, jz, jz, jz, jz, jz, jz, jz, jz, jz, trivial⟩ rfl ?_
  rintro ⟨k, hk⟩
  refine nz ?_
  refine wz 4 ?_
  refine iz (fun c_61 c_61' => ?_) (fun c_61 c_61' => ?_)
  ·have hkl : k < f.length := by omega
   have hat := allT_succ hkl
   refine wz 2 ?_
   refine sz 65 (fun g9_1 g9_1' => ?_) (fun g9_1 g9_1' => ?_)
   ·have eA : decide (f[k] ≥ 0) = allT f (k + 1) := by rw [hat, g9_1, Bool.true_and]
    refine wz 10 ?_
    exact ⟨⟨k + 1, by omega⟩, by simp only; omega, Sub.slots ⟨(by exact less_b eA), jz, jz, jz, jz, jz, jz, jz, jz, jz, trivial⟩⟩
   have eA : false = allT f (k + 1) := by rw [hat, g9_1, Bool.false_and]
   refine wz 10 ?_
   exact ⟨⟨k + 1, by omega⟩, by simp only; omega, Sub.slots ⟨(by exact less_b eA), jz, jz, jz, jz, jz, jz, jz, jz, jz, trivial⟩⟩
  obtain rfl : k = f.length := by omega
  refine wz 5 ?_
  refine kz az (ms_b hs (msIn_iff.2 (show 0 ≤ (m : Int) ∧ (m : Int) < r.kinds.length by omega))) ?_
  refine wz 9 ?_
  refine sz 105 (fun g12_11 g12_11' => ?_) (fun g12_11 g12_11' => ?_)
  ·exfalso
   omega
  refine wz 4 ?_
  refine sz 109 (fun g12_15 g12_15' => ?_) (fun g12_15 g12_15' => ?_)
  ·exfalso
   omega
  refine wz 4 ?_
  refine iz (fun c_113 c_113' => ?_) (fun c_113 c_113' => ?_)
  ·exfalso
   omega
  refine wz 0 ?_
  refine aw_draw 7 mo (by kernel_rfl) ?_
  refine dz 4 ?_
  refine dkz az (rtaken_pure f m x (by omega) (slim_of hr hd)) ?_
  refine dkz az (many_at hs hr hd hm hmn hx) ?_
  refine dz 1 ?_
  refine wz 3 ?_
  refine sz 122 (fun g15_2 g15_2' => ?_) (fun g15_2 g15_2' => ?_)
  ·exfalso
   omega
  refine wz 4 ?_
  refine iz (fun c_126 c_126' => ?_) (fun c_126 c_126' => ?_)
  ·exfalso
   omega
  refine wz 5 ?_
  refine iz (fun c_131 c_131' => ?_) (fun c_131 c_131' => ?_)
  ·refine wz 0 ?_
   refine kz az (known_pure) ?_
   refine wz 1 ?_
   exact rz rfl jz
  have hon : f.getD o 0 < 0 := by omega
  have hbs := hbst hon
  refine wz 2 ?_
  refine aw_loopk (ι := { q : Nat // q ≤ 1001 }) [1, 3, 4, 9, 10] (fun u => [(16, I (wstK r f o u.1)), (17, I u.1)]) (fun H u => H) (fun u => 1001 - u.1) (⟨0, by omega⟩) ⟨jz, jz, jz, jz, jz, jz, jz, trivial⟩ rfl ?_
  rintro ⟨q, hq⟩
  refine nz ?_
  have hwk := wstK_le (r := r) (f := f) (m := o) hq
  have hwn := wstK_bd gB f o q
  refine wz 3 ?_
  refine sz 135 (fun g21_2 g21_2' => ?_) (fun g21_2 g21_2' => ?_)
  ·refine wz 4 ?_
   refine iz (fun c_139 c_139' => ?_) (fun c_139 c_139' => ?_)
   ·refine wz 0 ?_
    refine aw_draw 7 mo (by kernel_rfl) ?_
    refine dz 4 ?_
    refine dkz az (rtaken_pure f o q (by omega) (slim_of hr hd)) ?_
    refine dkz az (many_at hs hr hd hok hon (by omega)) ?_
    refine dz 1 ?_
    refine wz 2 ?_
    refine iz (fun c_149 c_149' => ?_) (fun c_149 c_149' => ?_)
    ·exfalso
     omega
    refine wz 7 ?_
    exact ⟨⟨q + 1, by omega⟩, by simp only; omega, Sub.slots ⟨Less.eq (by rw [wstK_succ] <;> rfl), jz, jz, jz, jz, jz, jz, trivial⟩⟩
   refine wz 4 ?_
   refine sz 156 (fun g27_3 g27_3' => ?_) (fun g27_3 g27_3' => ?_)
   ·refine wz 4 ?_
    refine sz 160 (fun g27_7 g27_7' => ?_) (fun g27_7 g27_7' => ?_)
    ·refine wz 10 ?_
     refine sz 170 (fun g27_17 g27_17' => ?_) (fun g27_17 g27_17' => ?_)
     ·refine wz 6 ?_
      refine ky az (known_pure) ?_
      refine wz 2 ?_
      exact rz rfl jz
     refine wz 6 ?_
     refine sz 176 (fun g27_23 g27_23' => ?_) (fun g27_23 g27_23' => ?_)
     ·refine ky az (known_pure) ?_
      refine wz 2 ?_
      exact rz rfl jz
     exfalso
     omega
    refine wz 6 ?_
    refine sz 166 (fun g27_13 g27_13' => ?_) (fun g27_13 g27_13' => ?_)
    ·refine wz 4 ?_
     refine sz 170 (fun g27_17 g27_17' => ?_) (fun g27_17 g27_17' => ?_)
     ·refine wz 6 ?_
      refine ky az (known_pure) ?_
      refine wz 2 ?_
      exact rz rfl jz
     refine wz 6 ?_
     refine sz 176 (fun g27_23 g27_23' => ?_) (fun g27_23 g27_23' => ?_)
     ·refine ky az (known_pure) ?_
      refine wz 2 ?_
      exact rz rfl jz
     exfalso
     omega
    exfalso
    omega
   exfalso
   omega
  have hqe := wst_end (r := r) (f := f) (m := o) hq (by omega)
  refine wz 9 ?_
  refine sz 156 (fun g27_3 g27_3' => ?_) (fun g27_3 g27_3' => ?_)
  ·refine wz 4 ?_
   refine sz 160 (fun g27_7 g27_7' => ?_) (fun g27_7 g27_7' => ?_)
   ·refine wz 10 ?_
    refine sz 170 (fun g27_17 g27_17' => ?_) (fun g27_17 g27_17' => ?_)
    ·refine wz 6 ?_
     refine ky az (known_pure) ?_
     refine wz 2 ?_
     exact rz rfl jz
    refine wz 6 ?_
    refine sz 176 (fun g27_23 g27_23' => ?_) (fun g27_23 g27_23' => ?_)
    ·refine ky az (known_pure) ?_
     refine wz 2 ?_
     exact rz rfl jz
    exfalso
    omega
   refine wz 6 ?_
   refine sz 166 (fun g27_13 g27_13' => ?_) (fun g27_13 g27_13' => ?_)
   ·refine wz 4 ?_
    refine sz 170 (fun g27_17 g27_17' => ?_) (fun g27_17 g27_17' => ?_)
    ·refine wz 6 ?_
     refine ky az (known_pure) ?_
     refine wz 2 ?_
     exact rz rfl jz
    refine wz 6 ?_
    refine sz 176 (fun g27_23 g27_23' => ?_) (fun g27_23 g27_23' => ?_)
    ·refine ky az (known_pure) ?_
     refine wz 2 ?_
     exact rz rfl jz
    exfalso
    omega
   exfalso
   omega
  exfalso
  omega
/-- **HideLooks.** -/
theorem law11 (r : Rg) (f : List Int) (hl : (f.length : Int) ≤ 9223372036854775807) (x : Int) (_ : -9223372036854775808 ≤ x) (_ : x ≤ 9223372036854775807) (o : Int) (_ : -9223372036854775808 ≤ o) (_ : o ≤ 9223372036854775807) : APure Tryz.prog 11 [rgA r, ints f, I x, I o] (B true) := by
  cases hs : shB r with
  | false => exact law11_0 hs hl
  | true =>
    cases hr : rgOK r with
    | false => exact law11_1 hs hr hl
    | true =>
      cases hd : fdOK r f with
      | false => exact law11_2 hs hr hd hl
      | true =>
        by_cases hx : 0 ≤ x ∧ x ≤ 1000
        · cases hi : msIn r o with
          | false => exact law11_4 hs hr hd hx hi hl
          | true =>
            have hio := msIn_iff.1 hi
            obtain ⟨o, rfl⟩ : ∃ k : Nat, o = (k : Int) := ⟨o.toNat, by omega⟩
            rcases Nat.eq_zero_or_pos (mays r f).length with hn | hn
            · exact law11_a hs hr hd hx hi (by omega) hn hl
            · rcases Nat.eq_zero_or_pos (offers r f r.kinds.length).length with h0 | h0
              · exact law11_b hs hr hd hx hi (by omega) hn (List.length_eq_zero_iff.1 h0) hl
              · obtain ⟨m, hm, hmn, e, hb⟩ := next_spec (List.length_pos_iff.1 h0)
                have h52 := next_ok (shB_len hs).1 (shB_len hs).2.1 (shB_len hs).2.2 (slim_of hr hd) (okWho_of hr hd) hn h0
                rw [e] at h52
                exact law11_c hs hr hd hx hi (by omega) hn h52 hm hmn (fun q => hb o (by omega) q) hl
        · exact law11_3 hs hr hd hx hl
end Go.Proofs.YtjpokekbjmdgmaaGreatDoor
