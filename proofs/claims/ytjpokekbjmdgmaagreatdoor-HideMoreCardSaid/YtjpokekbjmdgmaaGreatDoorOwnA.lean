/-
  A part of the proof: conditions: none beyond each theorem's own.
-/
import Derived.Test.YtjpokekbjmdgmaaGreatDoorLogicA
import Derived.Test.YtjpokekbjmdgmaaGreatDoorLogicD
import Derived.Deep.Slices
import Derived.OpenShut
import Derived.Carry
import Derived.Test.YtjpokekbjmdgmaaGreatDoorLogicC
import Derived.IntWalk
import Derived.Test.YtjpokekbjmdgmaaGreatDoorSpecA
import Derived.Test.YtjpokekbjmdgmaaGreatDoorProg
import Derived.KernelRfl
import Derived.Lib.LaidTab
import Derived.Lib.ItoaNum
import Derived.Test.YtjpokekbjmdgmaaGreatDoorWalkC
import Derived.Test.YtjpokekbjmdgmaaGreatDoorWalkE
import Derived.Test.YtjpokekbjmdgmaaGreatDoorLogicB
import Derived.Test.YtjpokekbjmdgmaaGreatDoorShelf
import Derived.Test.YtjpokekbjmdgmaaGreatDoorWalkA
import Derived.Test.YtjpokekbjmdgmaaGreatDoorWalkB
import Derived.Test.YtjpokekbjmdgmaaGreatDoorWalkD
import Derived.Test.YtjpokekbjmdgmaaGreatDoorRow
set_option linter.all false
set_option maxRecDepth 100000
set_option maxHeartbeats 8000000
namespace Go.Ab
variable [Tabs]
theorem FW_room (r : Option Nat) (n : Nat) : (FW r).room n := fun _ h => by simp [FW] at h
variable {c : Ctx} {Q : AExit → St → Prop} {s : St}
end Go.Ab
namespace Go.Ab
open Go.ChangeShapes Go.WideShapes
variable [Tabs]
theorem env0_ok {w : World} (h : Tabs.is w) (hb : ∀ b, Tabs.blk b → b < w.heap.size) : EnvOK (env0 w) :=
  ⟨fun b hb => by have hb' : w.heap.size ≤ b := hb
                  have : w.heap[b]? = none := by simpa using hb'
                  simp [env0, this], fun i o h => by simp [env0] at h, fun i j b hi => by simp [env0] at hi, fun i b hi => by simp [env0] at hi, h, fun b hk => ⟨hb b hk, fun i hi => by simp [env0] at hi⟩⟩
section
variable {H : Type} {enc : TypeId × Value → H} {P : Program} {w : World} {base : Nat} {spare : Nat → Bool} {held : Bool}
theorem trodAll_stays (hl : laidOutB P = true) {W W' : World} (hheap : ∀ b, b < W.heap.size → W'.heap[b]? = W.heap[b]?) {sp' : Nat → Bool} :
    ∀ {ts : List TypeId} {vs : List Value} {ds : List (DataW H)} {ps : List MemPlace}, (∀ t ∈ ts, P.readableRec t = true ∧ t < P.types.size) → DataW.TrodAll enc P W base (fun _ => true) true ts vs ds ps → (∀ p ∈ ps, p.block < W.heap.size) → (∀ p ∈ ps, sp' p.block = true) →
      DataW.TrodAll enc P W' base sp' true ts vs ds ps
  | [], _, _, _, _, h, _, _ => by
    obtain ⟨rfl, rfl, rfl⟩ := trodAll_nil h
    exact trodAll_mk0
  | t :: ts, _, _, _, ht, h, hlt, hs => by
    obtain ⟨v, vs1, d, ds1, a, b, rfl, rfl, rfl, h1, h2⟩ := trodAll_cons h
    refine trodAll_cons_mk (WideElems.Trod_stays hl (ht t (by simp)).1 (ht t (by simp)).2 h1 (fun p hp => ?_) (fun p hp => hs p (by simp [hp]))) (trodAll_stays hl hheap (fun u hu => ht u (List.mem_cons_of_mem _ hu)) h2 (fun p hp => hlt p (by simp [hp])) (fun p hp => hs p (by simp [hp])))
    have hb := hheap p.block (hlt p (by simp [hp]))
    cases p with
    | cell b o => exact cell?_of_heap hb
    | map b => exact hb
/-- **What a law's row asks of a call that returns true and leaves what it met.** -/
theorem post_true {f : Func} {s : ChangeSpec} {W W' : World} {args : Array Value} {ds gs : List (DataW H)} {before : List MemPlace} {tb : TypeId} (hl : laidOutB P = true) (hread : ∀ t ∈ f.params.toList, P.readableRec t = true ∧ t < P.types.size)
    (hres : f.resultTypes = #[tb]) (htb : P.underlying tb = some .bool) (hvars : s.vars = []) (hspec : (s.fn H ds).results = [.lit (.bool true)] ∧ (s.fn H ds).args = ds ∧ (s.fn H ds).vars = [])
    (hW : DataW.Whole enc P f.params.toList s.vars false W args.toList ds gs before) (hheap : ∀ b, b < W.heap.size → W'.heap[b]? = W.heap[b]?) (hst : Still W W') :
    s.post enc P f false true false false W args (.bool true) W' := by
  have hlt := hW.lt
  have hW0 := hW
  obtain ⟨p, q, h1, h2, rfl, _, _⟩ := hW
  rw [hvars] at h2
  obtain ⟨rfl, rfl⟩ := trodVars_none h2
  simp only [List.append_nil] at hlt
  obtain ⟨e1, e2, e3⟩ := hspec
  refine ⟨ds, [], p ++ [], [], p, [], hW0, ?_, ?_, ?_, ?_, fun h => by cases h⟩
  · rw [List.append_nil, e1, hres]
    exact trodAll_cons_mk (RowKit.shut_bool htb _) trodAll_mk0
  · rw [List.append_nil, e2]
    exact trodAll_stays hl hheap hread h1 hlt (fun p hp => by simpa using hlt p hp)
  · rw [List.append_nil, e3, hvars]; rfl
  · refine ⟨hst.1, hst.2, fun i hi => ?_⟩
    rw [hheap i hi]
    split <;> simp_all
theorem APure.law {f : FuncId} {args : List AV} {W : World} {vs : Array Value} (hc : APure P f args (.raw (.bool true))) (ht : Tabs.is W) (hb : ∀ b, Tabs.blk b → b < W.heap.size) (hr : RepL (env0 W) args vs.toList) :
    Calls P f vs W fun x W' => x = .returned (.bool true) ∧ (∀ b, b < W.heap.size → W'.heap[b]? = W.heap[b]?) ∧ Still W W' := by
  refine ((hc (env0 W) vs (env0_ok ht hb) hr).calls (fun k => FW_room none k)).mono ?_
  rintro x w' ⟨u, e', rfl, rfl, hx, hu⟩
  rw [Rep] at hu; subst hu
  exact ⟨rfl, hx.heap, hx.still⟩
end
end Go.Ab
namespace Go.Ab
variable [Tabs]
section seq
variable {c : Ctx} {ops : Array Oper} {Q : AExit → St → Prop} {rest : List Oper} {s : St} {i : Nat}
variable {d : Option Tmp} {op : Op} {t : TypeId} {p : String} {af : Array Edge}
end seq
section cond
variable {c : Ctx} {Q : AExit → St → Prop} {s : St} {x : Operand} {y z : Code}
end cond
section split
variable {c : Ctx} {ops : Array Oper} {Q : AExit → St → Prop} {s : St} {i : Nat} {l : List Oper}
end split
section draw
variable {c : Ctx} {H0 : List AObj} {ops : Array Oper} {Q : AExit → St → Prop} {m i : Nat} {s : St} {rest : List Oper}
variable {d : Option Tmp} {op : Op} {t : TypeId} {p : String} {af : Array Edge}
end draw
section ex
variable {c : Ctx} {Q : AExit → St → Prop} {K : St → Prop} {s : St} {id j : Nat}
end ex
section app
variable {c : Ctx} {ops : Array Oper} {Q : AExit → St → Prop} {s : St} {i : Nat} {o : Oper} {l m : List Oper} {H0 : List AObj} {k : Nat}
end app
theorem W (n : Nat) {p q : Prop} (k : q) (h : Cnt n → (Unit → q) → p := by
  intro hc hk
  repeat (
    replace hc := Cnt.pred hc
    repeat (with_reducible (first | refine xn ?_ | refine sa ?_ | refine sa0 ?_ | refine aw_seq ?_ | refine aw_region ?_ | refine sq_nil ?_ | refine aw_skip ?_ | refine aw_block ?_ | refine bn ?_ | refine aw_exit ?_ | refine xe ?_ | refine be ?_ | refine bo ?_ | refine gn ?_ | refine ge ?_ | refine xr ?_ | refine br ?_ | refine gr ?_ | refine aw_label ?_ | refine aw_scope ?_))
    first
    | ((with_reducible apply sq_ev); exact rfl; exact EV)
    | ((with_reducible apply sn1); exact rfl; exact rfl; exact GD J; exact rfl)
    | ((with_reducible apply sn0); exact rfl; exact rfl; exact GD J; exact rfl)
    | ((with_reducible apply sq_yes); exact rfl; exact rfl; exact GD J; exact rfl; exact EV)
    | ((with_reducible apply su); exact rfl; exact rfl; exact J; exact rfl)
    | ((with_reducible apply sq_box); exact rfl; exact J; exact rfl)
    | ((with_reducible apply sq_alloc); exact rfl; exact ZeO.h)
    | ((with_reducible apply sq_store); exact rfl; exact J; exact J; exact rfl; exact rfl; exact TyF.h; exact rfl; exact rfl)
    | ((with_reducible refine aw_true ?_ ?_); exact GD J)
    | ((with_reducible refine aw_false ?_ ?_); exact GD J))
  repeat (with_reducible (first | refine xn ?_ | refine sa ?_ | refine sa0 ?_ | refine aw_seq ?_ | refine aw_region ?_ | refine sq_nil ?_ | refine aw_skip ?_ | refine aw_block ?_ | refine bn ?_ | refine aw_exit ?_ | refine xe ?_ | refine be ?_ | refine bo ?_ | refine gn ?_ | refine ge ?_ | refine xr ?_ | refine br ?_ | refine gr ?_ | refine aw_label ?_ | refine aw_scope ?_ | refine aw_ret ?_))
  exact hk ()) : p := h ⟨⟩ fun _ => k
end Go.Ab
namespace Go.Ab
variable [Tabs]
section flat
variable {α : Type} {f : α → List AV} {sz : Nat}
end flat
section seq
variable {c : Ctx} {ops : Array Oper} {Q : AExit → St → Prop} {rest : List Oper} {i : Nat}
variable {d : Option Tmp} {t : TypeId} {p : String} {af : Array Edge} {sl : List (Nat × AV)} {A X : List AObj} {df : List ADef} {α : Type} {f : α → List AV} {sz k : Nat} {R : List α} {rs : List AV}
theorem row_look (hk : k < A.length) : (A.set k (.cells ((R.map f).flatten ++ rs)) ++ X)[k]? = some (.cells ((R.map f).flatten ++ rs)) := by
  rw [List.getElem?_append_left (by simpa using hk), List.getElem?_set_self hk]
theorem sq_storeRow {st : TypeId} {x y : Operand} {a : AV} {bb : Bool} {n : Nat} {v : α} (hd : dOK c.nt d = true) (hdn : d = none) (hsz : ∀ a, (f a).length = sz) (hk : k < A.length) (hn : n < R.length)
    (hx : Less ((⟨sl, A.set k (.cells ((R.map f).flatten ++ rs)) ++ X, df⟩ : St).op x) (.ptr k (0 + n * sz))) (hy : Less ((⟨sl, A.set k (.cells ((R.map f).flatten ++ rs)) ++ X, df⟩ : St).op y) a) (hm : a.cells = some (f v)) (ht : tySz c.P st = some (bb, sz))
    (kk : SeqWP c ops Q (i + 1) rest ⟨sl, A.set k (.cells (((R.set n v).map f).flatten ++ rs)) ++ X, df⟩) : SeqWP c ops Q i (⟨d, .store st x y, t, p, af, none⟩ :: rest) ⟨sl, A.set k (.cells ((R.map f).flatten ++ rs)) ++ X, df⟩ := by
  subst hdn
  have hl := fl_len hsz R
  have hle : n * sz + sz ≤ R.length * sz := by rw [← Nat.succ_mul]; exact Nat.mul_le_mul_right _ hn
  refine sq_store (j := k) (off := 0 + n * sz) (n := sz) (l := (R.map f).flatten ++ rs) hd hx hy hm (row_look hk) ht (by rw [hsz]; exact Nat.beq_refl _) (by rw [List.length_append, hl]; exact Nat.ble_eq_true_of_le (by omega)) ?_
  have e : (A.set k (.cells ((R.map f).flatten ++ rs)) ++ X).set k (.cells (((R.map f).flatten ++ rs).take (0 + n * sz) ++ f v ++ ((R.map f).flatten ++ rs).drop (0 + n * sz + (f v).length))) = A.set k (.cells (((R.set n v).map f).flatten ++ rs)) ++ X := by
    rw [fl_set hsz R rs hn v, List.set_append_left _ _ (by simpa using hk), List.set_set]
  show SeqWP c ops Q (i + 1) rest ⟨sl, (A.set k (.cells ((R.map f).flatten ++ rs)) ++ X).set k (.cells (((R.map f).flatten ++ rs).take (0 + n * sz) ++ f v ++ ((R.map f).flatten ++ rs).drop (0 + n * sz + (f v).length))), df⟩
  rw [e]; exact kk
end seq
section ev
variable {P : Program} {r : Option Nat} {ρ : Operand → AV} {d : Option Tmp} {t : TypeId} {p : String} {af : Array Edge} {g : Option (Nat × Bool)} {x : Operand}
variable {A X : List AObj} {α : Type} {f : α → List AV} {sz k : Nat} {R : List α} {rs : List AV}
end ev
end Go.Ab
namespace Hd
open Ni (inn)
theorem apB_ref {off a b : Int} (h0 : 0 ≤ off ∧ off ≤ 5) (h1 : 0 ≤ a ∧ a ≤ 650000) (h2 : 0 ≤ b ∧ b ≤ 650000) :
    (min (hi off a) (hi off b) < max (lo off a) (lo off b)) ↔ ((min a b + off * 1000) / 1000 < if max a b < off * 1000 then 0 else (max a b - off * 1000 + 999) / 1000) := by
  rw [hi_eq h0.1 h1.1, hi_eq h0.1 h2.1, lo_eq, lo_eq]
  split <;> omega
theorem pairI_inv {r : Rg} {ms : List Int} {i : Nat} (h : pairI r ms i = none) : ∀ k, i < k → k < r.hides.length → mist r ms i k = false := by
  intro k hik hk
  unfold pairI at h
  rw [Option.map_eq_none_iff, List.find?_eq_none] at h
  have := h k (List.mem_range.2 hk)
  simpa [hik] using this
theorem twins_none {r : Rg} {ms : List Int} (h : twinsOf r ms = none) : ∀ i k, i < k → k < r.hides.length → mist r ms i k = false := by
  intro i k hik hk
  unfold twinsOf at h
  rw [List.findSome?_eq_none_iff] at h
  exact pairI_inv (h i (List.mem_range.2 (by omega))) k hik hk
theorem twins_all {r : Rg} {ms : List Int} (h : ∀ i k, i < k → k < r.hides.length → mist r ms i k = false) : twinsOf r ms = none := by
  unfold twinsOf
  exact List.findSome?_eq_none_iff.2 fun i _ => pairI_none fun k hik hk => h i k hik hk
theorem least_mono {a b : List Int} (top : Int) (h : ∀ y ∈ b, ∃ x ∈ a, x ≤ y) : least top a ≤ least top b := by
  rcases least_is top b with e | e
  · rw [e]; exact least_le _ _
  · obtain ⟨x, hx, hle⟩ := h _ e
    have := least_mem top a x hx
    omega
theorem apN_mono {r : Rg} {h g k : Nat} {l m : List Int} {x y : Int} (hs : List.Sublist l m) : apN r h g k l x y ≤ apN r h g k m x y := by
  unfold apN
  have := (hs.filter (apK r h g k x y)).length_le
  omega
theorem apart_mono {r : Rg} {h g k : Nat} {l m : List Int} (hs : List.Sublist l m) : apart r h g k l ≤ apart r h g k m := by
  unfold apart
  refine least_mono 6 fun z hz => ?_
  obtain ⟨x, hx, hz⟩ := List.mem_flatMap.1 hz
  obtain ⟨y, hy, rfl⟩ := List.mem_map.1 hz
  exact ⟨_, List.mem_flatMap.2 ⟨x, hx, List.mem_map.2 ⟨y, hy, rfl⟩⟩, apN_mono hs⟩
theorem mist_mono {r : Rg} {h g : Nat} {l m : List Int} (hs : List.Sublist l m) (hm : mist r m h g = true) : mist r l h g = true := by
  unfold mist at *
  rw [decide_eq_true_eq] at *
  have h1 := apart_mono (r := r) (h := h) (g := g) (k := 0) hs
  have h2 := apart_mono (r := r) (h := h) (g := g) (k := 1) hs
  omega
theorem enough_iff {r : Rg} {ms : List Int} : enough r ms = true ↔ ∀ i k, i < k → k < r.hides.length → mist r ms i k = false := by
  unfold enough
  constructor
  · intro h i k hik hk
    cases ht : twinsOf r ms with
    | none => exact twins_none ht i k hik hk
    | some p => rw [ht] at h; cases h
  · intro h; rw [twins_all h]; rfl
theorem enough_mono {r : Rg} {l m : List Int} (hs : List.Sublist l m) (h : enough r l = true) : enough r m = true := by
  rw [enough_iff] at *
  intro i k hik hk
  cases hm : mist r m i k with
  | false => rfl
  | true => have := h i k hik hk; rw [mist_mono hs hm] at this; cases this
end Hd
namespace Hd
open Ni (inn)
def tk (f : List Int) (n : Nat) : List Int := nums (fun m => decide (0 ≤ f.getD m 0)) n
theorem ap_chg {r : Rg} {h g : Nat} {f : List Int} {x y : Int} {m : Nat} (hv : 0 ≤ f.getD m 0) (ha : apB r h g x y m = true) : chB r h f x m = true ∨ chB r g f y m = true := by
  unfold apB at ha
  rw [decide_eq_true_eq] at ha
  unfold chB chg inn
  by_cases k1 : lo r.off (sz r h m * x) ≤ f.getD m 0 ∧ f.getD m 0 ≤ hi r.off (sz r h m * x)
  · right
    simp only [hv, decide_true, Bool.true_and, Bool.not_eq_true', Bool.and_eq_false_iff, decide_eq_false_iff_not]
    omega
  · left
    simp only [hv, decide_true, Bool.true_and, Bool.not_eq_true', Bool.and_eq_false_iff, decide_eq_false_iff_not]
    omega
theorem lo_mono {a b long : Int} (h : a ≤ b) : lo b long ≤ lo a long := by rw [lo_eq, lo_eq]; omega
theorem hi_mono {a b long : Int} (h0 : 0 ≤ a) (h : a ≤ b) (hl : 0 ≤ long) : hi a long ≤ hi b long := by rw [hi_eq h0 hl, hi_eq (by omega) hl]; omega
theorem chg_mono {a b long x : Int} (h0 : 0 ≤ a) (h : a ≤ b) (hl : 0 ≤ long) (hc : chg b long x = true) : chg a long x = true := by
  have h1 := lo_mono (long := long) h
  have h2 := hi_mono h0 h hl
  unfold chg inn at *
  simp only [Bool.and_eq_true, Bool.not_eq_true', Bool.and_eq_false_iff, decide_eq_true_eq, decide_eq_false_iff_not] at *
  omega
end Hd
namespace Hd
open Ni (inn)
theorem fews_rt {r : Rg} (B : RgB r) (h : Nat) (f : List Int) : 0 ≤ fews r h f ∧ fews r h f ≤ r.kinds.length := by
  obtain ⟨x, _, e⟩ := fews_is B h f
  have : (chA r h f x).length ≤ r.kinds.length := nums_len _ _
  omega
theorem fews_wid {r s : Rg} (B : RgB r) (B' : RgB s) (w : Wid r s) {h : Nat} (hh : h < r.hides.length) (f : List Int) : fews s h f ≤ fews r h f := by
  obtain ⟨x, hx, e⟩ := fews_is B h f
  obtain ⟨h1, h2⟩ := rtOK_iff.1 hx
  have hx' : rtOK s x = true := rtOK_iff.2 ⟨by have := w.a; omega, by have := w.b; omega⟩
  have hle := fews_le B' (h := h) (f := f) hx'
  have : (chA s h f x).length ≤ (chA r h f x).length := by
    unfold chA
    rw [nums_count, nums_count, w.kinds]
    refine countP_le fun m hm hc => ?_
    have hm := List.mem_range.1 hm
    have hs : sz s h m = sz r h m := by unfold sz; rw [w.hides]
    have hk : rm s x m = rm r x m := by unfold rm kd; rw [w.kinds]
    unfold chB at hc ⊢
    rw [hs, hk] at hc
    refine chg_mono (by have := B.off; omega) w.off ?_ hc
    have h3 := B.sz h m hh hm
    have ha := B.a; have hb := B.b
    have hr : 0 ≤ rm r x m := by unfold rm; split <;> omega
    exact Int.mul_nonneg (by omega) hr
  omega
end Hd
namespace Hd
open Ni (inn)
theorem sub_rising : ∀ {l m : List Int}, l.Pairwise (· < ·) → m.Pairwise (· < ·) → (∀ n ∈ l, n ∈ m) → List.Sublist l m
  | [], m, _, _, _ => List.nil_sublist _
  | x :: l, [], _, _, h => by have := h x (by simp); cases this
  | x :: l, y :: m, hl, hm, h => by
    have hl' := List.pairwise_cons.1 hl
    have hm' := List.pairwise_cons.1 hm
    rcases List.mem_cons.1 (h x (by simp)) with e | e
    · subst e
      refine .cons_cons _ (sub_rising hl'.2 hm'.2 fun n hn => ?_)
      rcases List.mem_cons.1 (h n (by simp [hn])) with e | e
      · have := hl'.1 n hn; omega
      · exact e
    · refine .cons _ (sub_rising hl hm'.2 fun n hn => ?_)
      have hyx := hm'.1 x e
      rcases List.mem_cons.1 (h n hn) with e2 | e2
      · rcases List.mem_cons.1 hn with e3 | e3
        · omega
        · have := hl'.1 n e3; omega
      · exact e2
theorem every_rising (n : Nat) : (every n).Pairwise (· < ·) := by
  unfold every
  rw [List.pairwise_map]
  exact List.pairwise_lt_range.imp fun h => by omega
theorem mem_every {n : Nat} {x : Int} : x ∈ every n ↔ 0 ≤ x ∧ x < n := by
  unfold every
  rw [List.mem_map]
  constructor
  · rintro ⟨m, hm, rfl⟩; rw [List.mem_range] at hm; omega
  · rintro ⟨h1, h2⟩; exact ⟨x.toNat, by rw [List.mem_range]; omega, by omega⟩
def msOK (n : Nat) (l : List Int) : Prop := l.Pairwise (· < ·) ∧ ∀ x ∈ l, 0 ≤ x ∧ x < n
theorem ms_sub {n : Nat} {l : List Int} (h : msOK n l) : List.Sublist l (every n) := sub_rising h.1 (every_rising n) fun x hx => mem_every.2 (h.2 x hx)
theorem sub_ms {n : Nat} {l : List Int} (h : List.Sublist l (every n)) : msOK n l := ⟨(every_rising n).sublist h, fun x hx => mem_every.1 (h.subset hx)⟩
end Hd
namespace Go.Proofs.YtjpokekbjmdgmaaGreatDoor
open Go Go.Ab Ni Hd
theorem rin_pure (n lo hi : Int) : APure Tryz.prog 74 [I n, I lo, I hi] (B (inn n lo hi)) := by
  refine ap Tryz.func74 (fun e0 he0 => ?_)
  refine wz 5 ?_
  refine sz 10 (fun g1 g1' => ?_) (fun g1 g1' => ?_)
  ·refine wz 5 ?_
   exact rz rfl (Less.eq (by simp [inn, *]))
  refine wz 5 ?_
  exact rz rfl (Less.eq (by simp [inn, *]))
end Go.Proofs.YtjpokekbjmdgmaaGreatDoor
namespace Go.Proofs.YtjpokekbjmdgmaaGreatDoor
open Go Go.Ab Ni Hd
def okM (r : Rg) (l : List Int) : Bool := decide (∀ i, (hi : i < l.length) → msIn r l[i] = true ∧ (0 < i → l[i - 1] < l[i]))
theorem okM_no {r : Rg} {l : List Int} {i : Nat} (hi : i < l.length) (h : ¬ (msIn r l[i] = true ∧ (0 < i → l[i - 1] < l[i]))) : okM r l = false := by
  unfold okM; rw [decide_eq_false_iff_not]; exact fun q => h (q i hi)
theorem okM_yes {r : Rg} {l : List Int} (h : ∀ i, (hi : i < l.length) → msIn r l[i] = true ∧ (0 < i → l[i - 1] < l[i])) : okM r l = true := by unfold okM; exact decide_eq_true h
theorem okM_p {r : Rg} {l : List Int} (h : okM r l = true) : msP r l := fun m hm => by
  obtain ⟨i, hi, rfl⟩ := List.getElem_of_mem hm
  unfold okM at h; rw [decide_eq_true_eq] at h
  exact msIn_iff.1 (h i hi).1
theorem areM_pure (r : Rg) (l : List Int) (hk : r.kinds.length ≤ 1000000) (hl : l.length ≤ 1000000) : APure Tryz.prog 126 [rgA r, ints l] (B (okM r l)) := by
  refine ap Tryz.func126 (fun e0 he0 => ?_)
  refine wz 5 ?_
  refine aw_loopk (ι := { k : Nat // k ≤ l.length ∧ ∀ i, (hi : i < l.length) → i < k → msIn r l[i] = true ∧ (0 < i → l[i - 1] < l[i]) }) [1, 2, 7, 8] (fun i => [(9, I i.1)]) (fun H i => H) (fun i => l.length - i.1) (⟨0, Nat.zero_le _, by omega⟩) ⟨jz, jz, jz, jz, jz, trivial⟩ rfl ?_
  rintro ⟨k, hk1, hok⟩
  refine nz ?_
  refine wz 1 ?_
  refine iz (fun c_10 c_10' => ?_) (fun c_10 c_10' => ?_)
  ·have hkl : k < l.length := by omega
   refine wz 7 ?_
   refine kz az (ismeasure_pure r _ hk) ?_
   refine wz 2 ?_
   refine sz 18 (fun g4_4 g4_4' => ?_) (fun g4_4 g4_4' => ?_)
   ·have hms : msIn r l[k] = false := by simpa using g4_4
    have hno : okM r l = false := okM_no hkl (fun q => by rw [hms] at q; exact Bool.noConfusion q.1)
    refine wz 14 ?_
    exact rz rfl (Less.eq (by rw [hno]))
   have hms : msIn r l[k] = true := by simpa using g4_4
   refine wz 3 ?_
   refine sz 21 (fun g4_7 g4_7' => ?_) (fun g4_7 g4_7' => ?_)
   ·refine wz 4 ?_
    refine sq_yes rfl rfl (less_b g4_7) rfl (ev_index_map (k := k - 1) sl28.h jz jz (by omega) (by omega)) ?_
    refine wz 4 ?_
    refine iz (fun c_30 c_30' => ?_) (fun c_30 c_30' => ?_)
    ·have hno : okM r l = false := okM_no hkl (fun q => by have h5 := q.2 (by omega); have h6 := of_decide_eq_true c_30; omega)
     refine wz 1 ?_
     exact rz rfl (Less.eq (by rw [hno]))
    have hst : msIn r l[k] = true ∧ (0 < k → l[k - 1] < l[k]) := ⟨hms, fun q => by have := of_decide_eq_false c_30; omega⟩
    refine wz 2 ?_
    exact ⟨⟨k + 1, by omega, fun i hi q => by rcases Nat.lt_or_ge i k with q2 | q2; exact hok i hi q2; (obtain rfl : i = k := by omega); exact hst⟩, by simp only; omega, Sub.slots ⟨jz, jz, jz, jz, jz, trivial⟩⟩
   have hst : msIn r l[k] = true ∧ (0 < k → l[k - 1] < l[k]) := ⟨hms, fun q => by omega⟩
   refine wz 12 ?_
   exact ⟨⟨k + 1, by omega, fun i hi q => by rcases Nat.lt_or_ge i k with q2 | q2; exact hok i hi q2; (obtain rfl : i = k := by omega); exact hst⟩, by simp only; omega, Sub.slots ⟨jz, jz, jz, jz, jz, trivial⟩⟩
  obtain rfl : k = l.length := by omega
  have hall := okM_yes fun i hi => hok i hi hi
  refine wz 1 ?_
  exact rz rfl (Less.eq (by rw [hall]))
theorem enough_ok {r : Rg} {l : List Int} (hk : r.kinds.length ≤ 1000000) (hh : r.hides.length ≤ 1000000) (hw : ∀ h ∈ r.hides, h.length ≤ 1000000) (hl : l.length ≤ 1000000) (ho : (rgOK r && okM r l) = true) : APure Tryz.prog 67 [rgA r, ints l] (.tup [B (enough r l), I 0]) := by
  refine ap Tryz.func67 (fun e0 he0 => ?_)
  refine vz 3 ?_
  refine sq_nil ?_
  refine aw_seq ?_
  refine aw_seq ?_
  obtain ⟨hro, hom⟩ : rgOK r = true ∧ okM r l = true := by simpa using ho
  have gB := rgOK_B hro
  refine wz 1 ?_
  refine kz az (isregister_pure r hk hh hw) ?_
  refine wz 2 ?_
  refine sz 12 (fun g1_3 g1_3' => ?_) (fun g1_3 g1_3' => ?_)
  ·exfalso
   simp_all
  refine wz 2 ?_
  refine ky az (areM_pure r l hk hl) ?_
  refine wz 2 ?_
  refine iz (fun c_17 c_17' => ?_) (fun c_17 c_17' => ?_)
  ·exfalso
   simp_all
  refine wz 2 ?_
  refine kz az (twins_pure gB (okM_p hom) hl) ?_
  refine wz 11 ?_
  exact retQ_pure (v := .tup [.raw _, .raw _]) rfl rfl (less_tup ⟨Less.eq (by rw [Bool.not_not]), jz, trivial⟩)
end Go.Proofs.YtjpokekbjmdgmaaGreatDoor
namespace Go.Proofs.YtjpokekbjmdgmaaGreatDoor
open Go Go.Ab Ni Hd
def shB (r : Rg) : Bool := decide ((r.kinds.length ≤ 8 ∧ r.hides.length ≤ 8) ∧ ∀ i, (hi : i < r.hides.length) → i < 9 → r.hides[i].length ≤ 10)
theorem shB_fin {r : Rg} (h3 : ∀ i, (hi : i < r.hides.length) → i < 9 → r.hides[i].length ≤ 10) : shB r = (decide (r.kinds.length ≤ 8) && decide (r.hides.length ≤ 8)) := by
  rw [Bool.eq_iff_iff]; unfold shB; simp only [decide_eq_true_eq, Bool.and_eq_true]
  exact ⟨fun h => h.1, fun h => ⟨h, h3⟩⟩
theorem shB_row {r : Rg} {i : Nat} (hi : i < r.hides.length) (h9 : i < 9) (h : ¬ r.hides[i].length ≤ 10) : shB r = false := decide_eq_false fun q => h (q.2 i hi h9)
theorem shB_len {r : Rg} (h : shB r = true) : r.kinds.length ≤ 1000000 ∧ r.hides.length ≤ 1000000 ∧ (∀ h ∈ r.hides, h.length ≤ 1000000) := by
  have q := of_decide_eq_true h
  refine ⟨by omega, by omega, fun x hx => ?_⟩
  obtain ⟨i, hi, rfl⟩ := List.getElem_of_mem hx
  have := q.2 i hi (by omega); omega
theorem rg_kind {r : Rg} {i : Nat} (hi : i < r.kinds.length) (h : kdOK r.kinds[i] = false) : rgOK r = false := by
  have e : r.kinds.all kdOK = false := by rw [List.all_eq_false]; exact ⟨_, List.getElem_mem hi, by rw [h]; simp⟩
  unfold rgOK; rw [e]; simp
theorem rg_hide {r : Rg} {i : Nat} (hi : i < r.hides.length) (h : hdOK r.kinds.length r.hides[i] = false) : rgOK r = false := by
  have e : r.hides.all (hdOK r.kinds.length) = false := by rw [List.all_eq_false]; exact ⟨_, List.getElem_mem hi, by rw [h]; simp⟩
  unfold rgOK; rw [e]; simp
theorem hd_len {w : Nat} {h : List Int} (e : h.length ≠ w) : hdOK w h = false := by unfold hdOK; rw [decide_eq_false e]; rfl
theorem hd_num {w : Nat} {h : List Int} {j : Nat} (hj : j < h.length) (e : inn h[j] 1 500 = false) : hdOK w h = false := by
  have q : (h.all fun n => inn n 1 500) = false := by rw [List.all_eq_false]; exact ⟨_, List.getElem_mem hj, by rw [e]; simp⟩
  unfold hdOK; rw [q]; simp
theorem hd_yes {w : Nat} {h : List Int} (e : h.length = w) (k : ∀ j, (hj : j < h.length) → inn h[j] 1 500 = true) : hdOK w h = true := by
  unfold hdOK; rw [decide_eq_true e, List.all_eq_true.2 fun x hx => by obtain ⟨j, hj, rfl⟩ := List.getElem_of_mem hx; exact k j hj]; rfl
theorem all_of {α : Type} {q : α → Bool} {l : List α} (h : ∀ j, (hj : j < l.length) → q l[j] = true) : l.all q = true := List.all_eq_true.2 fun x hx => by obtain ⟨j, hj, rfl⟩ := List.getElem_of_mem hx; exact h j hj
theorem fd_bad {r : Rg} {f : List Int} {i : Nat} (hi : i < f.length) (h : inn f[i] (-1) 1000 = false) : fdOK r f = false := by
  have e : (f.all fun n => inn n (-1) 1000) = false := by rw [List.all_eq_false]; exact ⟨_, List.getElem_mem hi, by rw [h]; simp⟩
  unfold fdOK; rw [e]; simp
theorem short_pure (r : Rg) : APure Tryz.prog 20 [rgA r] (B (shB r)) := by
  refine ap Tryz.func20 (fun e0 he0 => ?_)
  refine wz 3 ?_
  refine aw_loopk (ι := { k : Nat // k ≤ r.hides.length ∧ k ≤ 9 ∧ ∀ i, (hi : i < r.hides.length) → i < k → r.hides[i].length ≤ 10 }) [1] (fun i => [(3, I i.1)]) (fun H i => H) (fun i => r.hides.length - i.1) (⟨0, Nat.zero_le _, by omega, by omega⟩) ⟨jz, jz, trivial⟩ rfl ?_
  rintro ⟨k, hk, hk9, hok⟩
  refine nz ?_
  refine wz 6 ?_
  refine sz 9 (fun g2_5 g2_5' => ?_) (fun g2_5 g2_5' => ?_)
  ·have hkl : k < r.hides.length := by omega
   refine wz 3 ?_
   refine iz (fun c_12 c_12' => ?_) (fun c_12 c_12' => ?_)
   ·have hk9b : k < 9 := by have := of_decide_eq_true c_12; omega
    refine wz 7 ?_
    refine iz (fun c_21 c_21' => ?_) (fun c_21 c_21' => ?_)
    ·have hbad := shB_row hkl hk9b (by omega)
     refine wz 1 ?_
     exact rz rfl (Less.eq (by rw [hbad]))
    refine wz 3 ?_
    exact ⟨⟨k + 1, by omega, by omega, fun i hi h => (by by_cases e : i = k; (subst e; omega); exact hok i hi (by omega))⟩, by simp only; omega, Sub.slots ⟨jz, jz, trivial⟩⟩
   refine wz 5 ?_
   refine sz 26 (fun g6_4 g6_4' => ?_) (fun g6_4 g6_4' => ?_)
   ·refine wz 6 ?_
    exact rz rfl (Less.eq (congrArg B (by have h9 := of_decide_eq_false c_12; rw [shB_fin (fun i hi h8 => hok i hi (by omega)), Bool.eq_iff_iff]; simp; omega)))
   refine wz 6 ?_
   exact rz rfl (Less.eq (congrArg B (by have h9 := of_decide_eq_false c_12; rw [shB_fin (fun i hi h8 => hok i hi (by omega)), Bool.eq_iff_iff]; simp; omega)))
  obtain rfl : k = r.hides.length := by omega
  refine wz 9 ?_
  refine sz 26 (fun g6_4 g6_4' => ?_) (fun g6_4 g6_4' => ?_)
  ·refine wz 6 ?_
   exact rz rfl (Less.eq (congrArg B (by rw [shB_fin (fun i hi _ => hok i hi hi), Bool.eq_iff_iff]; simp; omega)))
  refine wz 6 ?_
  exact rz rfl (Less.eq (congrArg B (by rw [shB_fin (fun i hi _ => hok i hi hi), Bool.eq_iff_iff]; simp; omega)))
theorem rspan_pure (a b : Int) (ha : -1000000 ≤ a ∧ a ≤ 1000000 ∨ True) : APure Tryz.prog 75 [.agg [I a, I b]] (B (spOK a b)) := by
  refine ap Tryz.func75 (fun e0 he0 => ?_)
  refine vz 2 ?_
  refine sq_nil ?_
  refine aw_seq ?_
  have hin : ∀ x lo hi : Int, inn x lo hi = true ↔ lo ≤ x ∧ x ≤ hi := fun x lo hi => by unfold inn; simp
  refine wz 2 ?_
  refine kz az (rin_pure _ _ _) ?_
  refine wz 1 ?_
  refine sz 6 (fun g1_3 g1_3' => ?_) (fun g1_3 g1_3' => ?_)
  ·have h1 := (hin _ _ _).1 g1_3
   refine wz 4 ?_
   refine ky az (rin_pure _ _ _) ?_
   refine wz 2 ?_
   refine sz 13 (fun g1_10 g1_10' => ?_) (fun g1_10 g1_10' => ?_)
   ·have h2 := (hin _ _ _).1 g1_10
    refine wz 8 ?_
    exact rz rfl (Less.eq (by unfold spOK; simp [*]))
   refine wz 8 ?_
   exact rz rfl (Less.eq (by unfold spOK; simp [*]))
  refine wz 15 ?_
  exact rz rfl (Less.eq (by unfold spOK; simp [*]))
theorem register_pure (r : Rg) (hk : r.kinds.length ≤ 1000000) (hh : r.hides.length ≤ 1000000) (hw : ∀ h ∈ r.hides, h.length ≤ 1000000) : APure Tryz.prog 21 [rgA r] (B (rgOK r)) := by
  refine ap Tryz.func21 (fun e0 he0 => ?_)
  refine wz 5 ?_
  refine kz az (rin_pure _ _ _) ?_
  refine wz 2 ?_
  refine sz 11 (fun g1_5 g1_5' => ?_) (fun g1_5 g1_5' => ?_)
  ·refine wz 8 ?_
   exact rz rfl (Less.eq (by unfold rgOK; simp_all))
  refine wz 3 ?_
  refine ky az (rin_pure _ _ _) ?_
  refine wz 2 ?_
  refine iz (fun c_17 c_17' => ?_) (fun c_17 c_17' => ?_)
  ·refine wz 1 ?_
   exact rz rfl (Less.eq (by unfold rgOK; simp_all))
  refine wz 1 ?_
  refine aw_loopk (ι := { k : Nat // k ≤ r.kinds.length ∧ ∀ i, (hi : i < r.kinds.length) → i < k → kdOK r.kinds[i] = true }) [1] (fun i => [(3, I i.1)]) (fun H i => H) (fun i => r.kinds.length - i.1) (⟨0, Nat.zero_le _, by omega⟩) ⟨jz, jz, trivial⟩ rfl ?_
  rintro ⟨k, hkk, hok⟩
  refine nz ?_
  refine wz 5 ?_
  refine iz (fun c_22 c_22' => ?_) (fun c_22 c_22' => ?_)
  ·have hkl : k < r.kinds.length := by omega
   refine wz 7 ?_
   refine sz 31 (fun g6_6 g6_6' => ?_) (fun g6_6 g6_6' => ?_)
   ·refine wz 7 ?_
    refine iz (fun c_38 c_38' => ?_) (fun c_38 c_38' => ?_)
    ·have hbad := rg_kind hkl (by unfold kdOK; have h5 := of_decide_eq_true c_38; exact decide_eq_false (by omega))
     refine wz 1 ?_
     exact rz rfl (Less.eq (by rw [hbad]))
    have hkd : kdOK r.kinds[k] = true := by unfold kdOK; have h5 := of_decide_eq_false c_38; exact decide_eq_true (by omega)
    refine wz 3 ?_
    exact ⟨⟨k + 1, by omega, fun i hi h => (by by_cases e : i = k; (subst e; exact hkd); exact hok i hi (by omega))⟩, by simp only; omega, Sub.slots ⟨jz, jz, trivial⟩⟩
   have hkd : kdOK r.kinds[k] = true := by unfold kdOK; exact decide_eq_true (by omega)
   refine wz 11 ?_
   exact ⟨⟨k + 1, by omega, fun i hi h => (by by_cases e : i = k; (subst e; exact hkd); exact hok i hi (by omega))⟩, by simp only; omega, Sub.slots ⟨jz, jz, trivial⟩⟩
  obtain rfl : k = r.kinds.length := by omega
  have hall1 : r.kinds.all kdOK = true := all_of fun j hj => hok j hj hj
  refine wz 1 ?_
  refine aw_loopk (ι := { k : Nat // k ≤ r.hides.length ∧ ∀ i, (hi : i < r.hides.length) → i < k → hdOK r.kinds.length r.hides[i] = true }) [1] (fun i => [(4, I i.1)]) (fun H i => H) (fun i => r.hides.length - i.1) (⟨0, Nat.zero_le _, by omega⟩) ⟨jz, jz, trivial⟩ rfl ?_
  rintro ⟨k, hkh, hok2⟩
  refine nz ?_
  refine wz 5 ?_
  refine iz (fun c_43 c_43' => ?_) (fun c_43 c_43' => ?_)
  ·have hhl : k < r.hides.length := by omega
   have hwl := hw _ (List.getElem_mem hhl)
   refine wz 0 ?_
   refine aw_draw 10 mo (by kernel_rfl) ?_
   refine dz 10 ?_
   refine wz 0 ?_
   refine iz (fun c_55 c_55' => ?_) (fun c_55 c_55' => ?_)
   ·have hbad := rg_hide hhl (hd_len (by omega))
    refine wz 1 ?_
    exact rz rfl (Less.eq (by rw [hbad]))
   have hle : r.hides[k].length = r.kinds.length := by omega
   refine wz 1 ?_
   refine aw_loopk (ι := { j : Nat // j ≤ r.hides[k].length ∧ ∀ i, (hi : i < r.hides[k].length) → i < j → inn r.hides[k][i] 1 500 = true }) [1, 4] (fun u => [(5, I u.1)]) (fun H u => H) (fun u => r.hides[k].length - u.1) (⟨0, Nat.zero_le _, by omega⟩) ⟨jz, jz, jz, trivial⟩ rfl ?_
   rintro ⟨j, hj, hok3⟩
   refine nz ?_
   refine wz 8 ?_
   refine iz (fun c_63 c_63' => ?_) (fun c_63 c_63' => ?_)
   ·have hjl : j < r.hides[k].length := by omega
    refine wz 8 ?_
    refine kz az (rin_pure _ _ _) ?_
    refine wz 1 ?_
    refine iz (fun c_75 c_75' => ?_) (fun c_75 c_75' => ?_)
    ·have hbad := rg_hide hhl (hd_num hjl (by simpa using c_75))
     refine wz 1 ?_
     exact rz rfl (Less.eq (by rw [hbad]))
    have hin : inn r.hides[k][j] 1 500 = true := by simpa using c_75
    refine wz 3 ?_
    exact ⟨⟨j + 1, by omega, fun i hi h => (by by_cases e : i = j; (subst e; exact hin); exact hok3 i hi (by omega))⟩, by simp only; omega, Sub.slots ⟨jz, jz, jz, trivial⟩⟩
   obtain rfl : j = r.hides[k].length := by omega
   refine wz 3 ?_
   exact ⟨⟨k + 1, by omega, fun i hi h => (by by_cases e : i = k; (subst e; exact hd_yes hle fun j hj => hok3 j hj hj); exact hok2 i hi (by omega))⟩, by simp only; omega, Sub.slots ⟨jz, jz, trivial⟩⟩
  obtain rfl : k = r.hides.length := by omega
  have hall2 : r.hides.all (hdOK r.kinds.length) = true := all_of fun j hj => hok2 j hj hj
  refine wz 2 ?_
  refine kz az (rspan_pure _ _ (.inr trivial)) ?_
  refine wz 1 ?_
  refine sz 79 (fun g18_3 g18_3' => ?_) (fun g18_3 g18_3' => ?_)
  ·refine wz 2 ?_
   refine ky az (rspan_pure _ _ (.inr trivial)) ?_
   refine wz 2 ?_
   refine sz 84 (fun g18_8 g18_8' => ?_) (fun g18_8 g18_8' => ?_)
   ·refine wz 2 ?_
    refine ky az (rin_pure _ _ _) ?_
    refine wz 2 ?_
    refine sz 89 (fun g18_13 g18_13' => ?_) (fun g18_13 g18_13' => ?_)
    ·refine wz 2 ?_
     refine ky az (rin_pure _ _ _) ?_
     refine wz 2 ?_
     exact rz rfl (Less.eq (by unfold rgOK; rw [hall1, hall2]; simp_all))
    refine wz 5 ?_
    exact rz rfl (Less.eq (by unfold rgOK; rw [hall1, hall2]; simp_all))
   refine wz 10 ?_
   exact rz rfl (Less.eq (by unfold rgOK; rw [hall1, hall2]; simp_all))
  refine wz 15 ?_
  exact rz rfl (Less.eq (by unfold rgOK; rw [hall1, hall2]; simp_all))
end Go.Proofs.YtjpokekbjmdgmaaGreatDoor
namespace Go.Proofs.YtjpokekbjmdgmaaGreatDoor
open Go Go.Ab Ni Hd
theorem short_t {r : Rg} (h : shB r = true) : APure Tryz.prog 20 [rgA r] (B true) := by have q := short_pure r; rw [h] at q; exact q
theorem short_f {r : Rg} (h : shB r = false) : APure Tryz.prog 20 [rgA r] (B false) := by have q := short_pure r; rw [h] at q; exact q
theorem reg_t {r : Rg} (hs : shB r = true) (h : rgOK r = true) : APure Tryz.prog 21 [rgA r] (B true) := by have q := register_pure r (shB_len hs).1 (shB_len hs).2.1 (shB_len hs).2.2; rw [h] at q; exact q
theorem reg_f {r : Rg} (hs : shB r = true) (h : rgOK r = false) : APure Tryz.prog 21 [rgA r] (B false) := by have q := register_pure r (shB_len hs).1 (shB_len hs).2.1 (shB_len hs).2.2; rw [h] at q; exact q
end Go.Proofs.YtjpokekbjmdgmaaGreatDoor
namespace Go.Proofs.YtjpokekbjmdgmaaGreatDoor
open Go Go.Ab Ni Hd
theorem least_nn : ∀ (l : List Int), (∀ x ∈ l, 0 ≤ x) → 0 ≤ least 6 l
  | [], _ => by decide
  | x :: l, h => by have := least_nn l (fun y hy => h y (List.mem_cons_of_mem _ hy)); have := h x (by simp); simp only [least]; omega
theorem rmeas_pure (r : Rg) (n : Int) (hk : r.kinds.length ≤ 1000000) : APure Tryz.prog 48 [rgA r, I n] (B (msIn r n)) := by
  refine ap Tryz.func48 (fun e0 he0 => ?_)
  refine wz 7 ?_
  refine kz az (rin_pure _ _ _) ?_
  refine wz 1 ?_
  exact rz rfl (Less.eq rfl)
end Go.Proofs.YtjpokekbjmdgmaaGreatDoor
namespace Go.Proofs.YtjpokekbjmdgmaaGreatDoor
open Go Go.Ab Ni Hd
instance en55 : EnT Tryz.prog 55 := ⟨Ent.of Tryz.func55 (by kernel_rfl) rfl⟩
theorem fd_set {r : Rg} {f : List Int} (h : fdOK r f = true) {m : Nat} {x : Int} (hx : -1 ≤ x ∧ x ≤ 1000) : fdOK r (f.set m x) = true := by
  rw [fdOK_iff] at h ⊢
  refine ⟨by rw [List.length_set]; exact h.1, fun n hn => ?_⟩
  rcases List.mem_or_eq_of_mem_set hn with q | q
  · exact h.2 n q
  · omega
theorem rtaken_pure (f : List Int) (m : Nat) (x : Int) (hm : m < f.length) (hl : f.length ≤ 1000000) : APure Tryz.prog 55 [ints f, I m, I x] (ints (f.set m x)) := by
  refine ap Tryz.func55 (fun e0 he0 => ?_) (hr := by simp only [AV.pureB]; exact pureE_map fun x _ => rfl)
  refine wz 2 ?_
  refine sq_append_msl (xs := f.map fun x => [I x]) rfl sf28.h Tryz.underlying28 (less_nilx _) jz (by simp; omega) (by simp; omega) (by simp; omega) fun cap hcap => ?_
  rw [List.length_map] at hcap
  refine sq_ev rfl (ev_as (v := .msl _ _ _ _) jz) ?_
  refine wz 0 ?_
  refine sq_ev rfl (ev_mv (v := .msl _ _ _ _) jz) ?_
  refine wz 2 ?_
  refine sq_ev rfl (ev_index_msl sl28.h jz jz rfl (by simpa using hm)) ?_
  refine Go.Ab.sq_storeRow (A := [AObj.dead]) (X := []) (R := f) (rs := (List.replicate ((cap - (f.map fun x => [I x]).length) * 1) AV.any)) (k := 0) (v := x) (a := I x) (n := m) (f := fun x => [I x]) (sz := 1) (bb := false) ?_ ?_ (fun _ => rfl) (by simp) ?_ ?_ ?_ ?_ ?_ ?_
  ·rfl
  ·rfl
  ·exact hm
  ·exact jz
  ·exact jz
  ·rfl
  ·exact ty3.h
  refine wz 0 ?_
  refine sq_ev rfl (ev_mv (v := .msl _ _ _ _) jz) ?_
  refine sq_sub (sub_freezeK [] 14 (j := 0) (sz := 1) (es := (f.set m x).map fun x => [I x]) (rest := (List.replicate ((cap - (f.map fun x => [I x]).length) * 1) AV.any)) rfl rfl (by simp) (fun r hr => by obtain ⟨t, _, rfl⟩ := List.mem_map.1 hr; rfl)) ?_
  refine sq_ev rfl (ev_as (v := .sl _ _) jz) ?_
  refine wz 0 ?_
  exact retQ_pure (v := .sl _ _) rfl rfl jz
end Go.Proofs.YtjpokekbjmdgmaaGreatDoor
namespace Go.Proofs.YtjpokekbjmdgmaaGreatDoor
open Go Go.Ab Ni Hd
instance en128 : EnT Tryz.prog 128 := ⟨Ent.of Tryz.func128 (by kernel_rfl) rfl⟩
instance en159 : EnT Tryz.prog 159 := ⟨Ent.of Tryz.func159 (by kernel_rfl) rfl⟩
instance en70 : EnT Tryz.prog 70 := ⟨Ent.of Tryz.func70 (by kernel_rfl) rfl⟩
def apI (r : Rg) (h g k : Nat) (ms : List Int) (i j : Nat) : Int := if i = 0 ∧ j = 0 then -1 else apO r h g k ms i j
def RL (r : Rg) (k : Nat) : Nat := (rng (sl r k) (sh r k)).length
theorem apI_row {r : Rg} {h g k : Nat} {ms : List Int} {i : Nat} (gB : RgB r) (hk : k < 2) (hi : i < RL r k) : apI r h g k ms i (RL r k) = apI r h g k ms (i + 1) 0 := by
  have hs := spank_bd gB hk
  have hl := rng_len (sl r k) (sh r k)
  unfold RL at hi ⊢
  unfold apI; rw [if_neg (by omega), if_neg (by omega), apO_row hi]
theorem apI_end {r : Rg} (gB : RgB r) (h g : Nat) {k : Nat} (hk : k < 2) (ms : List Int) : apI r h g k ms (RL r k) 0 = apart r h g k ms := by
  have hs := spank_bd gB hk
  have hl := rng_len (sl r k) (sh r k)
  unfold apI RL; rw [if_neg (by omega), apO_end]
theorem apO_nn (r : Rg) (h g k : Nat) (ms : List Int) (i j : Nat) : 0 ≤ apO r h g k ms i j ∧ apO r h g k ms i j ≤ 6 := by
  refine ⟨least_nn _ fun x hx => ?_, least_le _ _⟩
  rcases List.mem_append.1 hx with q | q
  · obtain ⟨y, _, q⟩ := List.mem_flatMap.1 q
    obtain ⟨z, _, rfl⟩ := List.mem_map.1 q
    unfold apN; omega
  · obtain ⟨z, _, rfl⟩ := List.mem_map.1 q
    unfold apN; omega
theorem apI_bd (r : Rg) (h g k : Nat) (ms : List Int) (i j : Nat) : -1 ≤ apI r h g k ms i j ∧ apI r h g k ms i j ≤ 6 := by
  have := apO_nn r h g k ms i j; unfold apI; split <;> omega
theorem apI_succ {r : Rg} {h g k : Nat} {ms : List Int} {i j : Nat} (hj : j < RL r k) (h6 : apN r h g k ms (sl r k + i) (sl r k + j) ≤ 6) :
    apI r h g k ms i (j + 1) = if apI r h g k ms i j < 0 ∨ apN r h g k ms (sl r k + i) (sl r k + j) < apI r h g k ms i j then apN r h g k ms (sl r k + i) (sl r k + j) else apI r h g k ms i j := by
  have hb := apO_nn r h g k ms i j
  have e : apI r h g k ms i (j + 1) = min (apO r h g k ms i j) (apN r h g k ms (sl r k + i) (sl r k + j)) := by unfold apI; rw [if_neg (by omega), apO_succ hj]
  rw [e]
  by_cases h0 : i = 0 ∧ j = 0
  · obtain ⟨rfl, rfl⟩ := h0
    have : apI r h g k ms 0 0 = -1 := rfl
    rw [if_pos (.inl (by omega)), apO_0]; omega
  · have e2 : apI r h g k ms i j = apO r h g k ms i j := by unfold apI; rw [if_neg h0]
    rw [e2]; split <;> omega
theorem apK_ref {r : Rg} {h g k : Nat} {x y : Int} {mm : Nat} (hml : mm < r.kinds.length) : apK r h g k x y (mm : Int) = (decide (r.kinds[mm] = (k : Int) + 1) && apB r h g x y mm) := by
  unfold apK; rw [Int.toNat_natCast, kd_at hml]; congr 1; rw [decide_eq_decide]; omega
theorem apB_ref2 {r : Rg} {h g : Nat} {x y : Int} {m : Nat} (h0 : 0 ≤ r.off ∧ r.off ≤ 5) (h1 : 0 ≤ sz r h m * x ∧ sz r h m * x ≤ 650000) (h2 : 0 ≤ sz r g m * y ∧ sz r g m * y ≤ 650000) :
    apB r h g x y m = decide ((min (sz r h m * x) (sz r g m * y) + r.off * 1000).tdiv 1000 < if max (sz r h m * x) (sz r g m * y) < r.off * 1000 then 0 else (max (sz r h m * x) (sz r g m * y) - r.off * 1000 + 1000 - 1).tdiv 1000) := by
  unfold apB; rw [decide_eq_decide, apB_ref h0 h1 h2]
  rw [Int.tdiv_eq_ediv_of_nonneg (by omega)]
  split
  · exact Iff.rfl
  · rw [Int.tdiv_eq_ediv_of_nonneg (by omega), show max (sz r h m * x) (sz r g m * y) - r.off * 1000 + 1000 - 1 = max (sz r h m * x) (sz r g m * y) - r.off * 1000 + 999 by omega]
theorem tdiv_bd {a : Int} (h : -1000000 ≤ a ∧ a ≤ 1000000) : -1000000 ≤ a.tdiv 1000 ∧ a.tdiv 1000 ≤ 1000000 := by
  rcases Int.le_total 0 a with q | q
  · rw [Int.tdiv_eq_ediv_of_nonneg q]; omega
  · obtain ⟨b, rfl⟩ : ∃ b, a = -b := ⟨-a, by omega⟩
    rw [Int.neg_tdiv, Int.tdiv_eq_ediv_of_nonneg (by omega)]; omega
theorem rapart_pure {r : Rg} (gB : RgB r) {h g k : Nat} (hhl : h < r.hides.length) (hgl : g < r.hides.length) (hk2 : k < 2) {ms : List Int} (hms : msP r ms) (hl : ms.length ≤ 6) : APure Tryz.prog 159 [rgA r, I h, I g, ints ms, I ((k : Int) + 1), .agg [I (sl r k), I (sh r k)]] (I (apart r h g k ms)) := by
  refine ap Tryz.func159 (fun e0 he0 => ?_)
  refine aw_seq ?_
  have hsp := spank_bd gB hk2
  have hRL : RL r k = (sh r k - sl r k + 1).toNat := rng_len _ _
  have hoff := gB.off
  refine wz 7 ?_
  refine aw_loopk (ι := { i : Nat // i ≤ RL r k }) [1, 2, 3, 4, 6, 11] (fun i => [(13, I (apI r h g k ms i.1 0)), (14, I (sl r k + (i.1 : Int)))]) (fun H i => H) (fun i => RL r k - i.1) (⟨0, Nat.zero_le _⟩) ⟨jz, (by exact less_int (show sl r k = sl r k + ((0 : Nat) : Int) by omega)), jz, jz, jz, jz, jz, jz, trivial⟩ rfl ?_
  rintro ⟨i, hi⟩
  refine nz ?_
  refine wz 4 ?_
  refine iz (fun c_28 c_28' => ?_) (fun c_28 c_28' => ?_)
  ·have hia : i < RL r k := by omega
   have hrdi : 0 ≤ sl r k + (i : Int) ∧ sl r k + (i : Int) ≤ 1300 := by have h1 := rng_len (sl r k) (sh r k); unfold RL at *; omega
   refine wz 3 ?_
   refine aw_loopk (ι := { j : Nat // j ≤ RL r k }) [1, 2, 3, 4, 6, 11, 14] (fun v => [(13, I (apI r h g k ms i v.1)), (15, I (sl r k + (v.1 : Int)))]) (fun H v => H) (fun v => RL r k - v.1) (⟨0, Nat.zero_le _⟩) ⟨jz, (by exact less_int (show sl r k = sl r k + ((0 : Nat) : Int) by omega)), jz, jz, jz, jz, jz, jz, jz, trivial⟩ rfl ?_
   rintro ⟨j, hj⟩
   refine nz ?_
   have hab0 := apI_bd r h g k ms i j
   refine wz 4 ?_
   refine iz (fun c_36 c_36' => ?_) (fun c_36 c_36' => ?_)
   ·have hja : j < RL r k := by omega
    have hrdj : 0 ≤ sl r k + (j : Int) ∧ sl r k + (j : Int) ≤ 1300 := by have h1 := rng_len (sl r k) (sh r k); unfold RL at *; omega
    refine wz 2 ?_
    refine aw_loopk (ι := { c : Nat // c ≤ ms.length }) [1, 2, 3, 4, 6, 11, 13, 14, 15] (fun u => [(16, I (apC r h g k ms (sl r k + (i : Int)) (sl r k + (j : Int)) u.1 : Nat)), (17, I u.1)]) (fun H u => H) (fun u => ms.length - u.1) (⟨0, Nat.zero_le _⟩) ⟨jz, jz, jz, jz, jz, jz, jz, jz, jz, jz, jz, trivial⟩ rfl ?_
    rintro ⟨c, hc⟩
    refine nz ?_
    have hcl := apC_le r h g k ms (sl r k + (i : Int)) (sl r k + (j : Int)) c
    refine wz 4 ?_
    refine iz (fun c_42 c_42' => ?_) (fun c_42 c_42' => ?_)
    ·have hcl2 : c < ms.length := by omega
     obtain ⟨mm, hmm, hml⟩ := msP_at hms hcl2
     have hak := apK_ref (h := h) (g := g) (k := k) (x := (sl r k + (i : Int))) (y := (sl r k + (j : Int))) hml
     refine wz 3 ?_
     refine sq_ev rfl (ev_less (ev_load_i jz ty3.h rfl) (Less.eq (b := I (mm : Int)) (by rw [← hmm] <;> rfl))) ?_
     refine wz 8 ?_
     refine iz (fun c_55 c_55' => ?_) (fun c_55 c_55' => ?_)
     ·have eC : apC r h g k ms (sl r k + (i : Int)) (sl r k + (j : Int)) (c + 1) = apC r h g k ms (sl r k + (i : Int)) (sl r k + (j : Int)) c := by rw [apC_succ hcl2, hmm, hak, decide_eq_false (by simpa using c_55), Bool.false_and, if_neg (by simp), Nat.add_zero]
      refine wz 3 ?_
      exact ⟨⟨c + 1, by omega⟩, by simp only; omega, Sub.slots ⟨Less.eq (by rw [eC] <;> rfl), jz, jz, jz, jz, jz, jz, jz, jz, jz, jz, trivial⟩⟩
     rw [decide_eq_true (by simpa using c_55), Bool.true_and] at hak
     refine aw_skip ?_
     refine aw_seq ?_
     have hq1 := long_bd gB hhl hml hrdi
     have hq2 := long_bd gB hgl hml hrdj
     have hs1 := sz_at gB hhl hml
     have hs2 := sz_at gB hgl hml
     have hab := apB_ref2 (r := r) (by omega) hq1 hq2
     have hmh : mm < (r.hides[h]).length := by rw [gB.hl h hhl]; exact hml
     have hmg : mm < (r.hides[g]).length := by rw [gB.hl g hgl]; exact hml
     rw [hs1, hs2] at hab
     rw [hs1] at hq1
     rw [hs2] at hq2
     have ht1 := tdiv_bd (a := max ((r.hides[h])[mm] * (sl r k + (i : Int))) ((r.hides[g])[mm] * (sl r k + (j : Int))) - r.off * 1000 + 1000 - 1) (by omega)
     have ht2 := tdiv_bd (a := min ((r.hides[h])[mm] * (sl r k + (i : Int))) ((r.hides[g])[mm] * (sl r k + (j : Int))) + r.off * 1000) (by omega)
     refine aw_drawc [] [] _ mo (by kernel_rfl) (HSub.refl _) ?_
     first | refine dc_ev rfl (ev_fieldAddr fo27_1.h jz) ?_ | refine dc_ev rfl (ev_fieldAddr_i fo27_1.h jz) ?_
     first | refine dc_ev rfl (ev_load jz rfl ty23.h rfl) ?_ | refine dc_ev rfl (ev_load_i jz ty23.h rfl) ?_
     refine dc_ev rfl (ev_mv (v := .raw _) jz) ?_
     first | refine dc_ev rfl (ev_index_map sl23.h jz jz rfl (by omega)) ?_ | refine dc_ev rfl (ev_index sl23.h jz jz rfl rfl) ?_
     first | refine dc_ev rfl (ev_load jz rfl ty28.h rfl) ?_ | refine dc_ev rfl (ev_load_i jz ty28.h rfl) ?_
     refine dc_ev rfl (ev_mv (v := .raw _) jz) ?_
     first | refine dc_ev rfl (ev_index_map sl28.h jz jz rfl (by omega)) ?_ | refine dc_ev rfl (ev_index sl28.h jz jz rfl rfl) ?_
     first | refine dc_ev rfl (ev_load jz rfl ty3.h rfl) ?_ | refine dc_ev rfl (ev_load_i jz ty3.h rfl) ?_
     refine dc_ev rfl (ev_mv (v := .raw _) jz) ?_
     refine dc_ev rfl (ev_mul jz jz (wr (by omega) (by omega))) ?_
     first | refine dc_ev rfl (ev_fieldAddr fo27_1.h jz) ?_ | refine dc_ev rfl (ev_fieldAddr_i fo27_1.h jz) ?_
     first | refine dc_ev rfl (ev_load jz rfl ty23.h rfl) ?_ | refine dc_ev rfl (ev_load_i jz ty23.h rfl) ?_
     refine dc_ev rfl (ev_mv (v := .raw _) jz) ?_
     first | refine dc_ev rfl (ev_index_map sl23.h jz jz rfl (by omega)) ?_ | refine dc_ev rfl (ev_index sl23.h jz jz rfl rfl) ?_
     first | refine dc_ev rfl (ev_load jz rfl ty28.h rfl) ?_ | refine dc_ev rfl (ev_load_i jz ty28.h rfl) ?_
     refine dc_ev rfl (ev_mv (v := .raw _) jz) ?_
     first | refine dc_ev rfl (ev_index_map sl28.h jz jz rfl (by omega)) ?_ | refine dc_ev rfl (ev_index sl28.h jz jz rfl rfl) ?_
     first | refine dc_ev rfl (ev_load jz rfl ty3.h rfl) ?_ | refine dc_ev rfl (ev_load_i jz ty3.h rfl) ?_
     refine dc_ev rfl (ev_mv (v := .raw _) jz) ?_
     refine dc_ev rfl (ev_mul jz jz (wr (by omega) (by omega))) ?_
     refine dc_ev rfl (ev_as (v := .raw _) jz) ?_
     refine dc_ev rfl (ev_as (v := .raw _) jz) ?_
     refine dc_nil ?_
     refine wz 0 ?_
     refine aw_drawc [] [] _ mo (by kernel_rfl) (HSub.refl _) ?_
     refine dc_ev rfl (ev_mv (v := .raw _) jz) ?_
     refine dc_ev rfl (ev_mv (v := .raw _) jz) ?_
     refine dc_ev rfl (ev_max2 jz jz) ?_
     first | refine dc_ev rfl (ev_fieldAddr fo27_4.h jz) ?_ | refine dc_ev rfl (ev_fieldAddr_i fo27_4.h jz) ?_
     first | refine dc_ev rfl (ev_load jz rfl ty3.h rfl) ?_ | refine dc_ev rfl (ev_load_i jz ty3.h rfl) ?_
     refine dc_ev rfl (ev_mul jz jz (wr (by omega) (by omega))) ?_
     refine dc_ev rfl (ev_sub jz jz (wr (by omega) (by omega))) ?_
     refine dc_ev rfl (ev_add jz jz (wr (by omega) (by omega))) ?_
     refine dc_ev rfl (ev_sub jz jz (wr (by omega) (by omega))) ?_
     refine dc_ev rfl (ev_quo jz jz (by decide) (wr (by omega) (by omega))) ?_
     refine dc_ev rfl (ev_mv (v := .raw _) jz) ?_
     refine dc_ev rfl (ev_mv (v := .raw _) jz) ?_
     refine dc_ev rfl (ev_min2 jz jz) ?_
     first | refine dc_ev rfl (ev_fieldAddr fo27_4.h jz) ?_ | refine dc_ev rfl (ev_fieldAddr_i fo27_4.h jz) ?_
     first | refine dc_ev rfl (ev_load jz rfl ty3.h rfl) ?_ | refine dc_ev rfl (ev_load_i jz ty3.h rfl) ?_
     refine dc_ev rfl (ev_mul jz jz (wr (by omega) (by omega))) ?_
     refine dc_ev rfl (ev_add jz jz (wr (by omega) (by omega))) ?_
     refine dc_ev rfl (ev_quo jz jz (by decide) (wr (by omega) (by omega))) ?_
     refine dc_ev rfl (ev_as (v := .raw _) jz) ?_
     refine dc_ev rfl (ev_as (v := .raw _) jz) ?_
     refine dc_nil ?_
     refine wz 7 ?_
     refine iz (fun c_100 c_100' => ?_) (fun c_100 c_100' => ?_)
     ·rw [if_pos (of_decide_eq_true c_100)] at hab
      refine wz 4 ?_
      refine iz (fun c_103 c_103' => ?_) (fun c_103 c_103' => ?_)
      ·have eC : apC r h g k ms (sl r k + (i : Int)) (sl r k + (j : Int)) (c + 1) = apC r h g k ms (sl r k + (i : Int)) (sl r k + (j : Int)) c + 1 := by rw [apC_succ hcl2, hmm, hak, hab, if_pos (by simpa using c_103)]
       refine wz 6 ?_
       exact ⟨⟨c + 1, by omega⟩, by simp only; omega, Sub.slots ⟨Less.eq (by rw [eC] <;> rfl), jz, jz, jz, jz, jz, jz, jz, jz, jz, jz, trivial⟩⟩
      have eC : apC r h g k ms (sl r k + (i : Int)) (sl r k + (j : Int)) (c + 1) = apC r h g k ms (sl r k + (i : Int)) (sl r k + (j : Int)) c := by rw [apC_succ hcl2, hmm, hak, hab, if_neg (by simpa using c_103), Nat.add_zero]
      refine wz 3 ?_
      exact ⟨⟨c + 1, by omega⟩, by simp only; omega, Sub.slots ⟨Less.eq (by rw [eC] <;> rfl), jz, jz, jz, jz, jz, jz, jz, jz, jz, jz, trivial⟩⟩
     rw [if_neg (of_decide_eq_false c_100)] at hab
     refine wz 3 ?_
     refine iz (fun c_103 c_103' => ?_) (fun c_103 c_103' => ?_)
     ·have eC : apC r h g k ms (sl r k + (i : Int)) (sl r k + (j : Int)) (c + 1) = apC r h g k ms (sl r k + (i : Int)) (sl r k + (j : Int)) c + 1 := by rw [apC_succ hcl2, hmm, hak, hab, if_pos (by simpa using c_103)]
      refine wz 6 ?_
      exact ⟨⟨c + 1, by omega⟩, by simp only; omega, Sub.slots ⟨Less.eq (by rw [eC] <;> rfl), jz, jz, jz, jz, jz, jz, jz, jz, jz, jz, trivial⟩⟩
     have eC : apC r h g k ms (sl r k + (i : Int)) (sl r k + (j : Int)) (c + 1) = apC r h g k ms (sl r k + (i : Int)) (sl r k + (j : Int)) c := by rw [apC_succ hcl2, hmm, hak, hab, if_neg (by simpa using c_103), Nat.add_zero]
     refine wz 3 ?_
     exact ⟨⟨c + 1, by omega⟩, by simp only; omega, Sub.slots ⟨Less.eq (by rw [eC] <;> rfl), jz, jz, jz, jz, jz, jz, jz, jz, jz, jz, trivial⟩⟩
    obtain rfl : c = ms.length := by omega
    have hcf : ((apC r h g k ms (sl r k + (i : Int)) (sl r k + (j : Int)) ms.length : Nat) : Int) = apN r h g k ms (sl r k + (i : Int)) (sl r k + (j : Int)) := by unfold apC apN; rw [List.take_length]
    have hsu := apI_succ (h := h) (g := g) (ms := ms) (i := i) hja (by rw [← hcf]; omega)
    rw [← hcf] at hsu
    refine wz 3 ?_
    refine sz 108 (fun g20_2 g20_2' => ?_) (fun g20_2 g20_2' => ?_)
    ·have eS : apI r h g k ms i (j + 1) = ((apC r h g k ms (sl r k + (i : Int)) (sl r k + (j : Int)) ms.length : Nat) : Int) := by rw [hsu, if_pos (.inl (by simpa using g20_2))]
     refine wz 10 ?_
     exact ⟨⟨j + 1, by omega⟩, by simp only; omega, Sub.slots ⟨Less.eq (by rw [eS] <;> rfl), (by exact less_int (show sl r k + (j : Int) + 1 = sl r k + ((j + 1 : Nat) : Int) by omega)), jz, jz, jz, jz, jz, jz, jz, trivial⟩⟩
    refine wz 4 ?_
    refine iz (fun c_112 c_112' => ?_) (fun c_112 c_112' => ?_)
    ·have eS : apI r h g k ms i (j + 1) = ((apC r h g k ms (sl r k + (i : Int)) (sl r k + (j : Int)) ms.length : Nat) : Int) := by rw [hsu, if_pos (.inr (by simpa using c_112))]
     refine wz 5 ?_
     exact ⟨⟨j + 1, by omega⟩, by simp only; omega, Sub.slots ⟨Less.eq (by rw [eS] <;> rfl), (by exact less_int (show sl r k + (j : Int) + 1 = sl r k + ((j + 1 : Nat) : Int) by omega)), jz, jz, jz, jz, jz, jz, jz, trivial⟩⟩
    have eS : apI r h g k ms i (j + 1) = apI r h g k ms i j := by rw [hsu, if_neg (by simp at g20_2 c_112; omega)]
    refine wz 3 ?_
    exact ⟨⟨j + 1, by omega⟩, by simp only; omega, Sub.slots ⟨Less.eq (by rw [eS] <;> rfl), (by exact less_int (show sl r k + (j : Int) + 1 = sl r k + ((j + 1 : Nat) : Int) by omega)), jz, jz, jz, jz, jz, jz, jz, trivial⟩⟩
   obtain rfl : j = RL r k := by omega
   have eR := apI_row (h := h) (g := g) (ms := ms) gB hk2 hia
   refine wz 3 ?_
   exact ⟨⟨i + 1, by omega⟩, by simp only; omega, Sub.slots ⟨Less.eq (by rw [eR] <;> rfl), (by exact less_int (show sl r k + (i : Int) + 1 = sl r k + ((i + 1 : Nat) : Int) by omega)), jz, jz, jz, jz, jz, jz, trivial⟩⟩
  obtain rfl : i = RL r k := by omega
  refine wz 2 ?_
  exact rz rfl (Less.eq (by rw [apI_end gB h g hk2]))
end Go.Proofs.YtjpokekbjmdgmaaGreatDoor
namespace Go.Proofs.YtjpokekbjmdgmaaGreatDoor
open Go Go.Ab Ni Hd
def twR (r : Rg) (ms : List Int) : Nat × Nat := match twinsOf r ms with | some p => p | none => (0, 0)
theorem twR_some {r : Rg} {ms : List Int} {i k : Nat} (h : twinsOf r ms = some (i, k)) : twR r ms = (i, k) ∧ enough r ms = false := by unfold twR enough; rw [h]; exact ⟨rfl, rfl⟩
theorem twR_none {r : Rg} {ms : List Int} (h : ∀ i, i < r.hides.length → pairI r ms i = none) : twR r ms = (0, 0) ∧ enough r ms = true := by
  have e : twinsOf r ms = none := by unfold twinsOf; rw [List.findSome?_eq_none_iff]; exact fun i hi => h i (List.mem_range.1 hi)
  unfold twR enough; rw [e]; exact ⟨rfl, rfl⟩
theorem rmist_pure {r : Rg} (gB : RgB r) {h g : Nat} (hhl : h < r.hides.length) (hgl : g < r.hides.length) {ms : List Int} (hms : msP r ms) (hl : ms.length ≤ 6) : APure Tryz.prog 128 [rgA r, I h, I g, ints ms] (B (mist r ms h g)) := by
  refine ap Tryz.func128 (fun e0 he0 => ?_)
  refine vz 2 ?_
  refine sq_nil ?_
  refine aw_seq ?_
  have h0 := apart_bd r h g 0 ms
  have h1 := apart_bd r h g 1 ms
  have hmd := gB.mends
  refine aw_draw 16 mo (by kernel_rfl) ?_
  refine dz 6 ?_
  refine dkz az (rapart_pure gB hhl hgl (k := 0) (by omega) hms hl) ?_
  refine dz 6 ?_
  refine dkz az (rapart_pure gB hhl hgl (k := 1) (by omega) hms hl) ?_
  refine dz 2 ?_
  refine wz 6 ?_
  exact rz rfl (Less.eq (by unfold mist; rfl))
theorem rtwins_pure {r : Rg} (gB : RgB r) {ms : List Int} (hms : msP r ms) (hl : ms.length ≤ 6) : APure Tryz.prog 69 [rgA r, ints ms] (.tup [I ((twR r ms).1 : Nat), I ((twR r ms).2 : Nat), B (!enough r ms)]) := by
  refine ap Tryz.func69 (fun e0 he0 => ?_)
  refine wz 5 ?_
  refine aw_loopk (ι := { i : Nat // i ≤ r.hides.length ∧ ∀ j, j < i → pairI r ms j = none }) [1, 2] (fun i => [(7, I i.1)]) (fun H i => H) (fun i => r.hides.length - i.1) (⟨0, Nat.zero_le _, fun j hj => by omega⟩) ⟨jz, jz, jz, trivial⟩ rfl ?_
  rintro ⟨i, hi, hno⟩
  refine nz ?_
  have hnh := gB.nh
  refine wz 5 ?_
  refine iz (fun c_13 c_13' => ?_) (fun c_13 c_13' => ?_)
  ·have hik : i < r.hides.length := by omega
   refine wz 3 ?_
   refine aw_loopk (ι := { k : Nat // (i + 1 ≤ k ∧ k ≤ r.hides.length) ∧ ∀ j, i < j → j < k → mist r ms i j = false }) [1, 2, 7] (fun u => [(8, I u.1)]) (fun H u => H) (fun u => r.hides.length - u.1) (⟨i + 1, by omega, fun j h1 h2 => by omega⟩) ⟨jz, jz, jz, jz, trivial⟩ rfl ?_
   rintro ⟨k, hk, hno1⟩
   refine nz ?_
   refine wz 5 ?_
   refine iz (fun c_22 c_22' => ?_) (fun c_22 c_22' => ?_)
   ·have hkk : k < r.hides.length := by omega
    refine wz 4 ?_
    refine kz az (rmist_pure gB hik hkk hms hl) ?_
    refine wz 0 ?_
    refine iz (fun c_29 c_29' => ?_) (fun c_29 c_29' => ?_)
    ·have hmi : mist r ms i k = true := c_29
     have htw : twinsOf r ms = some (i, k) := findSome_range hik (pairI_some (by omega) hkk hmi hno1) hno
     obtain ⟨et, ee⟩ := twR_some htw
     refine wz 5 ?_
     exact retQ_pure (v := .tup [.raw _, .raw _, .raw _]) rfl rfl (less_tup ⟨Less.eq (by rw [et] <;> rfl), Less.eq (by rw [et] <;> rfl), Less.eq (by rw [ee] <;> rfl), trivial⟩)
    have hmi : mist r ms i k = false := c_29
    refine wz 3 ?_
    exact ⟨⟨k + 1, by omega, fun j h1 h2 => by rcases Nat.lt_or_ge j k with q | q; exact hno1 j h1 q; (obtain rfl : j = k := by omega); exact hmi⟩, by simp only; omega, Sub.slots ⟨jz, jz, jz, jz, trivial⟩⟩
   obtain rfl : k = r.hides.length := by omega
   have hno2 : ∀ j, i < j → j < r.hides.length → mist r ms i j = false := hno1
   refine wz 3 ?_
   exact ⟨⟨i + 1, by omega, fun j hj => by rcases Nat.lt_or_ge j i with q | q; exact hno j q; (obtain rfl : j = i := by omega); exact pairI_none hno2⟩, by simp only; omega, Sub.slots ⟨jz, jz, jz, trivial⟩⟩
  obtain rfl : i = r.hides.length := by omega
  obtain ⟨et, ee⟩ := twR_none hno
  refine wz 3 ?_
  exact retQ_pure (v := .tup [.raw _, .raw _, .raw _]) rfl rfl (less_tup ⟨Less.eq (by rw [et] <;> rfl), Less.eq (by rw [et] <;> rfl), Less.eq (by rw [ee] <;> rfl), trivial⟩)
theorem revery_pure (r : Rg) (hk : r.kinds.length ≤ 1000000) : APure Tryz.prog 70 [rgA r] (ints (every r.kinds.length)) := by
  refine ap Tryz.func70 (fun e0 he0 => ?_)
  refine vz 4 ?_
  refine sq_nil ?_
  refine aw_block ?_
  refine aw_sub (sub_token 3 1 jz) ?_
  refine aw_loopk (ι := { k : Nat // k ≤ r.kinds.length }) [1] (fun i => [(4, I i.1), (3, .own 1 1 ((every i.1).map fun x => [I x]))]) (fun H i => H.set 1 (.tok ((every i.1).map fun x => [I x]).length)) (fun i => r.kinds.length - i.1) (⟨0, Nat.zero_le _⟩) ⟨jz, jz, jz, trivial⟩ rfl ?_
  rintro ⟨k, hk⟩
  refine nz ?_
  have hel := every_len k
  refine wz 5 ?_
  refine iz (fun c_9 c_9' => ?_) (fun c_9 c_9' => ?_)
  ·have eS : ((every (k + 1)).map fun x => [I x]) = ((every k).map fun x => [I x]) ++ [[I k]] := by rw [every_succ, List.map_append]; rfl
   refine wz 2 ?_
   refine sq_ev rfl (ev_buildSlice (es := [[_]]) sf28.h rfl rfl rfl rfl) ?_
   first | refine sq_append rfl sf28.h Tryz.underlying28 rfl rfl jz (Nat.succ_pos _) (by simp; omega) (by simp; omega) ?_ | refine sq_append rfl sf28.h Tryz.underlying28 rfl rfl (less_slx _ _) (Nat.succ_pos _) (by simp; omega) (by simp; omega) ?_
   refine wz 4 ?_
   exact ⟨⟨k + 1, by omega⟩, by simp only; omega, sb 2 ⟨jz, Less.eq (by rw [eS] <;> rfl), jz, trivial⟩ (hH := (congrArg (fun n => [_, AObj.tok n]) (congrArg List.length eS.symm)))⟩
  obtain rfl : k = r.kinds.length := by omega
  refine wz 2 ?_
  exact retQ_pure (v := .own _ _ _) rfl rfl (less_own _ _ _)
end Go.Proofs.YtjpokekbjmdgmaaGreatDoor
namespace Go.Proofs.YtjpokekbjmdgmaaGreatDoor
open Go Go.Ab Ni Hd
def frm (now : List Int) : Nat := if h : 0 < now.length then (now[now.length - 1]).toNat + 1 else 0
end Go.Proofs.YtjpokekbjmdgmaaGreatDoor
namespace Go.Proofs.YtjpokekbjmdgmaaGreatDoor
open Go Go.Ab Ni Hd
instance en67 : EnT Tryz.prog 67 := ⟨Ent.of Tryz.func67 (by kernel_rfl) rfl⟩
theorem okM_ms {r : Rg} {l : List Int} (h : okM r l = true) : msOK r.kinds.length l := by
  refine ⟨List.pairwise_iff_getElem.2 fun i j hi hj hij => ?_, okM_p h⟩
  unfold okM at h; rw [decide_eq_true_eq] at h
  have rise : ∀ d : Nat, (hd : i + d + 1 < l.length) → l[i] < l[i + d + 1] := by
    intro d
    induction d with
    | zero => intro hd; exact (h (i + 1) hd).2 (by omega)
    | succ d ih =>
      intro hd
      have h1 := ih (by omega)
      have h2 := (h (i + (d + 1) + 1) hd).2 (by omega)
      simp only [Nat.add_sub_cancel] at h2
      exact Int.lt_trans h1 h2
  have e : j = i + (j - i - 1) + 1 := by omega
  have := rise (j - i - 1) (by omega)
  simpa only [← e] using this
end Go.Proofs.YtjpokekbjmdgmaaGreatDoor
namespace Go.Proofs.YtjpokekbjmdgmaaGreatDoor
open Go Go.Ab Ni Hd
theorem ms_b {r : Rg} {mm : Int} (hs : shB r = true) {b : Bool} (h : msIn r mm = b) : APure Tryz.prog 48 [rgA r, I mm] (B b) := by have q := rmeas_pure r mm (shB_len hs).1; rw [h] at q; exact q
end Go.Proofs.YtjpokekbjmdgmaaGreatDoor
namespace Go.Proofs.YtjpokekbjmdgmaaGreatDoor
open Go Go.Ab Ni Hd
theorem rfindL_pure (r : Rg) (f : List Int) (hl : (f.length : Int) ≤ 9223372036854775807) : APure Tryz.prog 24 [rgA r, ints f] (B (fdOK r f)) := by
  refine ap Tryz.func24 (fun e0 he0 => ?_)
  refine wz 3 ?_
  refine aw_loopk (ι := { k : Nat // k ≤ f.length ∧ ∀ i, (hi : i < f.length) → i < k → inn f[i] (-1) 1000 = true }) [1, 2] (fun i => [(5, I i.1)]) (fun H i => H) (fun i => f.length - i.1) (⟨0, Nat.zero_le _, by omega⟩) ⟨jz, jz, jz, trivial⟩ rfl ?_
  rintro ⟨k, hk, hok⟩
  refine nz ?_
  refine wz 4 ?_
  refine iz (fun c_9 c_9' => ?_) (fun c_9 c_9' => ?_)
  ·have hkl : k < f.length := by omega
   refine wz 4 ?_
   refine kz az (rin_pure _ _ _) ?_
   refine wz 1 ?_
   refine iz (fun c_17 c_17' => ?_) (fun c_17 c_17' => ?_)
   ·refine wz 1 ?_
    exact rz rfl (Less.eq (by rw [fd_bad hkl (by simpa using c_17)]))
   refine wz 3 ?_
   exact ⟨⟨k + 1, by omega, fun i hi h => (by by_cases e : i = k; (subst e; simpa using c_17); exact hok i hi (by omega))⟩, by simp only; omega, Sub.slots ⟨jz, jz, jz, trivial⟩⟩
  obtain rfl : k = f.length := by omega
  have hall : (f.all fun n => inn n (-1) 1000) = true := all_of fun j hj => hok j hj hj
  refine wz 7 ?_
  exact rz rfl (Less.eq (congrArg B (by unfold fdOK; rw [hall, Bool.and_true, Bool.eq_iff_iff]; simp; omega)))
theorem find_any (r : Rg) {f : List Int} (hl : (f.length : Int) ≤ 9223372036854775807) {b : Bool} (h : fdOK r f = b) : APure Tryz.prog 24 [rgA r, ints f] (B b) := by have q := rfindL_pure r f hl; rw [h] at q; exact q
theorem slim_of {r : Rg} {f : List Int} (hr : rgOK r = true) (hd : fdOK r f = true) : f.length ≤ 1000000 := by have h1 := (rgOK_B hr).nk; have h2 := (fdOK_iff.1 hd).1; omega
theorem okM_of {r : Rg} {l : List Int} (h1 : l.Pairwise (· < ·)) (h2 : ∀ x ∈ l, ∃ m : Nat, x = m ∧ m < r.kinds.length) : okM r l = true :=
  okM_yes fun i hi => ⟨by obtain ⟨m, e, hm⟩ := h2 _ (List.getElem_mem hi); rw [msIn_iff, e]; omega, fun q => List.pairwise_iff_getElem.1 h1 (i - 1) i (by omega) hi (by omega)⟩
end Go.Proofs.YtjpokekbjmdgmaaGreatDoor
namespace Go.Proofs.YtjpokekbjmdgmaaGreatDoor
open Go Go.Ab Ni Hd
theorem enough_b {r : Rg} {l : List Int} (hs : shB r = true) (hl : l.length ≤ 1000000) (hr : rgOK r = true) (hm : okM r l = true) {b : Bool} (h : enough r l = b) : APure Tryz.prog 67 [rgA r, ints l] (.tup [B b, I 0]) := by
  have q := enough_ok (shB_len hs).1 (shB_len hs).2.1 (shB_len hs).2.2 hl (show (rgOK r && okM r l) = true by rw [hr, hm]; rfl)
  rw [h] at q; exact q
theorem tk_okM (r : Rg) (f : List Int) : okM r (tk f r.kinds.length) = true := okM_of (nums_rising _ _) fun n hn => by obtain ⟨m, hm, _, e⟩ := mem_nums.1 hn; exact ⟨m, e, hm⟩
theorem ms_okM {r : Rg} {l : List Int} (h : msOK r.kinds.length l) : okM r l = true := okM_of h.1 fun n hn => by have := h.2 n hn; exact ⟨n.toNat, by omega, by omega⟩
theorem tk_len (f : List Int) (k : Nat) : (tk f k).length ≤ k := nums_len _ _
end Go.Proofs.YtjpokekbjmdgmaaGreatDoor
namespace Go.Proofs.YtjpokekbjmdgmaaGreatDoor
open Go Go.Ab Ni Hd
@[simp] theorem inE_iset (n : Nat) (f : List Int) (m : Nat) (q : Int) : AV.inE n ((f.map fun x => [I x]).set m [I q]) = true := by
  rw [show (f.map fun x => [I x]).set m [I q] = (f.set m q).map fun x => [I x] from List.map_set.symm]
  exact inE_map fun x _ => by simp [AV.inL, AV.inB]
abbrev widR (r : Rg) (o d lo hi : Int) : Rg := ⟨r.kinds, r.hides, r.al - lo, r.ah + hi, r.bl - hi, r.bh + lo, r.off + o, r.mends + d⟩
theorem widR_wid (r : Rg) {o d lo hi : Int} (h0 : 0 ≤ o) (h1 : 0 ≤ lo) (h2 : 0 ≤ hi) : Wid r (widR r o d lo hi) := ⟨rfl, rfl, by simp only; omega, by simp only; omega, by simp only; omega⟩
theorem every_okM (r : Rg) : okM r (every r.kinds.length) = true := ms_okM (sub_ms (List.Sublist.refl _))
theorem tk_mono {r : Rg} {f : List Int} (h : enough r (tk f r.kinds.length) = true) : enough r (every r.kinds.length) = true := enough_mono (ms_sub (okM_ms (tk_okM r f))) h
theorem law19_0 {r : Rg} {f : List Int} {o d lo hi m q : Int}  (hs : shB r = false) (hl : (f.length : Int) ≤ 9223372036854775807) : APure Tryz.prog 19 [rgA r, ints f, I o, I d, I lo, I hi, I m, I q] (B true) := by
  refine ap Tryz.func19 (fun e0 he0 => ?_)
  refine wz 3 ?_
  refine kz az (short_f hs) ?_
  refine wz 59 ?_
  refine kz az (known_pure) ?_
  refine wz 1 ?_
  exact rz rfl jz
theorem law19_1 {r : Rg} {f : List Int} {o d lo hi m q : Int} (hs : shB r = true) (hr : rgOK r = false) (hl : (f.length : Int) ≤ 9223372036854775807) : APure Tryz.prog 19 [rgA r, ints f, I o, I d, I lo, I hi, I m, I q] (B true) := by
  refine ap Tryz.func19 (fun e0 he0 => ?_)
  refine wz 3 ?_
  refine kz az (short_t hs) ?_
  refine wz 3 ?_
  refine ky az (reg_f hs hr) ?_
  refine wz 55 ?_
  refine kz az (known_pure) ?_
  refine wz 1 ?_
  exact rz rfl jz
theorem law19_2 {r : Rg} {f : List Int} {o d lo hi m q : Int} (hs : shB r = true) (hr : rgOK r = true) (hd : fdOK r f = false) (hl : (f.length : Int) ≤ 9223372036854775807) : APure Tryz.prog 19 [rgA r, ints f, I o, I d, I lo, I hi, I m, I q] (B true) := by
  refine ap Tryz.func19 (fun e0 he0 => ?_)
  refine wz 3 ?_
  refine kz az (short_t hs) ?_
  refine wz 3 ?_
  refine ky az (reg_t hs hr) ?_
  refine wz 5 ?_
  refine ky az (find_any r hl hd) ?_
  refine wz 49 ?_
  refine kz az (known_pure) ?_
  refine wz 1 ?_
  exact rz rfl jz
theorem law19_3 {r : Rg} {f : List Int} {o d lo hi m q : Int} (hs : shB r = true) (hr : rgOK r = true) (hd : fdOK r f = true) (hn : ¬ ((0 ≤ o ∧ o ≤ 5) ∧ (0 ≤ d ∧ d ≤ 2) ∧ (0 ≤ lo ∧ lo ≤ 40) ∧ (0 ≤ hi ∧ hi ≤ 40))) (hl : (f.length : Int) ≤ 9223372036854775807) : APure Tryz.prog 19 [rgA r, ints f, I o, I d, I lo, I hi, I m, I q] (B true) := by
  refine ap Tryz.func19 (fun e0 he0 => ?_)
  refine wz 3 ?_
  refine kz az (short_t hs) ?_
  refine wz 3 ?_
  refine ky az (reg_t hs hr) ?_
  refine wz 5 ?_
  refine ky az (find_any r hl hd) ?_
  refine wz 7 ?_
  refine sz 50 (fun g1_18 g1_18' => ?_) (fun g1_18 g1_18' => ?_)
  ·refine wz 42 ?_
   refine kz az (known_pure) ?_
   refine wz 1 ?_
   exact rz rfl jz
  refine wz 4 ?_
  refine sz 54 (fun g1_22 g1_22' => ?_) (fun g1_22 g1_22' => ?_)
  ·refine wz 38 ?_
   refine kz az (known_pure) ?_
   refine wz 1 ?_
   exact rz rfl jz
  refine wz 4 ?_
  refine sz 58 (fun g1_26 g1_26' => ?_) (fun g1_26 g1_26' => ?_)
  ·refine wz 34 ?_
   refine kz az (known_pure) ?_
   refine wz 1 ?_
   exact rz rfl jz
  refine wz 4 ?_
  refine sz 62 (fun g1_30 g1_30' => ?_) (fun g1_30 g1_30' => ?_)
  ·refine wz 30 ?_
   refine kz az (known_pure) ?_
   refine wz 1 ?_
   exact rz rfl jz
  refine wz 4 ?_
  refine sz 66 (fun g1_34 g1_34' => ?_) (fun g1_34 g1_34' => ?_)
  ·refine wz 26 ?_
   refine kz az (known_pure) ?_
   refine wz 1 ?_
   exact rz rfl jz
  refine wz 4 ?_
  refine sz 70 (fun g1_38 g1_38' => ?_) (fun g1_38 g1_38' => ?_)
  ·refine wz 22 ?_
   refine kz az (known_pure) ?_
   refine wz 1 ?_
   exact rz rfl jz
  refine wz 4 ?_
  refine sz 74 (fun g1_42 g1_42' => ?_) (fun g1_42 g1_42' => ?_)
  ·refine wz 18 ?_
   refine kz az (known_pure) ?_
   refine wz 1 ?_
   exact rz rfl jz
  refine wz 4 ?_
  refine sz 78 (fun g1_46 g1_46' => ?_) (fun g1_46 g1_46' => ?_)
  ·refine wz 14 ?_
   refine kz az (known_pure) ?_
   refine wz 1 ?_
   exact rz rfl jz
  exfalso
  omega
theorem law19_4 {r : Rg} {f : List Int} {o d lo hi m q : Int} (hs : shB r = true) (hr : rgOK r = true) (hd : fdOK r f = true) (hn : ((0 ≤ o ∧ o ≤ 5) ∧ (0 ≤ d ∧ d ≤ 2) ∧ (0 ≤ lo ∧ lo ≤ 40) ∧ (0 ≤ hi ∧ hi ≤ 40))) (hi0 : msIn r m = false) (hl : (f.length : Int) ≤ 9223372036854775807) : APure Tryz.prog 19 [rgA r, ints f, I o, I d, I lo, I hi, I m, I q] (B true) := by
  refine ap Tryz.func19 (fun e0 he0 => ?_)
  refine wz 3 ?_
  refine kz az (short_t hs) ?_
  refine wz 3 ?_
  refine ky az (reg_t hs hr) ?_
  refine wz 5 ?_
  refine ky az (find_any r hl hd) ?_
  refine wz 7 ?_
  refine sz 50 (fun g1_18 g1_18' => ?_) (fun g1_18 g1_18' => ?_)
  ·exfalso
   omega
  refine wz 4 ?_
  refine sz 54 (fun g1_22 g1_22' => ?_) (fun g1_22 g1_22' => ?_)
  ·exfalso
   omega
  refine wz 4 ?_
  refine sz 58 (fun g1_26 g1_26' => ?_) (fun g1_26 g1_26' => ?_)
  ·exfalso
   omega
  refine wz 4 ?_
  refine sz 62 (fun g1_30 g1_30' => ?_) (fun g1_30 g1_30' => ?_)
  ·exfalso
   omega
  refine wz 4 ?_
  refine sz 66 (fun g1_34 g1_34' => ?_) (fun g1_34 g1_34' => ?_)
  ·exfalso
   omega
  refine wz 4 ?_
  refine sz 70 (fun g1_38 g1_38' => ?_) (fun g1_38 g1_38' => ?_)
  ·exfalso
   omega
  refine wz 4 ?_
  refine sz 74 (fun g1_42 g1_42' => ?_) (fun g1_42 g1_42' => ?_)
  ·exfalso
   omega
  refine wz 4 ?_
  refine sz 78 (fun g1_46 g1_46' => ?_) (fun g1_46 g1_46' => ?_)
  ·exfalso
   omega
  refine wz 2 ?_
  refine ky az (ms_b hs hi0) ?_
  refine wz 11 ?_
  refine kz az (known_pure) ?_
  refine wz 1 ?_
  exact rz rfl jz
theorem law19_5 {r : Rg} {f : List Int} {o d lo hi m q : Int} (hs : shB r = true) (hr : rgOK r = true) (hd : fdOK r f = true) (hn : ((0 ≤ o ∧ o ≤ 5) ∧ (0 ≤ d ∧ d ≤ 2) ∧ (0 ≤ lo ∧ lo ≤ 40) ∧ (0 ≤ hi ∧ hi ≤ 40))) (hi0 : msIn r m = true) (hq : ¬ (0 ≤ q ∧ q ≤ 1000)) (hl : (f.length : Int) ≤ 9223372036854775807) : APure Tryz.prog 19 [rgA r, ints f, I o, I d, I lo, I hi, I m, I q] (B true) := by
  refine ap Tryz.func19 (fun e0 he0 => ?_)
  refine wz 3 ?_
  refine kz az (short_t hs) ?_
  refine wz 3 ?_
  refine ky az (reg_t hs hr) ?_
  refine wz 5 ?_
  refine ky az (find_any r hl hd) ?_
  refine wz 7 ?_
  refine sz 50 (fun g1_18 g1_18' => ?_) (fun g1_18 g1_18' => ?_)
  ·exfalso
   omega
  refine wz 4 ?_
  refine sz 54 (fun g1_22 g1_22' => ?_) (fun g1_22 g1_22' => ?_)
  ·exfalso
   omega
  refine wz 4 ?_
  refine sz 58 (fun g1_26 g1_26' => ?_) (fun g1_26 g1_26' => ?_)
  ·exfalso
   omega
  refine wz 4 ?_
  refine sz 62 (fun g1_30 g1_30' => ?_) (fun g1_30 g1_30' => ?_)
  ·exfalso
   omega
  refine wz 4 ?_
  refine sz 66 (fun g1_34 g1_34' => ?_) (fun g1_34 g1_34' => ?_)
  ·exfalso
   omega
  refine wz 4 ?_
  refine sz 70 (fun g1_38 g1_38' => ?_) (fun g1_38 g1_38' => ?_)
  ·exfalso
   omega
  refine wz 4 ?_
  refine sz 74 (fun g1_42 g1_42' => ?_) (fun g1_42 g1_42' => ?_)
  ·exfalso
   omega
  refine wz 4 ?_
  refine sz 78 (fun g1_46 g1_46' => ?_) (fun g1_46 g1_46' => ?_)
  ·exfalso
   omega
  refine wz 2 ?_
  refine ky az (ms_b hs hi0) ?_
  refine wz 7 ?_
  refine sz 88 (fun g1_56 g1_56' => ?_) (fun g1_56 g1_56' => ?_)
  ·refine wz 4 ?_
   refine kz az (known_pure) ?_
   refine wz 1 ?_
   exact rz rfl jz
  refine wz 3 ?_
  refine iz (fun c_91 c_91' => ?_) (fun c_91 c_91' => ?_)
  ·refine wz 0 ?_
   refine kz az (known_pure) ?_
   refine wz 1 ?_
   exact rz rfl jz
  exfalso
  omega
theorem law19_m {r : Rg} {f : List Int} {o d lo hi q : Int} {m : Nat} (hs : shB r = true) (hr : rgOK r = true) (hd : fdOK r f = true) (hn : ((0 ≤ o ∧ o ≤ 5) ∧ (0 ≤ d ∧ d ≤ 2) ∧ (0 ≤ lo ∧ lo ≤ 40) ∧ (0 ≤ hi ∧ hi ≤ 40))) (hi0 : msIn r (m : Int) = true) (hm : m < r.kinds.length) (hq : 0 ≤ q ∧ q ≤ 1000) (hl : (f.length : Int) ≤ 9223372036854775807) : APure Tryz.prog 19 [rgA r, ints f, I o, I d, I lo, I hi, I m, I q] (B true) := by
  refine ap Tryz.func19 (fun e0 he0 => ?_)
  refine aw_seq ?_
  have gB := rgOK_B hr
  have hfk := (fdOK_iff.1 hd).1
  have hnk := gB.nk
  have hnh := gB.nh
  have ha := gB.a
  have hb := gB.b
  have hoff := gB.off
  have hmd := gB.mends
  refine wz 3 ?_
  refine kz az (short_t hs) ?_
  refine wz 3 ?_
  refine ky az (reg_t hs hr) ?_
  refine wz 5 ?_
  refine ky az (find_any r hl hd) ?_
  refine wz 7 ?_
  refine sz 50 (fun g1_18 g1_18' => ?_) (fun g1_18 g1_18' => ?_)
  ·exfalso
   omega
  refine wz 4 ?_
  refine sz 54 (fun g1_22 g1_22' => ?_) (fun g1_22 g1_22' => ?_)
  ·exfalso
   omega
  refine wz 4 ?_
  refine sz 58 (fun g1_26 g1_26' => ?_) (fun g1_26 g1_26' => ?_)
  ·exfalso
   omega
  refine wz 4 ?_
  refine sz 62 (fun g1_30 g1_30' => ?_) (fun g1_30 g1_30' => ?_)
  ·exfalso
   omega
  refine wz 4 ?_
  refine sz 66 (fun g1_34 g1_34' => ?_) (fun g1_34 g1_34' => ?_)
  ·exfalso
   omega
  refine wz 4 ?_
  refine sz 70 (fun g1_38 g1_38' => ?_) (fun g1_38 g1_38' => ?_)
  ·exfalso
   omega
  refine wz 4 ?_
  refine sz 74 (fun g1_42 g1_42' => ?_) (fun g1_42 g1_42' => ?_)
  ·exfalso
   omega
  refine wz 4 ?_
  refine sz 78 (fun g1_46 g1_46' => ?_) (fun g1_46 g1_46' => ?_)
  ·exfalso
   omega
  refine wz 2 ?_
  refine ky az (ms_b hs hi0) ?_
  refine wz 7 ?_
  refine sz 88 (fun g1_56 g1_56' => ?_) (fun g1_56 g1_56' => ?_)
  ·exfalso
   omega
  refine wz 3 ?_
  refine iz (fun c_91 c_91' => ?_) (fun c_91 c_91' => ?_)
  ·exfalso
   omega
  refine vz 3 ?_
  refine sq_nil ?_
  refine aw_seq ?_
  refine nz ?_
  dsimp only [List.append, List.set, List.length, List.take, List.drop, List.cons_append, List.nil_append, List.append_nil, Nat.zero_add, Nat.add_zero]
  refine aw_drawc [] [9, 11] _ mo (by kernel_rfl) (HSub.mask [1] 0 _) ?_
  first | refine dc_ev rfl (ev_fieldAddr fo27_4.h jz) ?_ | refine dc_ev rfl (ev_fieldAddr_i fo27_4.h jz) ?_
  first | refine dc_ev rfl (ev_load jz rfl ty3.h rfl) ?_ | refine dc_ev rfl (ev_load_i jz ty3.h rfl) ?_
  refine dc_ev rfl (ev_mv (v := .raw _) jz) ?_
  refine dc_ev rfl (ev_add jz jz (wr (by omega) (by omega))) ?_
  first | refine dc_ev rfl (ev_fieldAddr fo27_5.h jz) ?_ | refine dc_ev rfl (ev_fieldAddr_i fo27_5.h jz) ?_
  first | refine dc_ev rfl (ev_load jz rfl ty3.h rfl) ?_ | refine dc_ev rfl (ev_load_i jz ty3.h rfl) ?_
  refine dc_ev rfl (ev_mv (v := .raw _) jz) ?_
  refine dc_ev rfl (ev_add jz jz (wr (by omega) (by omega))) ?_
  first | refine dc_ev rfl (ev_fieldAddr fo27_4.h jz) ?_ | refine dc_ev rfl (ev_fieldAddr_i fo27_4.h jz) ?_
  refine dc_eff rfl rfl (eff_store rfl jz jz rfl rfl ty3.h rfl rfl) (by apply HL.sub; repeat' (first | exact HL.nil _ | apply HL.same | apply HL.tok)) ?_
  first | refine dc_ev rfl (ev_fieldAddr fo27_5.h jz) ?_ | refine dc_ev rfl (ev_fieldAddr_i fo27_5.h jz) ?_
  refine dc_eff rfl rfl (eff_store rfl jz jz rfl rfl ty3.h rfl rfl) (by apply HL.sub; repeat' (first | exact HL.nil _ | apply HL.same | apply HL.tok)) ?_
  refine dc_nil ?_
  refine aw_seq ?_
  refine nz ?_
  dsimp only [List.append, List.set, List.length, List.take, List.drop, List.cons_append, List.nil_append, List.append_nil, Nat.zero_add, Nat.add_zero]
  refine aw_drawc [] [23, 25] _ mo (by kernel_rfl) (HSub.mask [1] 0 _) ?_
  first | refine dc_ev rfl (ev_fieldAddr fo27_2.h jz) ?_ | refine dc_ev rfl (ev_fieldAddr_i fo27_2.h jz) ?_
  first | refine dc_ev rfl (ev_fieldAddr fo25_0.h jz) ?_ | refine dc_ev rfl (ev_fieldAddr_i fo25_0.h jz) ?_
  first | refine dc_ev rfl (ev_load jz rfl ty3.h rfl) ?_ | refine dc_ev rfl (ev_load_i jz ty3.h rfl) ?_
  refine dc_ev rfl (ev_mv (v := .raw _) jz) ?_
  refine dc_ev rfl (ev_sub jz jz (wr (by omega) (by omega))) ?_
  first | refine dc_ev rfl (ev_fieldAddr fo27_2.h jz) ?_ | refine dc_ev rfl (ev_fieldAddr_i fo27_2.h jz) ?_
  first | refine dc_ev rfl (ev_fieldAddr fo25_1.h jz) ?_ | refine dc_ev rfl (ev_fieldAddr_i fo25_1.h jz) ?_
  first | refine dc_ev rfl (ev_load jz rfl ty3.h rfl) ?_ | refine dc_ev rfl (ev_load_i jz ty3.h rfl) ?_
  refine dc_ev rfl (ev_mv (v := .raw _) jz) ?_
  refine dc_ev rfl (ev_add jz jz (wr (by omega) (by omega))) ?_
  refine dc_ev rfl (ev_call en73.h jz (kspan_pure _ _) ⟨jz, jz, trivial⟩) ?_
  first | refine dc_ev rfl (ev_fieldAddr fo27_3.h jz) ?_ | refine dc_ev rfl (ev_fieldAddr_i fo27_3.h jz) ?_
  first | refine dc_ev rfl (ev_fieldAddr fo25_0.h jz) ?_ | refine dc_ev rfl (ev_fieldAddr_i fo25_0.h jz) ?_
  first | refine dc_ev rfl (ev_load jz rfl ty3.h rfl) ?_ | refine dc_ev rfl (ev_load_i jz ty3.h rfl) ?_
  refine dc_ev rfl (ev_mv (v := .raw _) jz) ?_
  refine dc_ev rfl (ev_sub jz jz (wr (by omega) (by omega))) ?_
  first | refine dc_ev rfl (ev_fieldAddr fo27_3.h jz) ?_ | refine dc_ev rfl (ev_fieldAddr_i fo27_3.h jz) ?_
  first | refine dc_ev rfl (ev_fieldAddr fo25_1.h jz) ?_ | refine dc_ev rfl (ev_fieldAddr_i fo25_1.h jz) ?_
  first | refine dc_ev rfl (ev_load jz rfl ty3.h rfl) ?_ | refine dc_ev rfl (ev_load_i jz ty3.h rfl) ?_
  refine dc_ev rfl (ev_mv (v := .raw _) jz) ?_
  refine dc_ev rfl (ev_add jz jz (wr (by omega) (by omega))) ?_
  refine dc_ev rfl (ev_call en73.h jz (kspan_pure _ _) ⟨jz, jz, trivial⟩) ?_
  first | refine dc_ev rfl (ev_fieldAddr fo27_2.h jz) ?_ | refine dc_ev rfl (ev_fieldAddr_i fo27_2.h jz) ?_
  refine dc_eff rfl rfl (eff_store rfl jz jz rfl rfl ty25.h rfl rfl) (by apply HL.sub; repeat' (first | exact HL.nil _ | apply HL.same | apply HL.tok)) ?_
  first | refine dc_ev rfl (ev_fieldAddr fo27_3.h jz) ?_ | refine dc_ev rfl (ev_fieldAddr_i fo27_3.h jz) ?_
  refine dc_eff rfl rfl (eff_store rfl jz jz rfl rfl ty25.h rfl rfl) (by apply HL.sub; repeat' (first | exact HL.nil _ | apply HL.same | apply HL.tok)) ?_
  refine dc_nil ?_
  refine aw_seq ?_
  refine nz ?_
  dsimp only [List.append, List.set, List.length, List.take, List.drop, List.cons_append, List.nil_append, List.append_nil, Nat.zero_add, Nat.add_zero]
  refine wz 3 ?_
  refine kz az (rtaken_pure f m q (by omega) (slim_of hr hd)) ?_
  refine vz 3 ?_
  refine sq_nil ?_
  refine aw_block ?_
  refine aw_sub (sub_token 19 1 jz) ?_
  refine aw_loopk (ι := { k : Nat // k ≤ f.length }) [1, 6, 8, 17, 18] (fun i => [(20, I i.1), (19, .own 2 1 ((tk f i.1).map fun x => [I x]))]) (fun H i => H.set 2 (.tok ((tk f i.1).map fun x => [I x]).length)) (fun i => f.length - i.1) (⟨0, Nat.zero_le _⟩) ⟨jz, jz, jz, jz, jz, jz, jz, trivial⟩ rfl ?_
  rintro ⟨k, hk⟩
  refine nz ?_
  have htl := tk_len f k
  refine wz 4 ?_
  refine iz (fun c_135 c_135' => ?_) (fun c_135 c_135' => ?_)
  ·have hkl : k < f.length := by omega
   have hgd : f.getD k 0 = f[k] := getD_at hkl
   refine wz 5 ?_
   refine iz (fun c_142 c_142' => ?_) (fun c_142 c_142' => ?_)
   ·have eS : ((tk f (k + 1)).map fun x => [I x]) = ((tk f k).map fun x => [I x]) ++ [[I k]] := by unfold tk; rw [nums_succ, if_pos (by rw [hgd]; simpa using c_142), List.map_append]; rfl
    refine wz 2 ?_
    refine sq_ev rfl (ev_buildSlice (es := [[_]]) sf28.h rfl rfl rfl rfl) ?_
    first | refine sq_append rfl sf28.h Tryz.underlying28 rfl rfl jz (Nat.succ_pos _) (by simp; omega) (by simp; omega) ?_ | refine sq_append rfl sf28.h Tryz.underlying28 rfl rfl (less_slx _ _) (Nat.succ_pos _) (by simp; omega) (by simp; omega) ?_
    refine wz 4 ?_
    exact ⟨⟨k + 1, by omega⟩, by simp only; omega, sb 3 ⟨jz, Less.eq (by rw [eS] <;> rfl), jz, jz, jz, jz, jz, trivial⟩ (hH := (congrArg (fun n => [_, _, AObj.tok n]) (congrArg List.length eS.symm)))⟩
   have eS : ((tk f (k + 1)).map fun x => [I x]) = ((tk f k).map fun x => [I x]) := by unfold tk; rw [nums_succ, if_neg (by rw [hgd]; simpa using c_142)]
   refine wz 3 ?_
   exact ⟨⟨k + 1, by omega⟩, by simp only; omega, sb 3 ⟨jz, Less.eq (by rw [eS] <;> rfl), jz, jz, jz, jz, jz, trivial⟩ (hH := (congrArg (fun n => [_, _, AObj.tok n]) (congrArg List.length eS.symm)))⟩
  obtain rfl : k = f.length := by omega
  refine wz 1 ?_
  refine aw_loopk (ι := { k : Nat // k ≤ r.hides.length }) [1, 6, 8, 17, 18, 19] (fun u => [(21, I u.1)]) (fun H u => H) (fun u => r.hides.length - u.1) (⟨0, Nat.zero_le _⟩) ⟨jz, jz, jz, jz, jz, jz, jz, trivial⟩ rfl ?_
  rintro ⟨k, hk⟩
  refine nz ?_
  refine wz 5 ?_
  refine iz (fun c_151 c_151' => ?_) (fun c_151 c_151' => ?_)
  ·have hkl : k < r.hides.length := by omega
   have hok : okF r k f = true := by unfold okF; rw [hr, hd, hdIn_iff.2 (by omega)]; rfl
   have hoky : okF r k (f.set m q) = true := by unfold okF; rw [hr, fd_set hd (by omega), hdIn_iff.2 (by omega)]; rfl
   have hokx : rgOK (widR r o d lo hi) = true → okF (widR r o d lo hi) k f = true := fun z => by unfold okF; rw [z, show fdOK (widR r o d lo hi) f = true from hd, show hdIn (widR r o d lo hi) k = true from hdIn_iff.2 (by simp only; omega)]; rfl
   have hft := fews_rt gB k f
   have hfw : rgOK (widR r o d lo hi) = true → fews (widR r o d lo hi) k f ≤ fews r k f := fun z => fews_wid gB (rgOK_B z) (widR_wid r (by omega) (by omega) (by omega)) hkl f
   have hgm : f.getD m 0 = f[m] := getD_at (by omega)
   have hts : f[m] < 0 → fews r k f ≤ fews r k (f.set m q) ∧ fews r k (f.set m q) ≤ fews r k f + 1 := fun z => fews_taken gB hm hfk (by rw [hgm]; exact z)
   refine wz 3 ?_
   refine kz az (fewest_ok (shB_len hs).1 (shB_len hs).2.1 (shB_len hs).2.2 (slim_of hr hd) hok) ?_
   refine wz 12 ?_
   refine sz 167 (fun g17_6 g17_6' => ?_) (fun g17_6 g17_6' => ?_)
   ·exfalso
    omega
   refine wz 5 ?_
   refine iz (fun c_172 c_172' => ?_) (fun c_172 c_172' => ?_)
   ·exfalso
    omega
   refine wz 1 ?_
   refine kz az (register_pure (widR r o d lo hi) (shB_len hs).1 (shB_len hs).2.1 (shB_len hs).2.2) ?_
   refine wz 0 ?_
   refine iz (fun c_174 c_174' => ?_) (fun c_174 c_174' => ?_)
   ·have hfx := hfw c_174
    refine wz 3 ?_
    refine kz az (fewest_ok (r := (widR r o d lo hi)) (shB_len hs).1 (shB_len hs).2.1 (shB_len hs).2.2 (slim_of hr hd) (hokx c_174)) ?_
    refine wz 12 ?_
    refine iz (fun c_188 c_188' => ?_) (fun c_188 c_188' => ?_)
    ·exfalso
     omega
    refine wz 5 ?_
    refine iz (fun c_193 c_193' => ?_) (fun c_193 c_193' => ?_)
    ·have htx := hts (by omega)
     refine wz 3 ?_
     refine kz az (fewest_ok (shB_len hs).1 (shB_len hs).2.1 (shB_len hs).2.2 (by rw [List.length_set]; exact slim_of hr hd) hoky) ?_
     refine wz 13 ?_
     refine sz 208 (fun g25_7 g25_7' => ?_) (fun g25_7 g25_7' => ?_)
     ·exfalso
      omega
     refine wz 5 ?_
     refine iz (fun c_213 c_213' => ?_) (fun c_213 c_213' => ?_)
     ·exfalso
      omega
     refine wz 3 ?_
     exact ⟨⟨k + 1, by omega⟩, by simp only; omega, Sub.slots ⟨jz, jz, jz, jz, jz, jz, jz, trivial⟩⟩
    refine wz 3 ?_
    exact ⟨⟨k + 1, by omega⟩, by simp only; omega, Sub.slots ⟨jz, jz, jz, jz, jz, jz, jz, trivial⟩⟩
   refine wz 5 ?_
   refine iz (fun c_193 c_193' => ?_) (fun c_193 c_193' => ?_)
   ·have htx := hts (by omega)
    refine wz 3 ?_
    refine kz az (fewest_ok (shB_len hs).1 (shB_len hs).2.1 (shB_len hs).2.2 (by rw [List.length_set]; exact slim_of hr hd) hoky) ?_
    refine wz 13 ?_
    refine sz 208 (fun g25_7 g25_7' => ?_) (fun g25_7 g25_7' => ?_)
    ·exfalso
     omega
    refine wz 5 ?_
    refine iz (fun c_213 c_213' => ?_) (fun c_213 c_213' => ?_)
    ·exfalso
     omega
    refine wz 3 ?_
    exact ⟨⟨k + 1, by omega⟩, by simp only; omega, Sub.slots ⟨jz, jz, jz, jz, jz, jz, jz, trivial⟩⟩
   refine wz 3 ?_
   exact ⟨⟨k + 1, by omega⟩, by simp only; omega, Sub.slots ⟨jz, jz, jz, jz, jz, jz, jz, trivial⟩⟩
  obtain rfl : k = r.hides.length := by omega
  refine wz 2 ?_
  refine sq_ev rfl (ev_call en67.h jz (enough_b hs (by omega) hr (by rw [hfk]; exact tk_okM r f) rfl) ⟨jz, less_own _ _ _, trivial⟩) ?_
  refine wz 5 ?_
  refine aw_draw 9 mo (by kernel_rfl) ?_
  refine dz 2 ?_
  refine dkz az (revery_pure r (shB_len hs).1) ?_
  refine dkz az (enough_b hs (by rw [every_len]; omega) hr (every_okM r) rfl) ?_
  refine dz 5 ?_
  refine wz 9 ?_
  refine sz 235 (fun g29_8 g29_8' => ?_) (fun g29_8 g29_8' => ?_)
  ·refine wz 5 ?_
   refine ky az (known_pure) ?_
   refine wz 2 ?_
   exact rz rfl jz
  refine wz 5 ?_
  refine sz 240 (fun g29_13 g29_13' => ?_) (fun g29_13 g29_13' => ?_)
  ·refine ky az (known_pure) ?_
   refine wz 2 ?_
   exact rz rfl jz
  exfalso
  have hmo := tk_mono (r := r) (f := f) (by rw [← hfk]; simpa using g29_13)
  rw [hmo] at g29_8
  cases g29_8
/-- **HideMore.** -/
theorem law19 (r : Rg) (f : List Int) (hl : (f.length : Int) ≤ 9223372036854775807) (o : Int) (_ : -9223372036854775808 ≤ o) (_ : o ≤ 9223372036854775807) (d : Int) (_ : -9223372036854775808 ≤ d) (_ : d ≤ 9223372036854775807) (lo : Int) (_ : -9223372036854775808 ≤ lo) (_ : lo ≤ 9223372036854775807) (hi : Int) (_ : -9223372036854775808 ≤ hi) (_ : hi ≤ 9223372036854775807) (m : Int) (_ : -9223372036854775808 ≤ m) (_ : m ≤ 9223372036854775807) (q : Int) (_ : -9223372036854775808 ≤ q) (_ : q ≤ 9223372036854775807) : APure Tryz.prog 19 [rgA r, ints f, I o, I d, I lo, I hi, I m, I q] (B true) := by
  cases hs : shB r with
  | false => exact law19_0 hs hl
  | true =>
    cases hr : rgOK r with
    | false => exact law19_1 hs hr hl
    | true =>
      cases hd : fdOK r f with
      | false => exact law19_2 hs hr hd hl
      | true =>
        by_cases hn : ((0 ≤ o ∧ o ≤ 5) ∧ (0 ≤ d ∧ d ≤ 2) ∧ (0 ≤ lo ∧ lo ≤ 40) ∧ (0 ≤ hi ∧ hi ≤ 40))
        · cases hi0 : msIn r m with
          | false => exact law19_4 hs hr hd hn hi0 hl
          | true =>
            by_cases hq : 0 ≤ q ∧ q ≤ 1000
            · have hio := msIn_iff.1 hi0
              obtain ⟨m, rfl⟩ : ∃ k : Nat, m = (k : Int) := ⟨m.toNat, by omega⟩
              exact law19_m hs hr hd hn hi0 (by omega) hq hl
            · exact law19_5 hs hr hd hn hi0 hq hl
        · exact law19_3 hs hr hd hn hl
end Go.Proofs.YtjpokekbjmdgmaaGreatDoor
