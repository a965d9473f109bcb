/-
  A part of the proof: conditions: none beyond each theorem's own.
-/
import Derived.Test.YtfmpabgblbbcdaaGreatDoorLogicA
import Derived.Test.YtfmpabgblbbcdaaGreatDoorLogicD
import Derived.Laws.Small
import Derived.Test.YtfmpabgblbbcdaaGreatDoorLogicC
import Derived.Deep.Slices
import Derived.OpenShut
import Derived.Carry
import Derived.IntWalk
import Derived.Test.YtfmpabgblbbcdaaGreatDoorSpecA
import Derived.Test.YtfmpabgblbbcdaaGreatDoorProg
import Derived.KernelRfl
import Derived.Lib.LaidTab
import Derived.Lib.ItoaNum
import Derived.Test.YtfmpabgblbbcdaaGreatDoorWalkB
import Derived.Test.YtfmpabgblbbcdaaGreatDoorWalkC
import Derived.Test.YtfmpabgblbbcdaaGreatDoorWalkG
import Derived.Laws.IdiomStrings
import Derived.Laws.IdiomCopy
import Derived.Test.YtfmpabgblbbcdaaGreatDoorLogicB
import Derived.Test.YtfmpabgblbbcdaaGreatDoorLogicE
import Derived.Test.YtfmpabgblbbcdaaGreatDoorShelf
import Derived.Test.YtfmpabgblbbcdaaGreatDoorWalkA
import Derived.Test.YtfmpabgblbbcdaaGreatDoorWalkD
import Derived.Test.YtfmpabgblbbcdaaGreatDoorWalkE
import Derived.Test.YtfmpabgblbbcdaaGreatDoorWalkF
import Derived.Test.YtfmpabgblbbcdaaGreatDoorRow
set_option linter.all false
set_option maxRecDepth 100000
set_option maxHeartbeats 8000000
namespace Go.Ab
variable [Tabs]
theorem FW_room (r : Option Nat) (n : Nat) : (FW r).room n := fun _ h => by simp [FW] at h
variable {c : Ctx} {Q : AExit → St → Prop} {s : St}
end Go.Ab
namespace Go.Ab
variable [Tabs]
section
variable {P : Program} {r : Option Nat} {H : List AObj} {ρ : Operand → AV}
variable {d : Option Tmp} {t : TypeId} {p : String} {af : Array Edge} {g : Option (Nat × Bool)} {x y : Operand}
theorem ev_neqB {a b : Bool} {xt yt : TypeId} (ht : P.underlying xt = some .bool) (hx : Less (ρ x) (.raw (.bool a))) (hy : Less (ρ y) (.raw (.bool b))) :
    Ev P r ⟨d, .binOp .neq xt x y yt, t, p, af, g⟩ H ρ (.raw (.bool (!(a == b)))) :=
  ev_bool2 hx hy fun w e => ⟨_, run_neq_bool w xt a b ht, by rw [Rep]⟩
end
end Go.Ab
namespace Go.Ab
open Go.ChangeShapes Go.WideShapes
variable [Tabs]
theorem env0_ok {w : World} (h : Tabs.is w) (hb : ∀ b, Tabs.blk b → b < w.heap.size) : EnvOK (env0 w) :=
  ⟨fun b hb => by have hb' : w.heap.size ≤ b := hb
                  have : w.heap[b]? = none := by simpa using hb'
                  simp [env0, this], fun i o h => by simp [env0] at h, fun i j b hi => by simp [env0] at hi, fun i b hi => by simp [env0] at hi, h, fun b hk => ⟨hb b hk, fun i hi => by simp [env0] at hi⟩⟩
section
variable {H : Type} {enc : TypeId × Value → H} {P : Program} {w : World} {base : Nat} {spare : Nat → Bool} {held : Bool}
theorem trodAll_stays (hl : laidOutB P = true) {W W' : World} (hheap : ∀ b, b < W.heap.size → W'.heap[b]? = W.heap[b]?) {sp' : Nat → Bool} :
    ∀ {ts : List TypeId} {vs : List Value} {ds : List (DataW H)} {ps : List MemPlace}, (∀ t ∈ ts, P.readableRec t = true ∧ t < P.types.size) → DataW.TrodAll enc P W base (fun _ => true) true ts vs ds ps → (∀ p ∈ ps, p.block < W.heap.size) → (∀ p ∈ ps, sp' p.block = true) →
      DataW.TrodAll enc P W' base sp' true ts vs ds ps
  | [], _, _, _, _, h, _, _ => by
    obtain ⟨rfl, rfl, rfl⟩ := trodAll_nil h
    exact trodAll_mk0
  | t :: ts, _, _, _, ht, h, hlt, hs => by
    obtain ⟨v, vs1, d, ds1, a, b, rfl, rfl, rfl, h1, h2⟩ := trodAll_cons h
    refine trodAll_cons_mk (WideElems.Trod_stays hl (ht t (by simp)).1 (ht t (by simp)).2 h1 (fun p hp => ?_) (fun p hp => hs p (by simp [hp]))) (trodAll_stays hl hheap (fun u hu => ht u (List.mem_cons_of_mem _ hu)) h2 (fun p hp => hlt p (by simp [hp])) (fun p hp => hs p (by simp [hp])))
    have hb := hheap p.block (hlt p (by simp [hp]))
    cases p with
    | cell b o => exact cell?_of_heap hb
    | map b => exact hb
/-- **What a law's row asks of a call that returns true and leaves what it met.** -/
theorem post_true {f : Func} {s : ChangeSpec} {W W' : World} {args : Array Value} {ds gs : List (DataW H)} {before : List MemPlace} {tb : TypeId} (hl : laidOutB P = true) (hread : ∀ t ∈ f.params.toList, P.readableRec t = true ∧ t < P.types.size)
    (hres : f.resultTypes = #[tb]) (htb : P.underlying tb = some .bool) (hvars : s.vars = []) (hspec : (s.fn H ds).results = [.lit (.bool true)] ∧ (s.fn H ds).args = ds ∧ (s.fn H ds).vars = [])
    (hW : DataW.Whole enc P f.params.toList s.vars false W args.toList ds gs before) (hheap : ∀ b, b < W.heap.size → W'.heap[b]? = W.heap[b]?) (hst : Still W W') :
    s.post enc P f false true false false W args (.bool true) W' := by
  have hlt := hW.lt
  have hW0 := hW
  obtain ⟨p, q, h1, h2, rfl, _, _⟩ := hW
  rw [hvars] at h2
  obtain ⟨rfl, rfl⟩ := trodVars_none h2
  simp only [List.append_nil] at hlt
  obtain ⟨e1, e2, e3⟩ := hspec
  refine ⟨ds, [], p ++ [], [], p, [], hW0, ?_, ?_, ?_, ?_, fun h => by cases h⟩
  · rw [List.append_nil, e1, hres]
    exact trodAll_cons_mk (RowKit.shut_bool htb _) trodAll_mk0
  · rw [List.append_nil, e2]
    exact trodAll_stays hl hheap hread h1 hlt (fun p hp => by simpa using hlt p hp)
  · rw [List.append_nil, e3, hvars]; rfl
  · refine ⟨hst.1, hst.2, fun i hi => ?_⟩
    rw [hheap i hi]
    split <;> simp_all
theorem APure.law {f : FuncId} {args : List AV} {W : World} {vs : Array Value} (hc : APure P f args (.raw (.bool true))) (ht : Tabs.is W) (hb : ∀ b, Tabs.blk b → b < W.heap.size) (hr : RepL (env0 W) args vs.toList) :
    Calls P f vs W fun x W' => x = .returned (.bool true) ∧ (∀ b, b < W.heap.size → W'.heap[b]? = W.heap[b]?) ∧ Still W W' := by
  refine ((hc (env0 W) vs (env0_ok ht hb) hr).calls (fun k => FW_room none k)).mono ?_
  rintro x w' ⟨u, e', rfl, rfl, hx, hu⟩
  rw [Rep] at hu; subst hu
  exact ⟨rfl, hx.heap, hx.still⟩
end
end Go.Ab
namespace Go.Ab
variable [Tabs]
section seq
variable {c : Ctx} {ops : Array Oper} {Q : AExit → St → Prop} {rest : List Oper} {s : St} {i : Nat}
variable {d : Option Tmp} {op : Op} {t : TypeId} {p : String} {af : Array Edge}
end seq
section cond
variable {c : Ctx} {Q : AExit → St → Prop} {s : St} {x : Operand} {y z : Code}
end cond
section split
variable {c : Ctx} {ops : Array Oper} {Q : AExit → St → Prop} {s : St} {i : Nat} {l : List Oper}
end split
section draw
variable {c : Ctx} {H0 : List AObj} {ops : Array Oper} {Q : AExit → St → Prop} {m i : Nat} {s : St} {rest : List Oper}
variable {d : Option Tmp} {op : Op} {t : TypeId} {p : String} {af : Array Edge}
end draw
section ex
variable {c : Ctx} {Q : AExit → St → Prop} {K : St → Prop} {s : St} {id j : Nat}
end ex
section app
variable {c : Ctx} {ops : Array Oper} {Q : AExit → St → Prop} {s : St} {i : Nat} {o : Oper} {l m : List Oper} {H0 : List AObj} {k : Nat}
theorem da (h : DR c H0 ops Q k i (o :: List.append l m) s) : DR c H0 ops Q k i (List.append (o :: l) m) s := h
end app
end Go.Ab
namespace Hd
open Ni (inn)
def chg (off long x : Int) : Bool := decide (0 ≤ x) && !inn x (lo off long) (hi off long)
end Hd
namespace Hd
open Ni (inn)
def lex : List Int → List Int → Bool
  | [], [] => false
  | [], _ :: _ => true
  | _ :: _, [] => false
  | x :: a, y :: b => if x = y then lex a b else decide (x < y)
section best
variable {α : Type} (c : α → List Int)
end best
end Hd
namespace Hd
open Ni (inn)
theorem mnL_le {l : List Int} {x : Int} (h : x ∈ l) : mnL l ≤ x := by
  cases l with
  | nil => cases h
  | cons y l =>
    obtain ⟨h1, h2, _⟩ := fmin_spec l y
    rcases List.mem_cons.1 h with rfl | h
    · exact h1
    · exact h2 x h
end Hd
namespace Hd
open Ni (inn)
def befB : List Int → List Int → Bool
  | x :: a, y :: b => if x = y then befB a b else decide (x < y)
  | _, _ => false
end Hd
namespace St
open Ni (inn)
open Hd (every getD_at mem_every)
def plIn (p : Ply) (n : Int) : Bool := inn n 0 (p.hts.length - 1)
end St
namespace St
open Ni (inn)
open Hd (every getD_at mem_every lex every_rising)
theorem dfs_pre {ok : List Int → Bool} {n k : Nat} {now l : List Int} (h : l ∈ dfs ok n k now) : l.take now.length = now := (mem_dfs.1 h).2.1
theorem lex_app (l a b : List Int) : lex (l ++ a) (l ++ b) = lex a b := by
  induction l with
  | nil => rfl
  | cons x l ih => simp [lex, ih]
theorem lex_lt {a b : List Int} {x y : Int} (h : x < y) : lex (x :: a) (y :: b) = true := by unfold lex; rw [if_neg (by omega)]; exact decide_eq_true h
theorem dfs_lex {ok : List Int → Bool} {n : Nat} : ∀ (k : Nat) (now : List Int), (dfs ok n k now).Pairwise fun a b => lex a b = true
  | 0, now => by unfold dfs; exact List.pairwise_singleton _ _
  | k + 1, now => by
    unfold dfs
    rw [List.pairwise_flatMap]
    refine ⟨fun a _ => by split; exact dfs_lex k _; exact List.Pairwise.nil, ?_⟩
    refine (every_rising n).imp fun {a b} hab x hx y hy => ?_
    split at hx
    · split at hy
      · have e1 := dfs_pre hx
        have e2 := dfs_pre hy
        rw [← List.take_append_drop (now ++ [a]).length x, e1, ← List.take_append_drop (now ++ [b]).length y, e2, List.append_assoc, List.append_assoc, lex_app]
        exact lex_lt hab
      · simp at hy
    · simp at hx
theorem arr_lex (b : Bool) (p : Ply) (x : Scn) : (arr b p x).Pairwise fun a b => lex a b = true := dfs_lex _ _
def stands (p : Ply) (x : Scn) (l : List Int) : Bool := decide (∀ i, i < l.length → ¬ (l.getD i 0 ∈ l.take i ∨ l.getD i 0 ∈ x.taken ∨ ((rf p x i).side = 1 ∧ p.left ≤ l.getD i 0) ∨ ((rf p x i).side = 2 ∧ l.getD i 0 < p.left)))
def ranks (p : Ply) (x : Scn) (l : List Int) : Bool := decide (∀ i, i < l.length → ht p (l.getD i 0) ≤ (rf p x i).rank ∧ ∀ k, k < l.length → clash p x l i k = false)
theorem rf_B {p : Ply} (B : PlB p) {x : Scn} (X : ScB p x) {i : Nat} (hi : i < x.rest.length) : (1 ≤ (rf p x i).side ∧ (rf p x i).side ≤ 3) ∧ (1 ≤ (rf p x i).rank ∧ (rf p x i).rank ≤ 9) := by
  have h := (rising_iff.1 X.rs).2 x.rest[i] (List.getElem_mem hi)
  unfold rf; rw [getD_at hi]
  exact ⟨(fg_B B h.1 h.2).1, (fg_B B h.1 h.2).2.1⟩
theorem plc_stands {p : Ply} (B : PlB p) {x : Scn} (X : ScB p x) {l : List Int} {i : Nat} (hi : i < x.rest.length) :
    plc p x l i = true ↔ ¬ (l.getD i 0 ∈ l.take i ∨ l.getD i 0 ∈ x.taken ∨ ((rf p x i).side = 1 ∧ p.left ≤ l.getD i 0) ∨ ((rf p x i).side = 2 ∧ l.getD i 0 < p.left)) := by
  have hb := (rf_B B X hi).1
  unfold plc lf
  rw [Bool.and_eq_true, Bool.not_eq_true', decide_eq_false_iff_not, Bool.or_eq_true, decide_eq_true_eq, beq_iff_eq, decide_eq_decide]
  constructor
  · rintro ⟨h1, h2⟩ h3
    rcases h3 with h3 | h3 | h3 | h3
    · exact h1 (.inr h3)
    · exact h1 (.inl h3)
    · rcases h2 with h2 | h2 <;> omega
    · rcases h2 with h2 | h2 <;> omega
  · intro h
    refine ⟨fun q => h (by rcases q with q | q; exact .inr (.inl q); exact .inl q), ?_⟩
    have h3 : ¬ ((rf p x i).side = 1 ∧ p.left ≤ l.getD i 0) := fun q => h (.inr (.inr (.inl q)))
    have h4 : ¬ ((rf p x i).side = 2 ∧ l.getD i 0 < p.left) := fun q => h (.inr (.inr (.inr q)))
    omega
theorem clash_self (p : Ply) (x : Scn) (l : List Int) (i : Nat) : clash p x l i i = false := by unfold clash; simp
theorem suits_stands {p : Ply} (B : PlB p) {x : Scn} (X : ScB p x) {l : List Int} (hl : l.length = x.rest.length) : suits false p x l = stands p x l := by
  unfold suits stands
  rw [decide_eq_decide]
  refine forall_congr' fun i => forall_congr' fun hi => ?_
  unfold okI; rw [← plc_stands B X (by omega)]; simp
theorem suits_ranks {p : Ply} (B : PlB p) {x : Scn} (X : ScB p x) {l : List Int} (hl : l.length = x.rest.length) : suits true p x l = (ranks p x l && stands p x l) := by
  rw [← suits_stands B X hl]
  unfold suits ranks
  rw [Bool.eq_iff_iff, Bool.and_eq_true, decide_eq_true_eq, decide_eq_true_eq, decide_eq_true_eq]
  unfold okI low rkd
  simp only [Bool.and_eq_true, Bool.or_eq_true, decide_eq_true_eq, Bool.not_true, Bool.not_false, true_or, and_true, Bool.false_eq_true, false_or]
  constructor
  · intro h
    refine ⟨fun i hi => ⟨(h i hi).2.1, fun k hk => ?_⟩, fun i hi => (h i hi).1⟩
    rcases Nat.lt_trichotomy i k with q | q | q
    · exact ((h k hk).2.2 i q).1
    · subst q; exact clash_self _ _ _ _
    · exact ((h i hi).2.2 k q).2
  · rintro ⟨h1, h2⟩ i hi
    exact ⟨h2 i hi, (h1 i hi).1, fun j hj => ⟨(h1 j (by omega)).2 i hi, (h1 i hi).2 j (by omega)⟩⟩
end St
namespace St
open Hd (mnL mnL_le mnL_mem)
section path
variable {α : Type} (A : Nat → List α) (s : Nat → α → α → Int)
def cost : Nat → List α → Int
  | n, a :: b :: r => s n a b + cost (n + 1) (b :: r)
  | _, _ => 0
def valid : Nat → List α → Prop
  | _, [] => True
  | n, a :: r => a ∈ A n ∧ valid (n + 1) r
variable {A s}
theorem lef_le : ∀ {d n : Nat} {a : α} {r : List α}, r.length = d → valid A (n + 1) r → lefF A s d n a ≤ cost s n (a :: r)
  | 0, n, a, [], _, _ => by simp [lefF, cost]
  | d + 1, n, a, b :: r, hl, hv => by
    have ih := lef_le (d := d) (n := n + 1) (a := b) (r := r) (by simpa using hl) hv.2
    have h1 : mnL ((A (n + 1)).map fun b => lefF A s d (n + 1) b + s n a b) ≤ lefF A s d (n + 1) b + s n a b := mnL_le (List.mem_map.2 ⟨b, hv.1, rfl⟩)
    simp only [lefF, cost]; omega
theorem lef_is (hA : ∀ n, A n ≠ []) : ∀ (d n : Nat) (a : α), ∃ r, r.length = d ∧ valid A (n + 1) r ∧ cost s n (a :: r) = lefF A s d n a
  | 0, n, a => ⟨[], rfl, trivial, by simp [lefF, cost]⟩
  | d + 1, n, a => by
    have h1 := mnL_mem (l := (A (n + 1)).map fun b => lefF A s d (n + 1) b + s n a b) (by simpa using List.length_pos_iff.2 (hA (n + 1)))
    obtain ⟨b, hb, e⟩ := List.mem_map.1 h1
    obtain ⟨r, h2, h3, h4⟩ := lef_is hA d (n + 1) b
    exact ⟨b :: r, by simp [h2], ⟨hb, h3⟩, by simp only [lefF, cost]; omega⟩
theorem valid_app : ∀ {n : Nat} {l m : List α}, valid A n (l ++ m) ↔ valid A n l ∧ valid A (n + l.length) m
  | n, [], m => by simp [valid]
  | n, a :: l, m => by
    simp only [List.cons_append, valid, List.length_cons, valid_app (n := n + 1) (l := l), and_assoc]
    rw [show n + 1 + l.length = n + (l.length + 1) by omega]
theorem cost_app : ∀ {n : Nat} {l : List α} {a : α} {m : List α}, cost s n (l ++ a :: m) = cost s n (l ++ [a]) + cost s (n + l.length) (a :: m)
  | n, [], a, m => by simp [cost]
  | n, [b], a, m => by simp [cost]
  | n, b :: c :: l, a, m => by
    have ih := cost_app (n := n + 1) (l := c :: l) (a := a) (m := m)
    simp only [List.cons_append, cost, List.length_cons] at ih ⊢
    rw [ih, show n + 1 + (l.length + 1) = n + (l.length + 1 + 1) by omega]; omega
theorem bef_le : ∀ {n : Nat} {l : List α} {a : α}, l.length = n → valid A 0 l → befF A s n a ≤ cost s 0 (l ++ [a])
  | 0, [], a, _, _ => by simp [befF, cost]
  | n + 1, l, a, hl, hv => by
    obtain ⟨l', b, rfl⟩ : ∃ l' b, l = l' ++ [b] := ⟨l.dropLast, l.getLast (by intro h; simp [h] at hl), (List.dropLast_concat_getLast _).symm⟩
    have hl' : l'.length = n := by simpa using hl
    have hv' := valid_app.1 hv
    have ih := bef_le (n := n) (l := l') (a := b) hl' hv'.1
    have hb : b ∈ A n := by have := hv'.2.1; rwa [Nat.zero_add, hl'] at this
    have h1 : mnL ((A n).map fun c => befF A s n c + s n c a) ≤ befF A s n b + s n b a := mnL_le (List.mem_map.2 ⟨b, hb, rfl⟩)
    have e := cost_app (s := s) (n := 0) (l := l') (a := b) (m := [a])
    simp only [cost, Nat.zero_add, hl', Int.add_zero] at e
    rw [List.append_assoc, List.singleton_append, e]
    simp only [befF]; omega
theorem bef_is (hA : ∀ n, A n ≠ []) : ∀ (n : Nat) (a : α), ∃ l, l.length = n ∧ valid A 0 l ∧ cost s 0 (l ++ [a]) = befF A s n a
  | 0, a => ⟨[], rfl, trivial, by simp [befF, cost]⟩
  | n + 1, a => by
    have h1 := mnL_mem (l := (A n).map fun c => befF A s n c + s n c a) (by simpa using List.length_pos_iff.2 (hA n))
    obtain ⟨b, hb, e⟩ := List.mem_map.1 h1
    obtain ⟨l, h2, h3, h4⟩ := bef_is hA n b
    refine ⟨l ++ [b], by simp [h2], valid_app.2 ⟨h3, ⟨by rwa [Nat.zero_add, h2], trivial⟩⟩, ?_⟩
    have e2 := cost_app (s := s) (n := 0) (l := l) (a := b) (m := [a])
    simp only [cost, Nat.zero_add, h2, Int.add_zero] at e2
    rw [List.append_assoc, List.singleton_append, e2]
    simp only [befF]; omega
def opt (A : Nat → List α) (s : Nat → α → α → Int) (last : Nat) : Int := mnL ((A 0).map (lefF A s last 0))
theorem opt_le {last : Nat} {l : List α} (hl : l.length = last + 1) (hv : valid A 0 l) : opt A s last ≤ cost s 0 l := by
  cases l with
  | nil => simp at hl
  | cons a r =>
    have h1 := lef_le (s := s) (d := last) (n := 0) (a := a) (r := r) (by simpa using hl) hv.2
    have h2 : opt A s last ≤ lefF A s last 0 a := mnL_le (List.mem_map.2 ⟨a, hv.1, rfl⟩)
    omega
theorem opt_is (hA : ∀ n, A n ≠ []) (last : Nat) : ∃ l, l.length = last + 1 ∧ valid A 0 l ∧ cost s 0 l = opt A s last := by
  have h1 := mnL_mem (l := (A 0).map (lefF A s last 0)) (by simpa using List.length_pos_iff.2 (hA 0))
  obtain ⟨a, ha, e⟩ := List.mem_map.1 h1
  obtain ⟨r, h2, h3, h4⟩ := lef_is (s := s) hA last 0 a
  exact ⟨a :: r, by simp [h2], ⟨ha, h3⟩, by rw [h4, e]; rfl⟩
def thru (A : Nat → List α) (s : Nat → α → α → Int) (last n : Nat) (a : α) : Int := befF A s n a + lefF A s (last - n) n a
theorem thru_le {last n : Nat} (hn : n ≤ last) {l : List α} (hl : l.length = last + 1) (hv : valid A 0 l) : thru A s last n (l[n]'(by omega)) ≤ cost s 0 l := by
  have e : l = l.take n ++ l[n]'(by omega) :: l.drop (n + 1) := by rw [← List.drop_eq_getElem_cons, List.take_append_drop]
  have hlt : (l.take n).length = n := by rw [List.length_take]; omega
  have hv' := hv
  rw [e] at hv'
  have hv2 := valid_app.1 hv'
  have h1 := bef_le (s := s) (n := n) (a := l[n]'(by omega)) hlt hv2.1
  have h2 := lef_le (s := s) (d := last - n) (n := n) (a := l[n]'(by omega)) (r := l.drop (n + 1)) (by rw [List.length_drop]; omega) (by have := hv2.2.2; rwa [Nat.zero_add, hlt] at this)
  have h3 := cost_app (s := s) (n := 0) (l := l.take n) (a := l[n]'(by omega)) (m := l.drop (n + 1))
  rw [← e, Nat.zero_add, hlt] at h3
  unfold thru; omega
theorem thru_is (hA : ∀ n, A n ≠ []) {last n : Nat} (hn : n ≤ last) {a : α} (ha : a ∈ A n) : ∃ l : List α, ∃ hl : l.length = last + 1, valid A 0 l ∧ l[n]'(by omega) = a ∧ cost s 0 l = thru A s last n a := by
  obtain ⟨l, h1, h2, h3⟩ := bef_is (s := s) hA n a
  obtain ⟨r, h4, h5, h6⟩ := lef_is (s := s) hA (last - n) n a
  have h7 := cost_app (s := s) (n := 0) (l := l) (a := a) (m := r)
  refine ⟨l ++ a :: r, by simp; omega, valid_app.2 ⟨h2, by rw [Nat.zero_add, h1]; exact ⟨ha, h5⟩⟩, ?_, ?_⟩
  · rw [List.getElem_append_right (by omega)]; simp [h1]
  · rw [h7, h3, Nat.zero_add, h1, h6]; rfl
theorem opt_thru (hA : ∀ n, A n ≠ []) {last n : Nat} (hn : n ≤ last) : mnL ((A n).map (thru A s last n)) = opt A s last := by
  have hne : 0 < ((A n).map (thru A s last n)).length := by simpa using List.length_pos_iff.2 (hA n)
  apply Int.le_antisymm
  · obtain ⟨l, h1, h2, h3⟩ := opt_is (s := s) hA last
    have h4 := thru_le (s := s) hn h1 h2
    have hm : l[n]'(by omega) ∈ A n := by
      have e : l = l.take n ++ l[n]'(by omega) :: l.drop (n + 1) := by rw [← List.drop_eq_getElem_cons, List.take_append_drop]
      rw [e] at h2
      have := (valid_app.1 h2).2.1
      rwa [Nat.zero_add, List.length_take, Nat.min_eq_left (by omega)] at this
    have h5 : mnL ((A n).map (thru A s last n)) ≤ thru A s last n (l[n]'(by omega)) := mnL_le (List.mem_map.2 ⟨_, hm, rfl⟩)
    omega
  · obtain ⟨a, ha, e⟩ := List.mem_map.1 (mnL_mem hne)
    obtain ⟨l, h1, h2, _, h3⟩ := thru_is (s := s) hA hn ha
    have := opt_le (s := s) h1 h2
    omega
theorem valid_get {n : Nat} {l : List α} (h : valid A n l) {i : Nat} (hi : i < l.length) : l[i] ∈ A (n + i) := by
  have e : l = l.take i ++ l[i] :: l.drop (i + 1) := by rw [← List.drop_eq_getElem_cons, List.take_append_drop]
  rw [e] at h
  have := (valid_app.1 h).2.1
  rwa [List.length_take, Nat.min_eq_left (by omega)] at this
end path
end St
namespace Go.Proofs.YtfmpabgblbbcdaaGreatDoor
open Go Go.Ab Ni St
open Hd hiding sz
abbrev C (c : UInt8) : AV := .raw (.int .u8 c.toNat)
theorem rin_pure (n lo hi : Int) : APure Tryz.prog 77 [I n, I lo, I hi] (B (inn n lo hi)) := by
  refine ap Tryz.func77 (fun e0 he0 => ?_)
  refine wz 5 ?_
  refine sz 10 (fun g1 g1' => ?_) (fun g1 g1' => ?_)
  ·refine wz 5 ?_
   exact rz rfl (Less.eq (by simp [inn, *]))
  refine wz 5 ?_
  exact rz rfl (Less.eq (by simp [inn, *]))
end Go.Proofs.YtfmpabgblbbcdaaGreatDoor
namespace Go.Proofs.YtfmpabgblbbcdaaGreatDoor
open Go Go.Ab Ni St
open Hd hiding sz
def plsOK (p : Ply) (x : Scn) (l : List Int) : Bool := decide (l.length = x.rest.length) && !l.any fun n => !inn n 0 (p.hts.length - 1)
theorem plsOK_iff {p : Ply} {x : Scn} {l : List Int} : plsOK p x l = true ↔ l.length = x.rest.length ∧ ∀ a ∈ l, 0 ≤ a ∧ a < p.hts.length := by
  unfold plsOK inn
  rw [Bool.and_eq_true, decide_eq_true_eq, Bool.not_eq_true', List.any_eq_false]
  simp only [Bool.not_eq_true', Bool.not_eq_false, decide_eq_false_iff_not, Decidable.not_not, Bool.not_eq_true]
  exact ⟨fun h => ⟨h.1, fun a ha => by have := h.2 a ha; simp at this; omega⟩, fun h => ⟨h.1, fun a ha => by have := h.2 a ha; simp; omega⟩⟩
theorem suits_no {b : Bool} {p : Ply} {x : Scn} {l : List Int} {k : Nat} (hkl : k < l.length) (h : okL b p x (l.take (k + 1)) = false) : suits b p x l = false := by
  rw [okL_take hkl] at h
  unfold suits; rw [decide_eq_false_iff_not]; intro q; rw [q k hkl] at h; cases h
theorem arepl1_pure (p : Ply) (x : Scn) (n : Int) (hh : p.hts.length ≤ 1000000) : APure Tryz.prog 160 [I n, .iptr (stC p x)] (B (!inn n 0 (p.hts.length - 1))) := by
  refine ap Tryz.func160 (fun e0 he0 => ?_)
  refine wz 7 ?_
  refine kz az (in_pure _ _ _) ?_
  refine wz 2 ?_
  exact rz rfl jz
theorem arepl_pure (p : Ply) (x : Scn) (l : List Int) (hl : l.length ≤ 1000000) (hh : p.hts.length ≤ 1000000) (hr : x.rest.length ≤ 1000000) : APure Tryz.prog 119 [stA p x, ints l] (B (plsOK p x l)) := by
  refine ap Tryz.func119 (fun e0 he0 => ?_)
  refine vz 2 ?_
  refine sq_nil ?_
  refine aw_seq ?_
  refine aw_sub (sub_iptrK [1, 4] 2 (j := 0) (l := stC p x) rfl rfl) ?_
  refine wz 8 ?_
  refine sz 12 (fun g1_7 g1_7' => ?_) (fun g1_7 g1_7' => ?_)
  ·have hlr : l.length = x.rest.length := by omega
   refine wz 2 ?_
   refine sq_yes rfl rfl (less_b g1_7) rfl (ev_call en130.h jz (intF_any (cap := [.iptr (stC p x)]) (q := fun n => !inn n 0 (p.hts.length - 1)) l hl en160.h (fun i hi => arepl1_pure p x _ hh) (by simp [AV.pureL, AV.pureB])) ⟨jz, jz, trivial⟩) ?_
   refine wz 3 ?_
   exact rz rfl (Less.eq (congrArg B (by unfold plsOK; simp [hlr])))
  have hlr : ¬ l.length = x.rest.length := by omega
  refine wz 6 ?_
  exact rz rfl (Less.eq (congrArg B (by unfold plsOK; simp [hlr])))
theorem rests_pure {p : Ply} (gP : PlB p) {x : Scn} (gX : ScB p x) {l : List Int} (hl : l.length = x.rest.length) (hm : ∀ a ∈ l, 0 ≤ a ∧ a < p.hts.length) : APure Tryz.prog 120 [stA p x, ints l] (B (suits true p x l)) := by
  refine ap Tryz.func120 (fun e0 he0 => ?_)
  refine aw_seq ?_
  have hr4 := gX.r4
  refine wz 5 ?_
  refine aw_loopk (ι := { k : Nat // k ≤ l.length ∧ ∀ i, i < k → okI true p x l i = true }) [1, 2, 9] (fun k => [(10, I (k.1 : Nat))]) (fun H k => H) (fun k => l.length - k.1) (⟨0, Nat.zero_le _, by omega⟩) ⟨jz, jz, jz, jz, trivial⟩ rfl ?_
  rintro ⟨k, hk, hok⟩
  refine nz ?_
  refine wz 1 ?_
  refine iz (fun c_11 c_11' => ?_) (fun c_11 c_11' => ?_)
  ·have hkl : k < l.length := by omega
   have htl : k + 1 = (l.take (k + 1)).length := by rw [List.length_take]; omega
   refine wz 2 ?_
   refine kz az (rules_pure) ?_
   refine wz 1 ?_
   refine aw_loopk (ι := { j : Nat // j ≤ 3 ∧ ∀ i, i < j → rV p x (l.take (k + 1)) k i = true }) [1, 2, 5, 9, 10, 13] (fun j => [(14, I (j.1 : Nat))]) (fun H j => H) (fun j => 3 - j.1) (⟨0, by omega, by omega⟩) ⟨jz, jz, jz, jz, jz, jz, jz, trivial⟩ rfl ?_
   rintro ⟨j, hj, hall⟩
   refine nz ?_
   refine wz 1 ?_
   refine iz (fun c_15 c_15' => ?_) (fun c_15 c_15' => ?_)
   ·have hj3 : j < 3 := by omega
    refine wz 0 ?_
    refine sq_ev rfl (ev_indexv (k := j) (v := .fn (.func (rF j)) [] []) ar192.h ty191.h jz jz rfl hj3 (by match j, hj3 with | 0, _ => rfl | 1, _ => rfl | 2, _ => rfl)) ?_
    refine wz 1 ?_
    refine aw_draw 8 mo (by kernel_rfl) ?_
    refine dz 5 ?_
    refine dr_ev rfl (ev_less (ev_slice (lo := 0) (hi := k + 1) sl22.h jz rfl (less_int (by omega)) (by omega) (by simp; omega)) (Less.eq (b := ints (l.take (k + 1))) (by rw [List.drop_zero, ← List.map_take]))) ?_
    refine dr_ev rfl (ev_call (rF_ent j hj3) jz (rF_pure gP gX (i := k) (l := l.take (k + 1)) htl (by omega) (fun a ha => hm a (List.mem_of_mem_take ha)) j hj3) ⟨jz, jz, trivial⟩) ?_
    refine dz 1 ?_
    refine wz 0 ?_
    refine iz (fun c_24 c_24' => ?_) (fun c_24 c_24' => ?_)
    ·have hno : suits true p x l = false := suits_no hkl (rV_no htl (show j < many true from hj3) (by simpa using c_24))
     refine wz 1 ?_
     exact rz rfl (Less.eq (by rw [hno]))
    have hrv : rV p x (l.take (k + 1)) k j = true := by simpa using c_24
    refine wz 2 ?_
    exact ⟨⟨j + 1, by omega, fun i hi => by rcases Nat.lt_or_ge i j with z | z; exact hall i z; (obtain rfl : i = j := by omega); exact hrv⟩, by simp only; omega, Sub.slots ⟨jz, jz, jz, jz, jz, jz, jz, trivial⟩⟩
   obtain rfl : j = 3 := by omega
   have hst : okI true p x l k = true := by rw [← okL_take hkl]; exact rV_all htl hall
   refine wz 2 ?_
   exact ⟨⟨k + 1, by omega, fun i hi => by rcases Nat.lt_or_ge i k with z | z; exact hok i z; (obtain rfl : i = k := by omega); exact hst⟩, by simp only; omega, Sub.slots ⟨jz, jz, jz, jz, trivial⟩⟩
  obtain rfl : k = l.length := by omega
  have hall : suits true p x l = true := decide_eq_true hok
  refine wz 1 ?_
  exact rz rfl (Less.eq (by rw [hall]))
end Go.Proofs.YtfmpabgblbbcdaaGreatDoor
namespace Go.Proofs.YtfmpabgblbbcdaaGreatDoor
open Go Go.Ab Ni St
open Hd hiding sz
theorem xplan_no {p : Ply} (hh : p.hts.length ≤ 1000000) (hf : p.figs.length ≤ 1000000) (hs : p.scs.length ≤ 1000000) (hx : ∀ x ∈ p.scs, x.moved.length ≤ 1000000 ∧ x.rest.length ≤ 1000000 ∧ x.taken.length ≤ 1000000) (h1 : plOK p = true) {n : Nat} (h2 : failsAt p = some n) : APure Tryz.prog 61 [plA p] (.tup [.sl 1 [], I 0, I 7]) := by
  refine ap Tryz.func61 (fun e0 he0 => ?_)
  refine vz 4 ?_
  refine sq_nil ?_
  refine aw_seq ?_
  refine aw_seq ?_
  have hpl := isplay_pure p hh hf hs hx
  rw [h1] at hpl
  have gP := plOK_B h1
  refine wz 1 ?_
  refine kz az (hpl) ?_
  refine wz 3 ?_
  refine kz az (fails_n gP h2) ?_
  refine sq_ev rfl (ev_mv (v := .tup [.agg [I n, I (lacks p (sc p n))], I 7]) jz) ?_
  refine wz 12 ?_
  exact retQ_pure (v := .tup [.raw (.slice none 0 0), .raw _, .raw _]) rfl rfl (less_tup ⟨less_nil 1, jz, jz, trivial⟩)
end Go.Proofs.YtfmpabgblbbcdaaGreatDoor
namespace Go.Proofs.YtfmpabgblbbcdaaGreatDoor
open Go Go.Ab Ni St
open Hd hiding sz
def plnI (p : Ply) (L : List (List Int)) (n : Nat) : Bool := plsOK p (sc p n) (L.getD n []) && suits true p (sc p n) (L.getD n [])
def plnOK (p : Ply) (L : List (List Int)) : Bool := decide (L.length = p.scs.length) && decide (∀ n, n < L.length → plnI p L n = true)
def chgK (p : Ply) (L : List (List Int)) (m : Nat) : Int := ((List.range m).map fun (n : Nat) => stp p n (L.getD n []) (L.getD (n + 1) [])).sum
def chg (p : Ply) (L : List (List Int)) : Int := chgK p L (L.length - 1)
theorem chgK_succ (p : Ply) (L : List (List Int)) (m : Nat) : chgK p L (m + 1) = chgK p L m + stp p m (L.getD m []) (L.getD (m + 1) []) := by
  unfold chgK; rw [List.range_succ, List.map_append, List.sum_append]; simp
theorem chgK_bd {p : Ply} (gP : PlB p) (L : List (List Int)) : ∀ m, m + 1 ≤ p.scs.length → 0 ≤ chgK p L m ∧ chgK p L m ≤ 4 * m
  | 0, _ => by simp [chgK]
  | m + 1, h => by
    have := chgK_bd gP L m (by omega)
    have h2 := turns_bd gP (n := m) (by omega) (L.getD m []) (L.getD (m + 1) [])
    rw [chgK_succ]
    have e : stp p m (L.getD m []) (L.getD (m + 1) []) = turns (sc p m) (sc p (m + 1)) (L.getD m []) (L.getD (m + 1) []) := rfl
    omega
theorem pln_get {p : Ply} {L : List (List Int)} (h : plnOK p L = true) : L.length = p.scs.length ∧ ∀ n, n < L.length → plnI p L n = true := by
  unfold plnOK at h; simpa using h
theorem plnI_at {p : Ply} {L : List (List Int)} {n : Nat} (h : n < L.length) : plnI p L n = (plsOK p (sc p n) L[n] && suits true p (sc p n) L[n]) := by unfold plnI; rw [getD_at h]
theorem xchg_ok {p : Ply} (hh : p.hts.length ≤ 1000000) (hf : p.figs.length ≤ 1000000) (hs : p.scs.length ≤ 1000000) (hx : ∀ x ∈ p.scs, x.moved.length ≤ 1000000 ∧ x.rest.length ≤ 1000000 ∧ x.taken.length ≤ 1000000) (L : List (List Int)) (hL : L.length ≤ 1000000) (hl : ∀ l ∈ L, l.length ≤ 1000000) (h1 : plOK p = true) (h2 : L.length = p.scs.length) (h3 : plnOK p L = true) : APure Tryz.prog 62 [plA p, hds L] (.tup [I (chg p L), I 0]) := by
  refine ap Tryz.func62 (fun e0 he0 => ?_)
  refine vz 3 ?_
  refine sq_nil ?_
  refine aw_seq ?_
  refine aw_seq ?_
  have hpl := isplay_pure p hh hf hs hx
  rw [h1] at hpl
  have gP := plOK_B h1
  have hns := gP.ns
  have hnh := gP.nh
  refine wz 1 ?_
  refine kz az (hpl) ?_
  refine wz 9 ?_
  refine iz (fun c_21 c_21' => ?_) (fun c_21 c_21' => ?_)
  ·exfalso
   omega
  refine wz 3 ?_
  refine aw_loopk (ι := { n : Nat // n ≤ L.length ∧ ∀ j, j < n → plnI p L j = true }) [1, 2, 22, 23] (fun g => [(24, I (g.1 : Nat))]) (fun H g => H) (fun g => L.length - g.1) (⟨0, Nat.zero_le _, by omega⟩) ⟨jz, jz, jz, jz, jz, trivial⟩ rfl ?_
  rintro ⟨n, hn, hok⟩
  refine nz ?_
  refine wz 1 ?_
  refine iz (fun c_25 c_25' => ?_) (fun c_25 c_25' => ?_)
  ·have hnL : n < L.length := by omega
   have hnl : n < p.scs.length := by omega
   refine vz 5 ?_
   refine sq_nil ?_
   refine aw_seq ?_
   have gX := sc_B gP hnl
   have hap := arepl_pure p (sc p n) L[n] (hl _ (List.getElem_mem hnL)) hh (by have := gX.r4; omega)
   refine wz 2 ?_
   refine kz az (stage_pure hnl hs) ?_
   refine wz 4 ?_
   refine kz az (hap) ?_
   refine wz 2 ?_
   refine sz 36 (fun g7_4 g7_4' => ?_) (fun g7_4 g7_4' => ?_)
   ·exfalso
    have h4 := (pln_get h3).2 n hnL
    rw [plnI_at hnL] at h4
    simp_all
   have hpo : plsOK p (sc p n) L[n] = true := by simpa using g7_4
   refine wz 2 ?_
   refine ky az (rests_pure gP gX (plsOK_iff.1 hpo).1 (plsOK_iff.1 hpo).2) ?_
   refine wz 2 ?_
   refine iz (fun c_41 c_41' => ?_) (fun c_41 c_41' => ?_)
   ·exfalso
    have h4 := (pln_get h3).2 n hnL
    rw [plnI_at hnL] at h4
    simp_all
   have hnok : plnI p L n = true := by rw [plnI_at hnL]; simp_all
   refine wz 2 ?_
   exact ⟨⟨n + 1, by omega, fun j hj => (by by_cases e : j = n; (subst e; exact hnok); exact hok j (by omega))⟩, by simp only; omega, sb 1 ⟨jz, jz, jz, jz, jz, trivial⟩⟩
  obtain rfl : n = L.length := by omega
  refine wz 5 ?_
  refine aw_loopk (ι := { m : Nat // m ≤ L.length - 1 }) [1, 2, 45] (fun g => [(46, I (g.1 : Nat)), (9, I (chgK p L g.1))]) (fun H g => H) (fun g => L.length - 1 - g.1) (⟨0, Nat.zero_le _⟩) ⟨jz, (by exact less_int rfl), jz, jz, jz, trivial⟩ rfl ?_
  rintro ⟨m, hm⟩
  refine nz ?_
  have hck := chgK_bd gP L m (by omega)
  refine wz 1 ?_
  refine iz (fun c_47 c_47' => ?_) (fun c_47 c_47' => ?_)
  ·have hm1 : m + 1 < p.scs.length := by omega
   have hla := (plsOK_iff.1 (Bool.and_eq_true_iff.1 ((plnI_at (by omega)).symm.trans (hok m (by omega)))).1).1
   have hlb := (plsOK_iff.1 (Bool.and_eq_true_iff.1 ((plnI_at (by omega)).symm.trans (hok (m + 1) (by omega)))).1).1
   have htb := turns_bd gP (n := m) (by omega) (L.getD m []) (L.getD (m + 1) [])
   refine wz 2 ?_
   refine aw_draw 14 mo (by kernel_rfl) ?_
   refine dz 5 ?_
   refine dr_ev rfl (ev_index_map (k := m) (xs := L) sl61.h jz jz rfl (by omega)) ?_
   refine dz 4 ?_
   refine dr_ev rfl (ev_index_map (k := m + 1) (xs := L) sl61.h jz jz (by omega) (by omega)) ?_
   refine dz 1 ?_
   refine dkz az (turns_pure gP (n := m) hm1 (a := L[m]) (b := L[m + 1]) hla hlb) ?_
   refine dr_ev rfl (ev_add (q := chgK p L m + stp p m (L.getD m []) (L.getD (m + 1) [])) jz (by exact less_int (by rw [getD_at (show m < L.length by omega), getD_at (show m + 1 < L.length by omega)])) (wr (by omega) (by omega))) ?_
   refine dr_end ?_
   refine wz 3 ?_
   exact ⟨⟨m + 1, by omega⟩, by simp only; omega, sb 1 ⟨jz, (by exact less_int (chgK_succ p L m).symm), jz, jz, jz, trivial⟩⟩
  obtain rfl : m = L.length - 1 := by omega
  refine wz 3 ?_
  exact retQ_pure (v := .tup [.raw _, .raw _]) rfl rfl (less_tup ⟨jz, jz, trivial⟩)
end Go.Proofs.YtfmpabgblbbcdaaGreatDoor
namespace Go.Proofs.YtfmpabgblbbcdaaGreatDoor
open Go Go.Ab Ni St
open Hd hiding sz
instance en118 : EnT Tryz.prog 118 := ⟨Ent.of Tryz.func118 (by kernel_rfl) rfl⟩
instance en19 : EnT Tryz.prog 19 := ⟨Ent.of Tryz.func19 (by kernel_rfl) rfl⟩
instance en22 : EnT Tryz.prog 22 := ⟨Ent.of Tryz.func22 (by kernel_rfl) rfl⟩
instance en27 : EnT Tryz.prog 27 := ⟨Ent.of Tryz.func27 (by kernel_rfl) rfl⟩
instance en41 : EnT Tryz.prog 41 := ⟨Ent.of Tryz.func41 (by kernel_rfl) rfl⟩
instance en57 : EnT Tryz.prog 57 := ⟨Ent.of Tryz.func57 (by kernel_rfl) rfl⟩
instance en60 : EnT Tryz.prog 60 := ⟨Ent.of Tryz.func60 (by kernel_rfl) rfl⟩
instance en77 : EnT Tryz.prog 77 := ⟨Ent.of Tryz.func77 (by kernel_rfl) rfl⟩
instance en78 : EnT Tryz.prog 78 := ⟨Ent.of Tryz.func78 (by kernel_rfl) rfl⟩
instance en95 : EnT Tryz.prog 95 := ⟨Ent.of Tryz.func95 (by kernel_rfl) rfl⟩
theorem all_of {α : Type} {q : α → Bool} {l : List α} (h : ∀ j, (hj : j < l.length) → q l[j] = true) : l.all q = true := List.all_eq_true.2 fun x hx => by obtain ⟨j, hj, rfl⟩ := List.getElem_of_mem hx; exact h j hj
theorem all_bad {α : Type} {q : α → Bool} {l : List α} {i : Nat} (hi : i < l.length) (h : q l[i] = false) : l.all q = false := by rw [List.all_eq_false]; exact ⟨_, List.getElem_mem hi, by rw [h]; simp⟩
theorem all_sym (a b : List Int) : (a.all fun n => !decide (n ∈ b)) = b.all fun n => !decide (n ∈ a) := by
  rw [Bool.eq_iff_iff, List.all_eq_true, List.all_eq_true]
  simp only [Bool.not_eq_true', decide_eq_false_iff_not]
  exact ⟨fun h n hn hm => h n hm hn, fun h n hn hm => h n hm hn⟩
def shX (x : Scn) : Bool := decide (x.moved.length ≤ 10) && decide (x.rest.length ≤ 10) && decide (x.taken.length ≤ 10)
def shB (p : Ply) : Bool := decide (p.hts.length ≤ 10) && decide (p.figs.length ≤ 8) && decide (p.scs.length ≤ 7) && decide (∀ i, (hi : i < p.scs.length) → i < 8 → shX p.scs[i] = true)
theorem shB_row {p : Ply} {i : Nat} (hi : i < p.scs.length) (h8 : i < 8) (h : shX p.scs[i] = false) : shB p = false := by
  unfold shB
  rw [decide_eq_false (p := ∀ i, (hi : i < p.scs.length) → i < 8 → shX p.scs[i] = true) (fun q => by rw [q i hi h8] at h; cases h)]; simp
theorem shB_fin {p : Ply} (h : ∀ i, (hi : i < p.scs.length) → i < 8 → shX p.scs[i] = true) : shB p = (decide (p.hts.length ≤ 10) && decide (p.figs.length ≤ 8) && decide (p.scs.length ≤ 7)) := by
  unfold shB; rw [decide_eq_true h, Bool.and_true]
theorem shB_len {p : Ply} (h : shB p = true) : p.hts.length ≤ 1000000 ∧ p.figs.length ≤ 1000000 ∧ p.scs.length ≤ 1000000 ∧ ∀ x ∈ p.scs, x.moved.length ≤ 1000000 ∧ x.rest.length ≤ 1000000 ∧ x.taken.length ≤ 1000000 := by
  unfold shB at h
  simp only [Bool.and_eq_true, decide_eq_true_eq] at h
  refine ⟨by omega, by omega, by omega, fun x hx => ?_⟩
  obtain ⟨i, hi, rfl⟩ := List.getElem_of_mem hx
  have := h.2 i hi (by omega)
  unfold shX at this
  simp only [Bool.and_eq_true, decide_eq_true_eq] at this
  omega
def slB (L : List (List Int)) : Bool := decide (L.length ≤ 7) && decide (∀ i, (hi : i < L.length) → i < 8 → L[i].length ≤ 10)
theorem slB_row {L : List (List Int)} {i : Nat} (hi : i < L.length) (h8 : i < 8) (h : ¬ L[i].length ≤ 10) : slB L = false := by
  unfold slB
  rw [decide_eq_false (p := ∀ i, (hi : i < L.length) → i < 8 → L[i].length ≤ 10) (fun q => h (q i hi h8))]; simp
theorem slB_fin {L : List (List Int)} (h : ∀ i, (hi : i < L.length) → i < 8 → L[i].length ≤ 10) : slB L = decide (L.length ≤ 7) := by
  unfold slB; rw [decide_eq_true h, Bool.and_true]
theorem slB_len {L : List (List Int)} (h : slB L = true) : L.length ≤ 1000000 ∧ ∀ l ∈ L, l.length ≤ 1000000 := by
  unfold slB at h
  simp only [Bool.and_eq_true, decide_eq_true_eq] at h
  refine ⟨by omega, fun x hx => ?_⟩
  obtain ⟨i, hi, rfl⟩ := List.getElem_of_mem hx
  have := h.2 i hi (by omega)
  omega
theorem befB_at : ∀ {a b : List Int} {k : Nat} (ha : k < a.length) (hb : k < b.length), (∀ i, (h1 : i < a.length) → (h2 : i < b.length) → i < k → a[i] = b[i]) → a[k] ≠ b[k] → befB a b = decide (a[k] < b[k])
  | x :: l, y :: m, 0, _, _, _, h => by unfold befB; rw [if_neg (by simpa using h)]; simp
  | x :: l, y :: m, k + 1, ha, hb, hk, h => by
    have h0 := hk 0 (by simp) (by simp) (by omega)
    unfold befB; rw [if_pos (by simpa using h0)]
    have := befB_at (a := l) (b := m) (k := k) (by simpa using ha) (by simpa using hb) (fun i h1 h2 hi => by have := hk (i + 1) (by simpa using h1) (by simpa using h2) (by omega); simpa using this) (by simpa using h)
    simpa using this
theorem befB_no : ∀ {a b : List Int}, (∀ i, (h1 : i < a.length) → (h2 : i < b.length) → a[i] = b[i]) → befB a b = false
  | [], _, _ => by unfold befB; rfl
  | _ :: _, [], _ => by unfold befB; rfl
  | x :: l, y :: m, h => by
    have h0 := h 0 (by simp) (by simp)
    unfold befB; rw [if_pos (by simpa using h0)]
    exact befB_no fun i h1 h2 => by have := h (i + 1) (by simpa using h1) (by simpa using h2); simpa using this
theorem pls_any {p : Ply} {l : List Int} : (!l.any fun n => !inn n 0 (p.hts.length - 1)) = l.all (plIn p) := by
  rw [List.not_any_eq_all_not]; congr 1; funext n; unfold plIn; simp
theorem has_pure (l : List Int) (n : Int) (hl : l.length ≤ 1000000) : APure Tryz.prog 27 [ints l, I n] (B (decide (n ∈ l))) := by
  refine ap Tryz.func27 (fun e0 he0 => ?_)
  refine wz 2 ?_
  refine aw_loopk (ι := { k : Nat // k ≤ l.length ∧ ∀ i, (hi : i < l.length) → i < k → l[i] ≠ n }) [0, 1] (fun i => [(5, I i.1)]) (fun H i => H) (fun i => l.length - i.1) (⟨0, Nat.zero_le _, by omega⟩) ⟨jz, jz, jz, trivial⟩ rfl ?_
  rintro ⟨k, hk, hok⟩
  refine nz ?_
  refine wz 4 ?_
  refine iz (fun c_9 c_9' => ?_) (fun c_9 c_9' => ?_)
  ·have hkL : k < l.length := by omega
   refine wz 6 ?_
   refine iz (fun c_17 c_17' => ?_) (fun c_17 c_17' => ?_)
   ·have hmem : n ∈ l := by have h5 := of_decide_eq_true c_17; exact h5 ▸ List.getElem_mem hkL
    refine wz 1 ?_
    exact rz rfl (Less.eq (by rw [decide_eq_true hmem]))
   refine wz 3 ?_
   exact ⟨⟨k + 1, by omega, fun i hi h => (by by_cases e : i = k; (subst e; simpa using c_17); exact hok i hi (by omega))⟩, by simp only; omega, Sub.slots ⟨jz, jz, jz, trivial⟩⟩
  obtain rfl : k = l.length := by omega
  have hno : ¬ n ∈ l := fun h => by obtain ⟨i, hi, h6⟩ := List.getElem_of_mem h; exact hok i hi hi h6
  refine wz 1 ?_
  exact rz rfl (Less.eq (by rw [decide_eq_false hno]))
theorem rrising_pure (l : List Int) (n : Nat) (hl : l.length ≤ 1000000) (hn : n ≤ 1000000) : APure Tryz.prog 95 [ints l, I n] (B (rising l n)) := by
  refine ap Tryz.func95 (fun e0 he0 => ?_)
  refine wz 2 ?_
  refine aw_loopk (ι := { k : Nat // k ≤ l.length ∧ ∀ i, (hi : i < l.length) → i < k → (0 ≤ l[i] ∧ l[i] < n) ∧ (0 < i → l[i - 1] < l[i]) }) [0, 1] (fun i => [(5, I i.1)]) (fun H i => H) (fun i => l.length - i.1) (⟨0, Nat.zero_le _, by omega⟩) ⟨jz, jz, jz, trivial⟩ rfl ?_
  rintro ⟨k, hk1, hok⟩
  refine nz ?_
  refine wz 4 ?_
  refine iz (fun c_9 c_9' => ?_) (fun c_9 c_9' => ?_)
  ·have hkl : k < l.length := by omega
   have hin : inn l[k] 0 ((n : Int) - 1) = true ↔ 0 ≤ l[k] ∧ l[k] ≤ (n : Int) - 1 := by unfold inn; simp
   refine wz 0 ?_
   refine aw_draw 24 mo (by kernel_rfl) ?_
   refine dz 6 ?_
   refine dkz az (rin_pure _ _ _) ?_
   refine dz 2 ?_
   refine dsz 20 (fun g4_8 g4_8' => ?_) (fun g4_8 g4_8' => ?_)
   ·have hb0 : ¬ (0 ≤ l[k] ∧ l[k] ≤ (n : Int) - 1) := fun q => by rw [hin.2 q] at g4_8; simp at g4_8
    have hno : rising l n = false := rising_no hkl (fun q => hb0 (by omega))
    refine dz 15 ?_
    refine wz 2 ?_
    exact rz rfl (Less.eq (by rw [hno]))
   have hb1 : 0 ≤ l[k] ∧ l[k] ≤ (n : Int) - 1 := hin.1 (by simpa using g4_8)
   refine dz 3 ?_
   refine dsz 23 (fun g4_11 g4_11' => ?_) (fun g4_11 g4_11' => ?_)
   ·refine dz 7 ?_
    refine dr_yes rfl rfl (less_b g4_11) rfl (ev_index_map (k := k - 1) sl22.h jz jz (by omega) (by omega)) ?_
    refine dz 4 ?_
    refine wz 0 ?_
    refine iz (fun c_35 c_35' => ?_) (fun c_35 c_35' => ?_)
    ·have hno : rising l n = false := rising_no hkl (fun q => by have h5 := q.2 (by omega); have h6 := of_decide_eq_true c_35; omega)
     refine wz 1 ?_
     exact rz rfl (Less.eq (by rw [hno]))
    have hst : (0 ≤ l[k] ∧ l[k] < n) ∧ (0 < k → l[k - 1] < l[k]) := ⟨by omega, fun q => by have := of_decide_eq_false c_35; omega⟩
    refine wz 3 ?_
    exact ⟨⟨k + 1, by omega, fun i hi q => by rcases Nat.lt_or_ge i k with q2 | q2; exact hok i hi q2; (obtain rfl : i = k := by omega); exact hst⟩, by simp only; omega, Sub.slots ⟨jz, jz, jz, trivial⟩⟩
   have hst : (0 ≤ l[k] ∧ l[k] < n) ∧ (0 < k → l[k - 1] < l[k]) := ⟨by omega, fun q => by omega⟩
   refine dz 12 ?_
   refine wz 4 ?_
   exact ⟨⟨k + 1, by omega, fun i hi q => by rcases Nat.lt_or_ge i k with q2 | q2; exact hok i hi q2; (obtain rfl : i = k := by omega); exact hst⟩, by simp only; omega, Sub.slots ⟨jz, jz, jz, trivial⟩⟩
  obtain rfl : k = l.length := by omega
  have hall := rising_yes fun i hi => hok i hi hi
  refine wz 1 ?_
  exact rz rfl (Less.eq (by rw [hall]))
theorem rscene_pure (p : Ply) (x : Scn) (h1 : x.moved.length ≤ 1000000) (h2 : x.rest.length ≤ 1000000) (h3 : x.taken.length ≤ 1000000) (hh : p.hts.length ≤ 1000000) (hf : p.figs.length ≤ 1000000) : APure Tryz.prog 78 [plA p, .agg (scC x)] (B (scOK p x)) := by
  refine ap Tryz.func78 (fun e0 he0 => ?_)
  refine wz 8 ?_
  refine kz az (rrising_pure x.moved p.figs.length h1 hf) ?_
  refine wz 2 ?_
  refine sz 13 (fun g1_7 g1_7' => ?_) (fun g1_7 g1_7' => ?_)
  ·refine wz 31 ?_
   exact rz rfl (Less.eq (congrArg B (by unfold scOK; simp [*])))
  refine wz 5 ?_
  refine ky az (rrising_pure x.rest p.figs.length h2 hf) ?_
  refine wz 3 ?_
  refine sz 22 (fun g1_16 g1_16' => ?_) (fun g1_16 g1_16' => ?_)
  ·refine wz 22 ?_
   exact rz rfl (Less.eq (congrArg B (by unfold scOK; simp [*])))
  refine wz 5 ?_
  refine ky az (rrising_pure x.taken p.hts.length h3 hh) ?_
  refine wz 3 ?_
  refine sz 31 (fun g1_25 g1_25' => ?_) (fun g1_25 g1_25' => ?_)
  ·refine wz 13 ?_
   exact rz rfl (Less.eq (congrArg B (by unfold scOK; simp [*])))
  refine wz 6 ?_
  refine sz 37 (fun g1_31 g1_31' => ?_) (fun g1_31 g1_31' => ?_)
  ·have k31 : ¬ x.rest.length ≤ 4 := by omega
   refine wz 7 ?_
   exact rz rfl (Less.eq (congrArg B (by unfold scOK; simp [*])))
  have k31 : x.rest.length ≤ 4 := by omega
  refine wz 2 ?_
  refine ky az (rin_pure _ _ _) ?_
  refine wz 2 ?_
  refine iz (fun c_42 c_42' => ?_) (fun c_42 c_42' => ?_)
  ·refine wz 1 ?_
   exact rz rfl (Less.eq (congrArg B (by unfold scOK; simp [*])))
  refine wz 1 ?_
  refine aw_loopk (ι := { k : Nat // k ≤ x.rest.length ∧ ∀ i, (hi : i < x.rest.length) → i < k → (!decide (x.rest[i] ∈ x.moved)) = true }) [3] (fun i => [(5, I i.1)]) (fun H i => H) (fun i => x.rest.length - i.1) (⟨0, Nat.zero_le _, by omega⟩) ⟨jz, jz, trivial⟩ rfl ?_
  rintro ⟨k, hk, hok⟩
  refine nz ?_
  refine wz 5 ?_
  refine iz (fun c_47 c_47' => ?_) (fun c_47 c_47' => ?_)
  ·have hkL : k < x.rest.length := by omega
   refine wz 0 ?_
   refine aw_draw 8 mo (by kernel_rfl) ?_
   refine dz 7 ?_
   refine dkz az (has_pure _ _ h1) ?_
   refine dr_end ?_
   refine wz 0 ?_
   refine iz (fun c_57 c_57' => ?_) (fun c_57 c_57' => ?_)
   ·have hbad : (x.rest.all fun n => !decide (n ∈ x.moved)) = false := all_bad hkL (by rw [decide_eq_true (of_decide_eq_true c_57)]; rfl)
    refine wz 1 ?_
    exact rz rfl (Less.eq (congrArg B (by unfold scOK; rw [all_sym, hbad]; simp)))
   refine wz 3 ?_
   exact ⟨⟨k + 1, by omega, fun i hi h => (by by_cases e : i = k; (subst e; rw [decide_eq_false (of_decide_eq_false c_57)]; rfl); exact hok i hi (by omega))⟩, by simp only; omega, Sub.slots ⟨jz, jz, trivial⟩⟩
  obtain rfl : k = x.rest.length := by omega
  have hall : (x.rest.all fun n => !decide (n ∈ x.moved)) = true := all_of fun j hj => hok j hj hj
  refine wz 1 ?_
  exact rz rfl (Less.eq (congrArg B (by unfold scOK; rw [all_sym, hall]; simp_all)))
theorem rplay_pure (p : Ply) (hh : p.hts.length ≤ 1000000) (hf : p.figs.length ≤ 1000000) (hs : p.scs.length ≤ 1000000) (hx : ∀ x ∈ p.scs, x.moved.length ≤ 1000000 ∧ x.rest.length ≤ 1000000 ∧ x.taken.length ≤ 1000000) : APure Tryz.prog 22 [plA p] (B (plOK p)) := by
  refine ap Tryz.func22 (fun e0 he0 => ?_)
  refine wz 5 ?_
  refine kz az (rin_pure _ _ _) ?_
  refine wz 2 ?_
  refine sz 12 (fun g1_5 g1_5' => ?_) (fun g1_5 g1_5' => ?_)
  ·refine wz 24 ?_
   exact rz rfl (Less.eq (by unfold plOK; simp_all))
  refine wz 3 ?_
  refine ky az (rin_pure _ _ _) ?_
  refine wz 3 ?_
  refine sz 19 (fun g1_12 g1_12' => ?_) (fun g1_12 g1_12' => ?_)
  ·refine wz 17 ?_
   exact rz rfl (Less.eq (by unfold plOK; simp_all))
  refine wz 3 ?_
  refine ky az (rin_pure _ _ _) ?_
  refine wz 3 ?_
  refine sz 26 (fun g1_19 g1_19' => ?_) (fun g1_19 g1_19' => ?_)
  ·refine wz 10 ?_
   exact rz rfl (Less.eq (by unfold plOK; simp_all))
  refine wz 5 ?_
  refine ky az (rin_pure _ _ _) ?_
  refine wz 2 ?_
  refine iz (fun c_34 c_34' => ?_) (fun c_34 c_34' => ?_)
  ·refine wz 1 ?_
   exact rz rfl (Less.eq (by unfold plOK; simp_all))
  refine wz 1 ?_
  refine aw_loopk (ι := { k : Nat // k ≤ p.hts.length ∧ ∀ i, (hi : i < p.hts.length) → i < k → inn p.hts[i] 1 9 = true }) [1] (fun i => [(3, I i.1)]) (fun H i => H) (fun i => p.hts.length - i.1) (⟨0, Nat.zero_le _, by omega⟩) ⟨jz, jz, trivial⟩ rfl ?_
  rintro ⟨k, hk, hok⟩
  refine nz ?_
  refine wz 5 ?_
  refine iz (fun c_39 c_39' => ?_) (fun c_39 c_39' => ?_)
  ·have hkl : k < p.hts.length := by omega
   refine wz 5 ?_
   refine kz az (rin_pure _ _ _) ?_
   refine wz 1 ?_
   refine iz (fun c_48 c_48' => ?_) (fun c_48 c_48' => ?_)
   ·have hbad : (p.hts.all fun n => inn n 1 9) = false := all_bad hkl (by simpa using c_48)
    refine wz 1 ?_
    exact rz rfl (Less.eq (by unfold plOK; rw [hbad]; simp))
   refine wz 3 ?_
   exact ⟨⟨k + 1, by omega, fun i hi h => (by by_cases e : i = k; (subst e; simpa using c_48); exact hok i hi (by omega))⟩, by simp only; omega, Sub.slots ⟨jz, jz, trivial⟩⟩
  obtain rfl : k = p.hts.length := by omega
  have hall1 : (p.hts.all fun n => inn n 1 9) = true := all_of fun j hj => hok j hj hj
  refine wz 1 ?_
  refine aw_loopk (ι := { k : Nat // k ≤ p.figs.length ∧ ∀ i, (hi : i < p.figs.length) → i < k → fgOK p.figs[i] = true }) [1] (fun i => [(4, I i.1)]) (fun H i => H) (fun i => p.figs.length - i.1) (⟨0, Nat.zero_le _, by omega⟩) ⟨jz, jz, trivial⟩ rfl ?_
  rintro ⟨k, hk2, hok2⟩
  refine nz ?_
  refine wz 5 ?_
  refine iz (fun c_53 c_53' => ?_) (fun c_53 c_53' => ?_)
  ·have hfl : k < p.figs.length := by omega
   have hfe : fgOK p.figs[k] = ((!decide (p.figs[k].side < 1) && !decide (p.figs[k].side > 3)) && inn p.figs[k].rank 1 9 && inn p.figs[k].hands 1 2) := by unfold fgOK; rw [show inn p.figs[k].side 1 3 = (!(decide (p.figs[k].side < 1)) && !(decide (p.figs[k].side > 3))) by unfold inn; rw [Bool.eq_iff_iff]; simp]
   refine wz 11 ?_
   refine sz 64 (fun g12_3 g12_3' => ?_) (fun g12_3 g12_3' => ?_)
   ·have hbad : p.figs.all fgOK = false := all_bad hfl (by rw [hfe]; simp [*])
    refine wz 18 ?_
    exact rz rfl (Less.eq (by unfold plOK; rw [hbad]; simp))
   refine wz 5 ?_
   refine sz 69 (fun g12_8 g12_8' => ?_) (fun g12_8 g12_8' => ?_)
   ·have hbad : p.figs.all fgOK = false := all_bad hfl (by rw [hfe]; simp [*])
    refine wz 13 ?_
    exact rz rfl (Less.eq (by unfold plOK; rw [hbad]; simp))
   refine wz 2 ?_
   refine ky az (rin_pure _ _ _) ?_
   refine wz 3 ?_
   refine sz 75 (fun g12_14 g12_14' => ?_) (fun g12_14 g12_14' => ?_)
   ·have hbad : p.figs.all fgOK = false := all_bad hfl (by rw [hfe]; simp [*])
    refine wz 7 ?_
    exact rz rfl (Less.eq (by unfold plOK; rw [hbad]; simp))
   refine wz 2 ?_
   refine ky az (rin_pure _ _ _) ?_
   refine wz 2 ?_
   refine iz (fun c_80 c_80' => ?_) (fun c_80 c_80' => ?_)
   ·have hbad : p.figs.all fgOK = false := all_bad hfl (by rw [hfe]; simp [*])
    refine wz 1 ?_
    exact rz rfl (Less.eq (by unfold plOK; rw [hbad]; simp))
   have hfg : fgOK p.figs[k] = true := by rw [hfe]; simp [*]
   refine wz 3 ?_
   exact ⟨⟨k + 1, by omega, fun i hi h => (by by_cases e : i = k; (subst e; exact hfg); exact hok2 i hi (by omega))⟩, by simp only; omega, sb 1 ⟨jz, jz, trivial⟩⟩
  obtain rfl : k = p.figs.length := by omega
  have hall2 : p.figs.all fgOK = true := all_of fun j hj => hok2 j hj hj
  refine wz 1 ?_
  refine aw_loopk (ι := { k : Nat // k ≤ p.scs.length ∧ ∀ i, (hi : i < p.scs.length) → i < k → scOK p p.scs[i] = true }) [1] (fun i => [(6, I i.1)]) (fun H i => H) (fun i => p.scs.length - i.1) (⟨0, Nat.zero_le _, by omega⟩) ⟨jz, jz, trivial⟩ rfl ?_
  rintro ⟨k, hk3, hok3⟩
  refine nz ?_
  refine wz 5 ?_
  refine iz (fun c_85 c_85' => ?_) (fun c_85 c_85' => ?_)
  ·have hsl : k < p.scs.length := by omega
   have hxk := hx _ (List.getElem_mem hsl)
   refine wz 0 ?_
   refine aw_draw 8 mo (by kernel_rfl) ?_
   refine dz 6 ?_
   refine dkz az (rscene_pure p _ hxk.1 hxk.2.1 hxk.2.2 hh hf) ?_
   refine dz 1 ?_
   refine wz 0 ?_
   refine iz (fun c_95 c_95' => ?_) (fun c_95 c_95' => ?_)
   ·have hbad : p.scs.all (scOK p) = false := all_bad hsl (by simpa using c_95)
    refine wz 1 ?_
    exact rz rfl (Less.eq (by unfold plOK; rw [hbad]; simp))
   refine wz 3 ?_
   exact ⟨⟨k + 1, by omega, fun i hi h => (by by_cases e : i = k; (subst e; simpa using c_95); exact hok3 i hi (by omega))⟩, by simp only; omega, Sub.slots ⟨jz, jz, trivial⟩⟩
  obtain rfl : k = p.scs.length := by omega
  have hall3 : p.scs.all (scOK p) = true := all_of fun j hj => hok3 j hj hj
  refine wz 1 ?_
  exact rz rfl (Less.eq (by unfold plOK; rw [hall1, hall2, hall3]; simp_all))
theorem rplace_pure (p : Ply) (n : Int) (hh : p.hts.length ≤ 1000000) : APure Tryz.prog 118 [plA p, I n] (B (plIn p n)) := by
  refine ap Tryz.func118 (fun e0 he0 => ?_)
  refine wz 7 ?_
  refine kz az (rin_pure _ _ _) ?_
  refine wz 1 ?_
  exact rz rfl jz
theorem rlist_pure (p : Ply) {k : Nat} (hk : k < p.scs.length) (hh : p.hts.length ≤ 1000000) (hs : p.scs.length ≤ 1000000) (l : List Int) (hl : l.length ≤ 1000000) (hr : (sc p k).rest.length ≤ 1000000) : APure Tryz.prog 57 [plA p, I k, ints l] (B (plsOK p (sc p k) l)) := by
  refine ap Tryz.func57 (fun e0 he0 => ?_)
  refine aw_seq ?_
  have hse := sc_at hk
  rw [hse] at hr
  refine wz 3 ?_
  refine aw_loopk (ι := { m : Nat // m ≤ l.length ∧ ∀ i, (hi : i < l.length) → i < m → plIn p l[i] = true }) [1, 2, 3] (fun i => [(7, I i.1)]) (fun H i => H) (fun i => l.length - i.1) (⟨0, Nat.zero_le _, by omega⟩) ⟨jz, jz, jz, jz, trivial⟩ rfl ?_
  rintro ⟨m, hm, hok⟩
  refine nz ?_
  refine wz 4 ?_
  refine iz (fun c_11 c_11' => ?_) (fun c_11 c_11' => ?_)
  ·have hml : m < l.length := by omega
   refine wz 0 ?_
   refine aw_draw 7 mo (by kernel_rfl) ?_
   refine dz 5 ?_
   refine dkz az (rplace_pure p _ hh) ?_
   refine dz 1 ?_
   refine wz 0 ?_
   refine iz (fun c_20 c_20' => ?_) (fun c_20 c_20' => ?_)
   ·have hbad : l.all (plIn p) = false := all_bad hml (by simpa using c_20)
    refine wz 1 ?_
    exact rz rfl (Less.eq (congrArg B (by unfold plsOK; rw [pls_any, hbad]; simp)))
   refine wz 3 ?_
   exact ⟨⟨m + 1, by omega, fun i hi h => (by by_cases e : i = m; (subst e; simpa using c_20); exact hok i hi (by omega))⟩, by simp only; omega, Sub.slots ⟨jz, jz, jz, jz, trivial⟩⟩
  obtain rfl : m = l.length := by omega
  have hall : l.all (plIn p) = true := all_of fun j hj => hok j hj hj
  refine wz 11 ?_
  exact rz rfl (Less.eq (congrArg B (by unfold plsOK; rw [pls_any, hall, hse]; simp; omega)))
theorem short_pure (p : Ply) : APure Tryz.prog 19 [plA p] (B (shB p)) := by
  refine ap Tryz.func19 (fun e0 he0 => ?_)
  refine wz 3 ?_
  refine aw_loopk (ι := { k : Nat // k ≤ p.scs.length ∧ k ≤ 8 ∧ ∀ i, (hi : i < p.scs.length) → i < k → shX p.scs[i] = true }) [1] (fun i => [(3, I i.1)]) (fun H i => H) (fun i => p.scs.length - i.1) (⟨0, Nat.zero_le _, by omega, by omega⟩) ⟨jz, jz, trivial⟩ rfl ?_
  rintro ⟨k, hk, hk8, hok⟩
  refine nz ?_
  refine wz 6 ?_
  refine sz 10 (fun g2_5 g2_5' => ?_) (fun g2_5 g2_5' => ?_)
  ·have hkl : k < p.scs.length := by omega
   refine wz 3 ?_
   refine iz (fun c_13 c_13' => ?_) (fun c_13 c_13' => ?_)
   ·have hk8b : k < 8 := by have := of_decide_eq_true c_13; omega
    refine wz 12 ?_
    refine sz 25 (fun g5_4 g5_4' => ?_) (fun g5_4 g5_4' => ?_)
    ·have hbad := shB_row hkl hk8b (by unfold shX; simp; omega)
     refine wz 13 ?_
     exact rz rfl (Less.eq (by rw [hbad]))
    refine wz 6 ?_
    refine sz 31 (fun g5_10 g5_10' => ?_) (fun g5_10 g5_10' => ?_)
    ·have hbad := shB_row hkl hk8b (by unfold shX; simp; omega)
     refine wz 7 ?_
     exact rz rfl (Less.eq (by rw [hbad]))
    refine wz 5 ?_
    refine iz (fun c_36 c_36' => ?_) (fun c_36 c_36' => ?_)
    ·have h6 := of_decide_eq_true c_36
     have hbad := shB_row hkl hk8b (by unfold shX; simp; omega)
     refine wz 1 ?_
     exact rz rfl (Less.eq (by rw [hbad]))
    have h6 := of_decide_eq_false c_36
    have hsx : shX p.scs[k] = true := by unfold shX; simp; omega
    refine wz 3 ?_
    exact ⟨⟨k + 1, by omega, by omega, fun i hi h => (by by_cases e : i = k; (subst e; exact hsx); exact hok i hi (by omega))⟩, by simp only; omega, sb 1 ⟨jz, jz, trivial⟩⟩
   refine wz 5 ?_
   refine sz 41 (fun g7_4 g7_4' => ?_) (fun g7_4 g7_4' => ?_)
   ·refine wz 6 ?_
    refine sz 47 (fun g7_10 g7_10' => ?_) (fun g7_10 g7_10' => ?_)
    ·refine wz 6 ?_
     exact rz rfl (Less.eq (congrArg B (by have h9 := of_decide_eq_false c_13; rw [shB_fin (fun i hi h8 => hok i hi (by omega)), Bool.eq_iff_iff]; simp; omega)))
    refine wz 6 ?_
    exact rz rfl (Less.eq (congrArg B (by have h9 := of_decide_eq_false c_13; rw [shB_fin (fun i hi h8 => hok i hi (by omega)), Bool.eq_iff_iff]; simp; omega)))
   refine wz 12 ?_
   exact rz rfl (Less.eq (congrArg B (by have h9 := of_decide_eq_false c_13; rw [shB_fin (fun i hi h8 => hok i hi (by omega)), Bool.eq_iff_iff]; simp; omega)))
  obtain rfl : k = p.scs.length := by omega
  refine wz 9 ?_
  refine sz 41 (fun g7_4 g7_4' => ?_) (fun g7_4 g7_4' => ?_)
  ·refine wz 6 ?_
   refine sz 47 (fun g7_10 g7_10' => ?_) (fun g7_10 g7_10' => ?_)
   ·refine wz 6 ?_
    exact rz rfl (Less.eq (congrArg B (by rw [shB_fin (fun i hi _ => hok i hi hi), Bool.eq_iff_iff]; simp; omega)))
   refine wz 6 ?_
   exact rz rfl (Less.eq (congrArg B (by rw [shB_fin (fun i hi _ => hok i hi hi), Bool.eq_iff_iff]; simp; omega)))
  refine wz 12 ?_
  exact rz rfl (Less.eq (congrArg B (by rw [shB_fin (fun i hi _ => hok i hi hi), Bool.eq_iff_iff]; simp; omega)))
theorem slim_pure (L : List (List Int)) : APure Tryz.prog 60 [hds L] (B (slB L)) := by
  refine ap Tryz.func60 (fun e0 he0 => ?_)
  refine wz 2 ?_
  refine aw_loopk (ι := { k : Nat // k ≤ L.length ∧ k ≤ 8 ∧ ∀ i, (hi : i < L.length) → i < k → L[i].length ≤ 10 }) [0] (fun i => [(3, I i.1)]) (fun H i => H) (fun i => L.length - i.1) (⟨0, Nat.zero_le _, by omega, by omega⟩) ⟨jz, jz, trivial⟩ rfl ?_
  rintro ⟨k, hk, hk8, hok⟩
  refine nz ?_
  refine wz 5 ?_
  refine sz 8 (fun g2_4 g2_4' => ?_) (fun g2_4 g2_4' => ?_)
  ·have hkl : k < L.length := by omega
   refine wz 3 ?_
   refine iz (fun c_11 c_11' => ?_) (fun c_11 c_11' => ?_)
   ·have hk8b : k < 8 := by have := of_decide_eq_true c_11; omega
    refine wz 6 ?_
    refine iz (fun c_19 c_19' => ?_) (fun c_19 c_19' => ?_)
    ·have hbad := slB_row hkl hk8b (by have h6 := of_decide_eq_true c_19; omega)
     refine wz 1 ?_
     exact rz rfl (Less.eq (by rw [hbad]))
    refine wz 3 ?_
    exact ⟨⟨k + 1, by omega, by omega, fun i hi h => (by by_cases e : i = k; (subst e; have h6 := of_decide_eq_false c_19; omega); exact hok i hi (by omega))⟩, by simp only; omega, Sub.slots ⟨jz, jz, trivial⟩⟩
   refine wz 4 ?_
   exact rz rfl (Less.eq (congrArg B (by have h9 := of_decide_eq_false c_11; rw [slB_fin (fun i hi h8 => hok i hi (by omega)), Bool.eq_iff_iff]; simp; omega)))
  obtain rfl : k = L.length := by omega
  refine wz 8 ?_
  exact rz rfl (Less.eq (congrArg B (by rw [slB_fin (fun i hi _ => hok i hi hi), Bool.eq_iff_iff]; simp; omega)))
theorem before_pure (a b : List Int) (ha : a.length ≤ 1000000) (hb : b.length ≤ 1000000) : APure Tryz.prog 41 [ints a, ints b] (B (befB a b)) := by
  refine ap Tryz.func41 (fun e0 he0 => ?_)
  refine wz 2 ?_
  refine aw_loopk (ι := { k : Nat // k ≤ a.length ∧ ∀ i, (h1 : i < a.length) → (h2 : i < b.length) → i < k → a[i] = b[i] }) [0, 1] (fun g => [(5, I g.1)]) (fun H g => H) (fun g => a.length - g.1) (⟨0, Nat.zero_le _, by omega⟩) ⟨jz, jz, jz, trivial⟩ rfl ?_
  rintro ⟨k, hk, hok⟩
  refine nz ?_
  refine wz 5 ?_
  refine sz 10 (fun g2_4 g2_4' => ?_) (fun g2_4 g2_4' => ?_)
  ·have hka : k < a.length := by omega
   refine wz 5 ?_
   refine iz (fun c_15 c_15' => ?_) (fun c_15 c_15' => ?_)
   ·have hkb : k < b.length := by have := of_decide_eq_true c_15; omega
    refine wz 0 ?_
    refine aw_draw 9 mo (by kernel_rfl) ?_
    refine dz 9 ?_
    refine wz 0 ?_
    refine iz (fun c_26 c_26' => ?_) (fun c_26 c_26' => ?_)
    ·have hat := befB_at hka hkb hok (by simpa using c_26)
     refine wz 0 ?_
     refine aw_draw 10 mo (by kernel_rfl) ?_
     refine dz 10 ?_
     refine wz 0 ?_
     exact rz rfl (Less.eq (by rw [hat]))
    refine wz 3 ?_
    exact ⟨⟨k + 1, by omega, fun i h1 h2 h => (by by_cases e : i = k; (subst e; simpa using c_26); exact hok i h1 h2 (by omega))⟩, by simp only; omega, Sub.slots ⟨jz, jz, jz, trivial⟩⟩
   have hno := befB_no (a := a) (b := b) (fun i h1 h2 => hok i h1 h2 (by have := of_decide_eq_false c_15; omega))
   refine wz 1 ?_
   exact rz rfl (Less.eq (by rw [hno]))
  have hno := befB_no (a := a) (b := b) (fun i h1 h2 => hok i h1 h2 (by omega))
  refine wz 7 ?_
  exact rz rfl (Less.eq (by rw [hno]))
end Go.Proofs.YtfmpabgblbbcdaaGreatDoor
namespace Go.Proofs.YtfmpabgblbbcdaaGreatDoor
open Go Go.Ab Ni St
open Hd hiding sz
instance en20 : EnT Tryz.prog 20 := ⟨Ent.of Tryz.func20 (by kernel_rfl) rfl⟩
section
variable [Tabs]
section seq
variable {c : Ctx} {ops : Array Oper} {Q : AExit → St → Prop} {rest : List Oper} {s : St} {i : Nat}
variable {d : Option Tmp} {t : TypeId} {p : String} {af : Array Edge}
end seq
section ev
variable {P : Program} {r : Option Nat} {H : List AObj} {ρ : Operand → AV}
variable {d : Option Tmp} {t : TypeId} {p : String} {af : Array Edge} {g : Option (Nat × Bool)}
end ev
end
theorem short_t {p : Ply} (h : shB p = true) : APure Tryz.prog 19 [plA p] (B true) := by have q := short_pure p; rw [h] at q; exact q
theorem short_f {p : Ply} (h : shB p = false) : APure Tryz.prog 19 [plA p] (B false) := by have q := short_pure p; rw [h] at q; exact q
theorem pl_t {p : Ply} (hs : shB p = true) (h : plOK p = true) : APure Tryz.prog 22 [plA p] (B true) := by have q := rplay_pure p (shB_len hs).1 (shB_len hs).2.1 (shB_len hs).2.2.1 (shB_len hs).2.2.2; rw [h] at q; exact q
theorem pl_f {p : Ply} (hs : shB p = true) (h : plOK p = false) : APure Tryz.prog 22 [plA p] (B false) := by have q := rplay_pure p (shB_len hs).1 (shB_len hs).2.1 (shB_len hs).2.2.1 (shB_len hs).2.2.2; rw [h] at q; exact q
end Go.Proofs.YtfmpabgblbbcdaaGreatDoor
namespace Go.Proofs.YtfmpabgblbbcdaaGreatDoor
open Go Go.Ab Ni St
open Hd hiding sz
instance en70 : EnT Tryz.prog 70 := ⟨Ent.of Tryz.func70 (by kernel_rfl) rfl⟩
instance en80 : EnT Tryz.prog 80 := ⟨Ent.of Tryz.func80 (by kernel_rfl) rfl⟩
def badI (p : Ply) (x : Scn) (l : List Int) (i : Nat) : Prop := l.getD i 0 ∈ l.take i ∨ l.getD i 0 ∈ x.taken ∨ ((rf p x i).side = 1 ∧ p.left ≤ l.getD i 0) ∨ ((rf p x i).side = 2 ∧ l.getD i 0 < p.left)
theorem stands_no {p : Ply} {x : Scn} {l : List Int} {i : Nat} (hi : i < l.length) (h : badI p x l i) : stands p x l = false := by
  unfold stands; rw [decide_eq_false_iff_not]; exact fun q => q i hi h
theorem stands_yes {p : Ply} {x : Scn} {l : List Int} (h : ∀ i, i < l.length → ¬ badI p x l i) : stands p x l = true := by unfold stands; exact decide_eq_true h
theorem ranks_no1 {p : Ply} {x : Scn} {l : List Int} {i : Nat} (hi : i < l.length) (h : (rf p x i).rank < ht p (l.getD i 0)) : ranks p x l = false := by
  unfold ranks; rw [decide_eq_false_iff_not]; intro q; have := (q i hi).1; omega
theorem ranks_no2 {p : Ply} {x : Scn} {l : List Int} {i k : Nat} (hi : i < l.length) (hk : k < l.length) (h : clash p x l i k = true) : ranks p x l = false := by
  unfold ranks; rw [decide_eq_false_iff_not]; intro q; have := (q i hi).2 k hk; rw [h] at this; cases this
theorem ranks_yes {p : Ply} {x : Scn} {l : List Int} (h : ∀ i, i < l.length → ht p (l.getD i 0) ≤ (rf p x i).rank ∧ ∀ k, k < l.length → clash p x l i k = false) : ranks p x l = true := by unfold ranks; exact decide_eq_true h
theorem sc_ok {p : Ply} (B : PlB p) {k : Nat} (hk : k < p.scs.length) : p.scs[k] = sc p k ∧ ScB p (sc p k) := ⟨(sc_at hk).symm, sc_B B hk⟩
theorem rstands_pure {p : Ply} (gP : PlB p) {k : Nat} (hk : k < p.scs.length) {x : Scn} (hxe : p.scs[k] = x) (gX : ScB p x) {l : List Int} (hr : l.length ≤ x.rest.length) : APure Tryz.prog 80 [plA p, I k, ints l] (B (stands p x l)) := by
  refine ap Tryz.func80 (fun e0 he0 => ?_)
  refine vz 2 ?_
  refine sq_nil ?_
  refine aw_seq ?_
  have hr4 := gX.r4
  have htl := rising_len gX.tk
  have hnh := gP.nh
  refine wz 4 ?_
  refine sq_ev rfl (ev_less (ev_load_agg_i jz ty41.h (by simp)) (Less.eq (b := .agg (scC x)) (by rw [hxe]; rfl))) ?_
  refine wz 3 ?_
  refine aw_loopk (ι := { i : Nat // i ≤ l.length ∧ ∀ j, j < i → ¬ badI p x l j }) [2, 3, 7] (fun g => [(8, I g.1)]) (fun H g => H) (fun g => l.length - g.1) (⟨0, Nat.zero_le _, by omega⟩) ⟨jz, jz, jz, jz, trivial⟩ rfl ?_
  rintro ⟨i, hi, hok⟩
  refine nz ?_
  refine wz 4 ?_
  refine iz (fun c_18 c_18' => ?_) (fun c_18 c_18' => ?_)
  ·have hil : i < l.length := by omega
   have hri : i < x.rest.length := by omega
   have hfi := rs_at gX hri
   have hrf := rf_at gX hri
   have hg := getD_at (d := 0) hil
   refine wz 0 ?_
   refine aw_draw 11 mo (by kernel_rfl) ?_
   refine dz 7 ?_
   refine dr_ev rfl (ev_index_map (k := (x.rest[i]).toNat) (xs := p.figs) sl23.h jz jz (by have := hfi; omega) (by have := hfi; omega)) ?_
   refine dz 3 ?_
   refine wz 0 ?_
   refine aw_draw 43 mo (by kernel_rfl) ?_
   refine dz 2 ?_
   refine dr_ev rfl (ev_less (ev_slice (lo := 0) (hi := i) sl22.h jz rfl (less_int (by omega)) (by omega) (by simp; omega)) (Less.eq (b := ints (l.take i)) (by rw [List.drop_zero, ← List.map_take]))) ?_
   refine dz 4 ?_
   refine dkz az (has_pure _ _ (by rw [List.length_take]; omega)) ?_
   refine dz 1 ?_
   refine dsz 39 (fun g6_8 g6_8' => ?_) (fun g6_8 g6_8' => ?_)
   ·have hno := stands_no (p := p) (x := x) hil (by unfold badI; rw [hg, hrf]; exact .inl (of_decide_eq_true g6_8))
    refine dz 34 ?_
    refine wz 2 ?_
    exact rz rfl (Less.eq (by rw [hno]))
   refine dz 6 ?_
   refine dky az (has_pure _ _ (by omega)) ?_
   refine dz 2 ?_
   refine dsz 48 (fun g6_17 g6_17' => ?_) (fun g6_17 g6_17' => ?_)
   ·have hno := stands_no (p := p) (x := x) hil (by unfold badI; rw [hg, hrf]; exact .inr (.inl (of_decide_eq_true g6_17)))
    refine dz 25 ?_
    refine wz 2 ?_
    exact rz rfl (Less.eq (by rw [hno]))
   refine dz 3 ?_
   refine dsz 51 (fun g6_20 g6_20' => ?_) (fun g6_20 g6_20' => ?_)
   ·refine dz 10 ?_
    refine dsz 61 (fun g6_30 g6_30' => ?_) (fun g6_30 g6_30' => ?_)
    ·have hno := stands_no (p := p) (x := x) hil (by unfold badI; rw [hg, hrf]; exact .inr (.inr (.inl ⟨of_decide_eq_true g6_20, of_decide_eq_true g6_30⟩)))
     refine dz 12 ?_
     refine wz 2 ?_
     exact rz rfl (Less.eq (by rw [hno]))
    refine dz 3 ?_
    refine dsz 64 (fun g6_33 g6_33' => ?_) (fun g6_33 g6_33' => ?_)
    ·refine dz 9 ?_
     refine wz 0 ?_
     refine iz (fun c_73 c_73' => ?_) (fun c_73 c_73' => ?_)
     ·have hno := stands_no (p := p) (x := x) hil (by unfold badI; rw [hg, hrf]; exact .inr (.inr (.inr ⟨of_decide_eq_true g6_33, of_decide_eq_true c_73⟩)))
      refine wz 1 ?_
      exact rz rfl (Less.eq (by rw [hno]))
     have hnb : ¬ badI p x l i := by unfold badI; rw [hg, hrf]; simp_all
     refine wz 3 ?_
     exact ⟨⟨i + 1, by omega, fun j hj => (by rcases Nat.lt_or_ge j i with q | q; exact hok j q; (obtain rfl : j = i := by omega); exact hnb)⟩, by simp only; omega, Sub.slots ⟨jz, jz, jz, jz, trivial⟩⟩
    have hnb : ¬ badI p x l i := by unfold badI; rw [hg, hrf]; simp_all
    refine dz 9 ?_
    refine wz 4 ?_
    exact ⟨⟨i + 1, by omega, fun j hj => (by rcases Nat.lt_or_ge j i with q | q; exact hok j q; (obtain rfl : j = i := by omega); exact hnb)⟩, by simp only; omega, Sub.slots ⟨jz, jz, jz, jz, trivial⟩⟩
   refine dz 13 ?_
   refine dsz 64 (fun g6_33 g6_33' => ?_) (fun g6_33 g6_33' => ?_)
   ·refine dz 9 ?_
    refine wz 0 ?_
    refine iz (fun c_73 c_73' => ?_) (fun c_73 c_73' => ?_)
    ·have hno := stands_no (p := p) (x := x) hil (by unfold badI; rw [hg, hrf]; exact .inr (.inr (.inr ⟨of_decide_eq_true g6_33, of_decide_eq_true c_73⟩)))
     refine wz 1 ?_
     exact rz rfl (Less.eq (by rw [hno]))
    have hnb : ¬ badI p x l i := by unfold badI; rw [hg, hrf]; simp_all
    refine wz 3 ?_
    exact ⟨⟨i + 1, by omega, fun j hj => (by rcases Nat.lt_or_ge j i with q | q; exact hok j q; (obtain rfl : j = i := by omega); exact hnb)⟩, by simp only; omega, Sub.slots ⟨jz, jz, jz, jz, trivial⟩⟩
   have hnb : ¬ badI p x l i := by unfold badI; rw [hg, hrf]; simp_all
   refine dz 9 ?_
   refine wz 4 ?_
   exact ⟨⟨i + 1, by omega, fun j hj => (by rcases Nat.lt_or_ge j i with q | q; exact hok j q; (obtain rfl : j = i := by omega); exact hnb)⟩, by simp only; omega, Sub.slots ⟨jz, jz, jz, jz, trivial⟩⟩
  obtain rfl : i = l.length := by omega
  have hall := stands_yes (fun j hj => hok j hj)
  refine wz 1 ?_
  exact rz rfl (Less.eq (by rw [hall]))
theorem rrests_pure {p : Ply} (gP : PlB p) {k : Nat} (hk : k < p.scs.length) {x : Scn} (hxe : p.scs[k] = x) (gX : ScB p x) {l : List Int} (hl : l.length = x.rest.length) (hm : ∀ a ∈ l, 0 ≤ a ∧ a < p.hts.length) : APure Tryz.prog 70 [plA p, I k, ints l] (B (suits true p x l)) := by
  refine ap Tryz.func70 (fun e0 he0 => ?_)
  refine vz 2 ?_
  refine sq_nil ?_
  refine aw_seq ?_
  have hr4 := gX.r4
  have hnh := gP.nh
  have hnf := gP.nf
  have hss := suits_ranks gP gX hl
  refine wz 4 ?_
  refine sq_ev rfl (ev_less (ev_load_agg_i jz ty41.h (by simp)) (Less.eq (b := .agg (scC x)) (by rw [hxe]; rfl))) ?_
  refine wz 3 ?_
  refine aw_loopk (ι := { i : Nat // i ≤ l.length ∧ ∀ j, j < i → ht p (l.getD j 0) ≤ (rf p x j).rank ∧ ∀ u, u < l.length → clash p x l j u = false }) [1, 2, 3, 7] (fun g => [(8, I g.1)]) (fun H g => H) (fun g => l.length - g.1) (⟨0, Nat.zero_le _, by omega⟩) ⟨jz, jz, jz, jz, jz, trivial⟩ rfl ?_
  rintro ⟨i, hi, hok⟩
  refine nz ?_
  refine wz 4 ?_
  refine iz (fun c_19 c_19' => ?_) (fun c_19 c_19' => ?_)
  ·have hil : i < l.length := by omega
   have hri : i < x.rest.length := by omega
   have hfi := rs_at gX hri
   have hrf := rf_at gX hri
   have hg := getD_at (d := 0) hil
   have hmi := hm _ (List.getElem_mem hil)
   refine wz 0 ?_
   refine aw_draw 10 mo (by kernel_rfl) ?_
   refine dz 7 ?_
   refine dr_ev rfl (ev_index_map (k := (x.rest[i]).toNat) (xs := p.figs) sl23.h jz jz (by have := hfi; omega) (by have := hfi; omega)) ?_
   refine dz 1 ?_
   refine dr_alloc rfl z82.h ?_
   refine dr_end ?_
   refine wz 1 ?_
   refine aw_draw 11 mo (by kernel_rfl) ?_
   refine dz 6 ?_
   refine dr_ev rfl (ev_index_map (k := (l[i]).toNat) (xs := p.hts) sl22.h jz jz (by have := hmi; omega) (by have := hmi; omega)) ?_
   refine dz 4 ?_
   refine wz 0 ?_
   refine iz (fun c_41 c_41' => ?_) (fun c_41 c_41' => ?_)
   ·have hno : suits true p x l = false := by rw [hss, ranks_no1 hil (by rw [hg, hrf, ht_at hmi.1 hmi.2]; omega)]; rfl
    refine wz 1 ?_
    exact rz rfl (Less.eq (by rw [hno]))
   have hle : ht p (l.getD i 0) ≤ (rf p x i).rank := by rw [hg, hrf, ht_at hmi.1 hmi.2]; omega
   refine wz 1 ?_
   refine aw_loopk (ι := { u : Nat // u ≤ l.length ∧ ∀ v, v < u → clash p x l i v = false }) [1, 2, 3, 7, 8, 9] (fun y => [(10, I y.1)]) (fun H y => H) (fun y => l.length - y.1) (⟨0, Nat.zero_le _, by omega⟩) ⟨jz, jz, jz, jz, jz, jz, jz, trivial⟩ rfl ?_
   rintro ⟨u, hu, hok2⟩
   refine nz ?_
   refine wz 4 ?_
   refine iz (fun c_45 c_45' => ?_) (fun c_45 c_45' => ?_)
   ·have huL : u < l.length := by omega
    have huR : u < x.rest.length := by omega
    have hfu := rs_at gX huR
    have hmu := hm _ (List.getElem_mem huL)
    have hcl : clash p x l i u = ((lf p l[i] == lf p l[u]) && decide ((p.figs[(x.rest[i]).toNat]).rank < (p.figs[(x.rest[u]).toNat]).rank ∧ p.hts[(l[u]).toNat] < p.hts[(l[i]).toNat])) := by unfold clash; rw [getD_at hil, getD_at huL, rf_at gX hri, rf_at gX huR, ht_at hmi.1 hmi.2, ht_at hmu.1 hmu.2]
    refine wz 0 ?_
    refine aw_draw 49 mo (by kernel_rfl) ?_
    refine dz 16 ?_
    refine dsz 63 (fun g11_15 g11_15' => ?_) (fun g11_15 g11_15' => ?_)
    ·refine dz 9 ?_
     refine dr_yes rfl rfl (less_b g11_15) rfl (ev_index_map (k := (x.rest[u]).toNat) (xs := p.figs) sl23.h jz jz (by have := hfu; omega) (by have := hfu; omega)) ?_
     refine dz 5 ?_
     refine dsz 78 (fun g11_30 g11_30' => ?_) (fun g11_30 g11_30' => ?_)
     ·refine dz 6 ?_
      refine dr_yes rfl rfl (less_b g11_30) rfl (ev_index_map (k := (l[i]).toNat) (xs := p.hts) sl22.h jz jz (by have := hmi; omega) (by have := hmi; omega)) ?_
      refine dz 7 ?_
      refine dr_yes rfl rfl (less_b g11_30) rfl (ev_index_map (k := (l[u]).toNat) (xs := p.hts) sl22.h jz jz (by have := hmu; omega) (by have := hmu; omega)) ?_
      refine dz 3 ?_
      refine wz 0 ?_
      refine iz (fun c_96 c_96' => ?_) (fun c_96 c_96' => ?_)
      ·have hno : suits true p x l = false := by rw [hss, ranks_no2 hil huL (by rw [hcl]; unfold lf; simp_all)]; rfl
       refine wz 1 ?_
       exact rz rfl (Less.eq (by rw [hno]))
      have hnc : clash p x l i u = false := by rw [hcl, decide_eq_false (p := _ ∧ _) (fun q => by have := of_decide_eq_false c_96; omega), Bool.and_false]
      refine wz 3 ?_
      exact ⟨⟨u + 1, by omega, fun v hv => (by rcases Nat.lt_or_ge v u with q | q; exact hok2 v q; (obtain rfl : v = u := by omega); exact hnc)⟩, by simp only; omega, Sub.slots ⟨jz, jz, jz, jz, jz, jz, jz, trivial⟩⟩
     have hnc : clash p x l i u = false := by rw [hcl, decide_eq_false (p := _ ∧ _) (fun q => by have := of_decide_eq_false g11_30; omega), Bool.and_false]
     refine dz 18 ?_
     refine wz 4 ?_
     exact ⟨⟨u + 1, by omega, fun v hv => (by rcases Nat.lt_or_ge v u with q | q; exact hok2 v q; (obtain rfl : v = u := by omega); exact hnc)⟩, by simp only; omega, Sub.slots ⟨jz, jz, jz, jz, jz, jz, jz, trivial⟩⟩
    have hnc : clash p x l i u = false := by rw [hcl]; unfold lf; simp_all
    refine dz 33 ?_
    refine wz 4 ?_
    exact ⟨⟨u + 1, by omega, fun v hv => (by rcases Nat.lt_or_ge v u with q | q; exact hok2 v q; (obtain rfl : v = u := by omega); exact hnc)⟩, by simp only; omega, Sub.slots ⟨jz, jz, jz, jz, jz, jz, jz, trivial⟩⟩
   obtain rfl : u = l.length := by omega
   refine wz 3 ?_
   exact ⟨⟨i + 1, by omega, fun j hj => (by rcases Nat.lt_or_ge j i with q | q; exact hok j q; (obtain rfl : j = i := by omega); exact ⟨hle, fun u hu => hok2 u hu⟩)⟩, by simp only; omega, sb 2 ⟨jz, jz, jz, jz, jz, trivial⟩⟩
  obtain rfl : i = l.length := by omega
  have hall := ranks_yes (fun j hj => hok j hj)
  refine wz 3 ?_
  refine kz az (rstands_pure gP hk hxe gX (by omega)) ?_
  refine wz 1 ?_
  exact rz rfl (Less.eq (by rw [hss, hall, Bool.true_and]))
end Go.Proofs.YtfmpabgblbbcdaaGreatDoor
namespace Go.Proofs.YtfmpabgblbbcdaaGreatDoor
open Go Go.Ab Ni St
open Hd hiding sz
theorem rest_len {p : Ply} (hr : plOK p = true) {k : Nat} (hk : k < p.scs.length) : (sc p k).rest.length ≤ 4 := (sc_B (plOK_B hr) hk).r4
end Go.Proofs.YtfmpabgblbbcdaaGreatDoor
namespace Go.Proofs.YtfmpabgblbbcdaaGreatDoor
open Go Go.Ab Ni St
open Hd hiding sz
theorem ix_self {l : List Int} (hs : l.Pairwise (· < ·)) {i : Nat} (hi : i < l.length) : ixQ (fun x => decide (l[i] = x)) l = (i : Int) :=
  ixQ_at (q := fun x => decide (l[i] = x)) hi (decide_eq_true rfl) fun j hj q => decide_eq_false fun e => by have := List.pairwise_iff_getElem.1 hs j i hj hi q; omega
theorem lex_bef {a b : List Int} (hl : a.length = b.length) (h : Hd.lex a b = true) : befB b a = false := by
  induction a generalizing b with
  | nil => cases b with
    | nil => rfl
    | cons y b => simp at hl
  | cons x a ih => cases b with
    | nil => simp at hl
    | cons y b =>
      unfold Hd.lex at h; unfold befB
      by_cases e : x = y
      · rw [if_pos e] at h; rw [if_pos e.symm]; exact ih (by simpa using hl) h
      · rw [if_neg e] at h; rw [if_neg (fun q => e q.symm)]; have := of_decide_eq_true h; exact decide_eq_false (by omega)
theorem can_nil {p : Ply} {x : Scn} (hz : arr true p x = []) : St.can p x = false := by unfold St.can; rw [hz]; simp
theorem bef_f {a b : List Int} (ha : a.length ≤ 1000000) (hb : b.length ≤ 1000000) (h : befB a b = false) : APure Tryz.prog 41 [ints a, ints b] (B false) := by have q := before_pure a b ha hb; rw [h] at q; exact q
theorem pls_of {p : Ply} {x : Scn} {l : List Int} (h : l ∈ arr true p x) : plsOK p x l = true ∧ suits true p x l = true := ⟨plsOK_iff.2 ⟨(mem_arr.1 h).1, (mem_arr.1 h).2.1⟩, (mem_arr.1 h).2.2⟩
end Go.Proofs.YtfmpabgblbbcdaaGreatDoor
namespace Go.Proofs.YtfmpabgblbbcdaaGreatDoor
open Go Go.Ab Ni St
open Hd hiding sz
instance en65 : EnT Tryz.prog 65 := ⟨Ent.of Tryz.func65 (by kernel_rfl) rfl⟩
theorem plnOK_no {p : Ply} {L : List (List Int)} {n : Nat} (hn : n < L.length) (h : plnI p L n = false) : plnOK p L = false := by
  unfold plnOK
  rw [decide_eq_false (p := ∀ n, n < L.length → plnI p L n = true) (fun q => by rw [q n hn] at h; cases h), Bool.and_false]
theorem plnOK_yes {p : Ply} {L : List (List Int)} (hl : L.length = p.scs.length) (h : ∀ n, n < L.length → plnI p L n = true) : plnOK p L = true := by
  unfold plnOK; rw [decide_eq_true hl, decide_eq_true h]; rfl
theorem plnOK_len {p : Ply} {L : List (List Int)} (h : L.length ≠ p.scs.length) : plnOK p L = false := by unfold plnOK; rw [decide_eq_false h]; rfl
theorem risplan_pure {p : Ply} (gP : PlB p) (L : List (List Int)) (hL : L.length ≤ 1000000) (hl : ∀ l ∈ L, l.length ≤ 1000000) : APure Tryz.prog 65 [plA p, hds L] (B (plnOK p L)) := by
  refine ap Tryz.func65 (fun e0 he0 => ?_)
  refine vz 2 ?_
  refine sq_nil ?_
  refine aw_seq ?_
  refine aw_seq ?_
  have hns := gP.ns
  have hnh := gP.nh
  refine wz 6 ?_
  refine iz (fun c_11 c_11' => ?_) (fun c_11 c_11' => ?_)
  ·have hbad : plnOK p L = false := plnOK_len (by omega)
   refine wz 1 ?_
   exact rz rfl (Less.eq (by rw [hbad]))
  have hlen : L.length = p.scs.length := by omega
  refine wz 1 ?_
  refine aw_loopk (ι := { n : Nat // n ≤ L.length ∧ ∀ m, m < n → plnI p L m = true }) [1, 2] (fun i => [(5, I i.1)]) (fun H i => H) (fun i => L.length - i.1) (⟨0, Nat.zero_le _, by omega⟩) ⟨jz, jz, jz, trivial⟩ rfl ?_
  rintro ⟨n, hn, hok⟩
  refine nz ?_
  refine wz 4 ?_
  refine iz (fun c_15 c_15' => ?_) (fun c_15 c_15' => ?_)
  ·have hnL : n < L.length := by omega
   have hnl : n < p.scs.length := by omega
   refine wz 0 ?_
   refine aw_draw 18 mo (by kernel_rfl) ?_
   refine dz 4 ?_
   refine dr_ev rfl (ev_index_map (k := n) (xs := L) sl61.h jz jz rfl hnL) ?_
   refine dz 1 ?_
   refine dkz az (rlist_pure p hnl (by omega) (by omega) L[n] (hl _ (List.getElem_mem hnL)) (by have := (sc_B gP hnl).r4; omega)) ?_
   refine dz 2 ?_
   refine dsz 26 (fun g6_8 g6_8' => ?_) (fun g6_8 g6_8' => ?_)
   ·have hbad : plnOK p L = false := plnOK_no hnL (by rw [plnI_at hnL, show plsOK p (sc p n) L[n] = false by simpa using g6_8]; rfl)
    refine dz 9 ?_
    refine wz 2 ?_
    exact rz rfl (Less.eq (by rw [hbad]))
   have hpo : plsOK p (sc p n) L[n] = true := by simpa using g6_8
   refine dz 4 ?_
   refine dr_yes rfl rfl (less_b g6_8) rfl (ev_index_map (k := n) (xs := L) sl61.h jz jz rfl hnL) ?_
   refine dz 1 ?_
   refine dky az (rrests_pure gP hnl (sc_ok gP hnl).1 (sc_ok gP hnl).2 (plsOK_iff.1 hpo).1 (plsOK_iff.1 hpo).2) ?_
   refine dz 2 ?_
   refine wz 0 ?_
   refine iz (fun c_35 c_35' => ?_) (fun c_35 c_35' => ?_)
   ·have hbad : plnOK p L = false := plnOK_no hnL (by rw [plnI_at hnL, show suits true p (sc p n) L[n] = false by simpa using c_35, Bool.and_false])
    refine wz 1 ?_
    exact rz rfl (Less.eq (by rw [hbad]))
   have hgd : plnI p L n = true := by rw [plnI_at hnL, hpo, show suits true p (sc p n) L[n] = true by simpa using c_35]; rfl
   refine wz 3 ?_
   exact ⟨⟨n + 1, by omega, fun m hm => (by by_cases e : m = n; (subst e; exact hgd); exact hok m (by omega))⟩, by simp only; omega, Sub.slots ⟨jz, jz, jz, trivial⟩⟩
  obtain rfl : n = L.length := by omega
  have hall : plnOK p L = true := plnOK_yes hlen hok
  refine wz 1 ?_
  exact rz rfl (Less.eq (by rw [hall]))
end Go.Proofs.YtfmpabgblbbcdaaGreatDoor
namespace Go.Proofs.YtfmpabgblbbcdaaGreatDoor
open Go Go.Ab Ni St
open Hd hiding sz
def prevL (p : Ply) (n : Nat) : List Int := (pick p n).getD (n - 1) []
end Go.Proofs.YtfmpabgblbbcdaaGreatDoor
namespace Go.Proofs.YtfmpabgblbbcdaaGreatDoor
open Go Go.Ab Ni St
open Hd hiding sz
theorem ls_ne {p : Ply} (hA : ∀ i, i < p.scs.length → ls p i ≠ []) (n : Nat) : ls p n ≠ [] := by
  rcases Nat.lt_or_ge n p.scs.length with q | q
  · exact hA n q
  · have e : sc p n = ⟨[], [], 0, []⟩ := by unfold sc; simp [List.getD, List.getElem?_eq_none q]
    unfold ls arr; rw [e]; simp [dfs]
def smL (p : Ply) (n a : Nat) : Nat → List Int
  | 0 => []
  | i + 1 => if bstI p n i = true ∧ ¬ plcI p n a i ∈ smL p n a i then smL p n a i ++ [plcI p n a i] else smL p n a i
theorem smL_yes {p : Ply} {n a i : Nat} (h : bstI p n i = true) (h2 : ¬ plcI p n a i ∈ smL p n a i) : smL p n a (i + 1) = smL p n a i ++ [plcI p n a i] := by rw [smL, if_pos ⟨h, h2⟩]
theorem smL_no1 {p : Ply} {n a i : Nat} (h : bstI p n i = false) : smL p n a (i + 1) = smL p n a i := by rw [smL, if_neg (by rw [h]; simp)]
theorem smL_no2 {p : Ply} {n a i : Nat} (h : plcI p n a i ∈ smL p n a i) : smL p n a (i + 1) = smL p n a i := by rw [smL, if_neg (fun q => q.2 h)]
theorem smL_mem {p : Ply} {n a : Nat} : ∀ {i : Nat} {c : Int}, c ∈ smL p n a i ↔ ∃ j, j < i ∧ bstI p n j = true ∧ plcI p n a j = c
  | 0, c => by simp [smL]
  | i + 1, c => by
    have ih := smL_mem (p := p) (n := n) (a := a) (i := i) (c := c)
    have key : (∃ j, j < i + 1 ∧ bstI p n j = true ∧ plcI p n a j = c) ↔ (∃ j, j < i ∧ bstI p n j = true ∧ plcI p n a j = c) ∨ (bstI p n i = true ∧ plcI p n a i = c) := by
      constructor
      · rintro ⟨j, h1, h2⟩
        rcases Nat.lt_or_ge j i with q | q
        · exact .inl ⟨j, q, h2⟩
        · obtain rfl : j = i := by omega
          exact .inr h2
      · rintro (⟨j, h1, h2⟩ | h)
        · exact ⟨j, by omega, h2⟩
        · exact ⟨i, by omega, h⟩
    rw [key, ← ih]
    by_cases hb : bstI p n i = true
    · by_cases hm : plcI p n a i ∈ smL p n a i
      · rw [smL_no2 hm]
        exact ⟨.inl, fun h => by rcases h with h | h; exact h; exact h.2 ▸ hm⟩
      · rw [smL_yes hb hm, List.mem_append, List.mem_singleton]
        exact ⟨fun h => by rcases h with h | h; exact .inl h; exact .inr ⟨hb, h.symm⟩, fun h => by rcases h with h | h; exact .inl h; exact .inr h.2.symm⟩
    · rw [smL_no1 (by simpa using hb)]
      exact ⟨.inl, fun h => by rcases h with h | h; exact h; exact absurd h.1 hb⟩
theorem smL_met {p : Ply} {n a m k : Nat} : (k : Int) ∈ smL p n a m ↔ metB p n a m k = true := by
  rw [smL_mem]; unfold metB; rw [decide_eq_true_eq]
theorem smL_mny {p : Ply} {n a : Nat} : ∀ {m : Nat}, m ≤ (ls p n).length → (∀ i, i < (ls p n).length → 0 ≤ plcI p n a i ∧ plcI p n a i < p.hts.length) → (smL p n a m).length = mny (metK p n a m)
  | 0, _, _ => by rw [mny_zero]; rfl
  | m + 1, h, hr => by
    have ih := smL_mny (p := p) (n := n) (a := a) (m := m) (by omega) hr
    obtain ⟨c, hc⟩ : ∃ c : Nat, plcI p n a m = (c : Int) := ⟨(plcI p n a m).toNat, by have := hr m (by omega); omega⟩
    have hcl : c < p.hts.length := by have := hr m (by omega); omega
    by_cases hb : bstI p n m = true
    · by_cases hm : plcI p n a m ∈ smL p n a m
      · rw [smL_no2 hm, ih, metK_old hc (smL_met.1 (hc ▸ hm))]
      · rw [smL_yes hb hm, List.length_append, ih, metK_new hb hc hcl, mny_set (by rw [metK_len]; exact hcl)]; rfl
        rw [metK_get hcl]
        cases e : metB p n a m c with
        | false => rfl
        | true => exact absurd (hc ▸ smL_met.2 e) hm
    · rw [smL_no1 (by simpa using hb), ih, metK_no (by simpa using hb)]
theorem plcI_at {p : Ply} {n a i : Nat} (hi : i < (ls p n).length) (ha : a < (sc p n).rest.length) : plcI p n a i = (ls p n)[i][a]'(by rw [(mem_arr.1 (List.getElem_mem hi)).1]; exact ha) := by
  unfold plcI; rw [getD_at hi, getD_at (by rw [(mem_arr.1 (List.getElem_mem hi)).1]; exact ha)]
theorem plcI_in {p : Ply} {n a i : Nat} (hi : i < (ls p n).length) (ha : a < (sc p n).rest.length) : 0 ≤ plcI p n a i ∧ plcI p n a i < p.hts.length := by
  rw [plcI_at hi ha]; exact (mem_arr.1 (List.getElem_mem hi)).2.1 _ (List.getElem_mem _)
theorem word_at {p : Ply} {n a c : Nat} (hc : c < p.hts.length) (hr : ∀ i, i < (ls p n).length → 0 ≤ plcI p n a i ∧ plcI p n a i < p.hts.length) :
    wrdK (metK p n a (ls p n).length) (c + 1) = wrdK (metK p n a (ls p n).length) c ++ [if (c : Int) ∈ smL p n a (ls p n).length then (if (smL p n a (ls p n).length).length = 1 then 3 else 2) else 1] := by
  rw [wrdK_succ (by rw [metK_len]; exact hc), metK_get hc, smL_mny (Nat.le_refl _) hr]
  cases e : metB p n a (ls p n).length c with
  | false => rw [if_pos rfl, if_neg (fun h => by rw [smL_met.1 h] at e; cases e)]
  | true => rw [if_neg (by simp), if_pos (smL_met.2 e)]
end Go.Proofs.YtfmpabgblbbcdaaGreatDoor
namespace Go.Proofs.YtfmpabgblbbcdaaGreatDoor
open Go Go.Ab Ni St
open Hd hiding sz
instance en62 : EnT Tryz.prog 62 := ⟨Ent.of Tryz.func62 (by kernel_rfl) rfl⟩
theorem slim_t {L : List (List Int)} (h : slB L = true) : APure Tryz.prog 60 [hds L] (B true) := by have q := slim_pure L; rw [h] at q; exact q
theorem slim_f {L : List (List Int)} (h : slB L = false) : APure Tryz.prog 60 [hds L] (B false) := by have q := slim_pure L; rw [h] at q; exact q
theorem chg_t {p : Ply} {L : List (List Int)} (hs : shB p = true) (hr : plOK p = true) (hL : slB L = true) (h : plnOK p L = true) : APure Tryz.prog 62 [plA p, hds L] (.tup [I (chg p L), I 0]) := xchg_ok (shB_len hs).1 (shB_len hs).2.1 (shB_len hs).2.2.1 (shB_len hs).2.2.2 L (slB_len hL).1 (slB_len hL).2 hr (pln_get h).1 h
theorem pln_t {p : Ply} {L : List (List Int)} (hr : plOK p = true) (hL : slB L = true) (h : plnOK p L = true) : APure Tryz.prog 65 [plA p, hds L] (B true) := by have q := risplan_pure (plOK_B hr) L (slB_len hL).1 (slB_len hL).2; rw [h] at q; exact q
theorem pln_f {p : Ply} {L : List (List Int)} (hr : plOK p = true) (hL : slB L = true) (h : plnOK p L = false) : APure Tryz.prog 65 [plA p, hds L] (B false) := by have q := risplan_pure (plOK_B hr) L (slB_len hL).1 (slB_len hL).2; rw [h] at q; exact q
theorem fails_ls {p : Ply} (h : failsAt p = none) : ∀ i, i < p.scs.length → ls p i ≠ [] := fun i hi e => by
  have := fails_none h i hi
  rw [can_nil e] at this; cases this
theorem pick_bd {p : Ply} (gP : PlB p) (hA : ∀ i, i < p.scs.length → ls p i ≠ []) : ∀ l ∈ pick p p.scs.length, l.length ≤ 1000000 := fun l hl => by
  obtain ⟨i, hi, rfl⟩ := List.getElem_of_mem hl
  rw [pick_len] at hi
  have := (mem_arr.1 (pick_in hi (hA i hi))).1
  have := (sc_B gP hi).r4; omega
theorem whr_len (p : Ply) (n a : Nat) : (whr p n a).length = p.hts.length := by unfold whr; exact wrdK_len (by rw [metK_len]; exact Nat.le_refl _)
end Go.Proofs.YtfmpabgblbbcdaaGreatDoor
namespace Go.Proofs.YtfmpabgblbbcdaaGreatDoor
open Go Go.Ab Ni St
open Hd hiding sz
theorem valid_of {α : Type} {A : Nat → List α} : ∀ {l : List α} {n : Nat}, (∀ i, (hi : i < l.length) → l[i] ∈ A (n + i)) → valid A n l
  | [], _, _ => trivial
  | a :: l, n, h => ⟨h 0 (Nat.zero_lt_succ _), valid_of fun i hi => by have := h (i + 1) (by simpa using hi); rw [show n + 1 + i = n + (i + 1) by omega]; simpa using this⟩
theorem cost_snoc {α : Type} {s : Nat → α → α → Int} {l : List α} {a b : α} : cost s 0 (l ++ [a, b]) = cost s 0 (l ++ [a]) + s l.length a b := by
  have := cost_app (s := s) (n := 0) (l := l) (a := a) (m := [b])
  rw [this]; simp [cost]
theorem chg_cost {p : Ply} {L : List (List Int)} : ∀ m, m + 1 ≤ L.length → chgK p L m = cost (stp p) 0 (L.take (m + 1))
  | 0, h => by
    cases L with
    | nil => simp at h
    | cons a l => simp [chgK, cost]
  | m + 1, h => by
    have e1 : L.take (m + 2) = L.take m ++ [L[m], L[m + 1]] := by rw [List.take_succ_eq_append_getElem (show m + 1 < L.length by omega), List.take_succ_eq_append_getElem (show m < L.length by omega), List.append_assoc]; rfl
    have e2 : L.take (m + 1) = L.take m ++ [L[m]] := List.take_succ_eq_append_getElem (by omega)
    rw [chgK_succ, chg_cost m (by omega), e1, cost_snoc, e2, getD_at (show m < L.length by omega), getD_at (show m + 1 < L.length by omega), List.length_take, Nat.min_eq_left (by omega)]
theorem chg_is {p : Ply} {L : List (List Int)} (h : 0 < L.length) : chg p L = cost (stp p) 0 L := by
  unfold chg; rw [chg_cost _ (by omega), List.take_of_length_le (by omega)]
section few
variable {p : Ply} (gP : PlB p) (hA : ∀ i, i < p.scs.length → ls p i ≠ [])
include hA
theorem tot_is (h0 : 0 < p.scs.length) : totP p = fewP p := by
  have hpos : 0 < (ls p 0).length := List.length_pos_iff.2 (hA 0 h0)
  obtain ⟨j, hj, e, h1, _⟩ := bestW_ix (p := p) (n := 0) [] hpos
  have hw : ∀ i, wayV p [] 0 i = lefI p 0 i := fun i => by unfold wayV; simp
  have et : totP p = lefI p 0 j := by unfold totP; rw [e]; exact hw j
  have hlen : 0 < (lefR p 0).length := by simpa using hpos
  apply Int.le_antisymm
  · obtain ⟨i, hi, e2⟩ := List.mem_map.1 (Hd.mnL_mem hlen)
    have := h1 i (by simpa using hi)
    rw [hw, hw] at this
    unfold fewP; rw [← e2, et]; exact this
  · rw [et]; exact Hd.mnL_le (List.mem_map.2 ⟨j, by simpa using hj, rfl⟩)
theorem opt_few : opt (ls p) (stp p) (p.scs.length - 1) = fewP p := by
  have e2 : lefR p 0 = (ls p 0).map (lefF (ls p) (stp p) (p.scs.length - 1) 0) := by
    refine List.ext_getElem (by simp) fun i h1 h2 => ?_
    simp only [List.length_map, List.length_range] at h1
    simp only [List.getElem_map, List.getElem_range]
    unfold lefI; rw [getD_at h1]; rfl
  unfold fewP opt; rw [e2]
theorem pln_valid {L : List (List Int)} (h : plnOK p L = true) : L.length = p.scs.length ∧ valid (ls p) 0 L := by
  obtain ⟨h1, h2⟩ := pln_get h
  refine ⟨h1, valid_of fun i hi => ?_⟩
  have := h2 i hi
  rw [plnI_at hi, Bool.and_eq_true] at this
  rw [Nat.zero_add]
  exact mem_arr.2 ⟨(plsOK_iff.1 this.1).1, (plsOK_iff.1 this.1).2, this.2⟩
theorem few_le {L : List (List Int)} (h0 : 0 < p.scs.length) (h : plnOK p L = true) : totP p ≤ chg p L := by
  obtain ⟨h1, h2⟩ := pln_valid hA h
  rw [tot_is hA h0, ← opt_few hA, chg_is (by omega)]
  exact opt_le (by omega) h2
theorem pick_ok : plnOK p (pick p p.scs.length) = true := by
  refine plnOK_yes (pick_len _ _) fun n hn => ?_
  rw [plnI_at hn]
  rw [pick_len] at hn
  have := pls_of (pick_in hn (hA n hn))
  rw [this.1, this.2]; rfl
theorem pick_inv : ∀ n, (hn : n < p.scs.length) → cost (stp p) 0 (pick p (n + 1)) + lefF (ls p) (stp p) (p.scs.length - 1 - n) n ((pick p (n + 1))[n]'(by rw [pick_len]; omega)) = totP p ∧
    ∀ k, (hk : k < (ls p n).length) → totP p ≤ cost (stp p) 0 (pick p n) + wayV p (prevL p n) n k
  | 0, hn => by
    have hpos : 0 < (ls p 0).length := List.length_pos_iff.2 (hA 0 hn)
    obtain ⟨j, hj, e1, h1, h2⟩ := pick_ix (p := p) (i := 0) (n := 1) (by omega) (hA 0 hn)
    obtain ⟨q, hq, e2, h3, _⟩ := bestW_ix (p := p) (n := 0) [] hpos
    have hw : ∀ i, wayV p [] 0 i = lefI p 0 i := fun i => by unfold wayV; simp
    have e0 : (pick p 0).getD (0 - 1) [] = [] := rfl
    rw [e0] at h1 h2
    have et : totP p = wayV p [] 0 q := by unfold totP; rw [e2]
    have hjq : wayV p [] 0 j = wayV p [] 0 q := by have a := h1 q hq; have b := h3 j hj; omega
    constructor
    · rw [e1]
      have : cost (stp p) 0 (pick p 1) = 0 := by simp [pick, cost]
      rw [this, et, ← hjq, hw]
      unfold lefI; rw [getD_at hj, Nat.sub_zero]; omega
    · intro k hk
      have : cost (stp p) 0 (pick p 0) = 0 := by simp [pick, cost]
      rw [this, et]
      have := h3 k hk
      show _ ≤ 0 + wayV p [] 0 k; omega
  | n + 1, hn => by
    obtain ⟨ih, _⟩ := pick_inv n (by omega)
    obtain ⟨j, hj, e1, h1, h2⟩ := pick_ix (p := p) (i := n + 1) (n := n + 2) (by omega) (hA (n + 1) hn)
    have ed : p.scs.length - 1 - n = (p.scs.length - 1 - (n + 1)) + 1 := by omega
    have ep : pick p (n + 2) = pick p (n + 1) ++ [(pick p (n + 2))[n + 1]'(by rw [pick_len]; omega)] := by
      have t1 : (pick p (n + 2)).take (n + 1) = pick p (n + 1) := pick_take p (by omega)
      have t2 : (pick p (n + 2)).take (n + 1 + 1) = pick p (n + 2) := List.take_of_length_le (by rw [pick_len]; omega)
      have := List.take_succ_eq_append_getElem (l := pick p (n + 2)) (i := n + 1) (by rw [pick_len]; omega)
      rw [t1, t2] at this
      exact this
    have ep1 : pick p (n + 1) = (pick p (n + 1)).take n ++ [(pick p (n + 1))[n]'(by rw [pick_len]; omega)] := by
      have := List.take_succ_eq_append_getElem (l := pick p (n + 1)) (i := n) (by rw [pick_len]; omega)
      rw [List.take_of_length_le (by rw [pick_len]; omega)] at this
      exact this
    generalize hx : (pick p (n + 1))[n]'(by rw [pick_len]; omega) = x at ih ep1
    have hprev : prevL p (n + 1) = x := by unfold prevL; rw [Nat.add_sub_cancel, getD_at (by rw [pick_len]; omega), hx]
    have hpv : (pick p (n + 1)).getD (n + 1 - 1) [] = x := hprev
    rw [hpv] at h1 h2
    have ec : ∀ b, cost (stp p) 0 (pick p (n + 1) ++ [b]) = cost (stp p) 0 (pick p (n + 1)) + stp p n x b := fun b => by
      have := cost_snoc (s := stp p) (l := (pick p (n + 1)).take n) (a := x) (b := b)
      rw [List.length_take, pick_len, Nat.min_eq_left (by omega), ← ep1] at this
      rw [← this]
      conv => lhs; rw [ep1]
      rw [List.append_assoc]; rfl
    -- what is left behind x is the least of the ways
    have hway : ∀ k, (hk : k < (ls p (n + 1)).length) → wayV p x (n + 1) k = lefF (ls p) (stp p) (p.scs.length - 1 - (n + 1)) (n + 1) (ls p (n + 1))[k] + stp p n x (ls p (n + 1))[k] := fun k hk => by
      unfold wayV lefI; rw [if_neg (by omega), Nat.add_sub_cancel, getD_at hk]
    have hmin : lefF (ls p) (stp p) (p.scs.length - 1 - n) n x = wayV p x (n + 1) j := by
      rw [ed]
      show mnL ((ls p (n + 1)).map fun b => lefF (ls p) (stp p) (p.scs.length - 1 - (n + 1)) (n + 1) b + stp p n x b) = _
      apply Int.le_antisymm
      · rw [hway j hj]; exact Hd.mnL_le (List.mem_map.2 ⟨_, List.getElem_mem hj, rfl⟩)
      · obtain ⟨b, hb, e⟩ := List.mem_map.1 (Hd.mnL_mem (l := (ls p (n + 1)).map fun b => lefF (ls p) (stp p) (p.scs.length - 1 - (n + 1)) (n + 1) b + stp p n x b) (by simpa using List.length_pos_iff.2 (hA (n + 1) hn)))
        obtain ⟨k, hk, rfl⟩ := List.getElem_of_mem hb
        rw [← e, ← hway k hk]; exact h1 k hk
    constructor
    · have ecc : cost (stp p) 0 (pick p (n + 2)) = cost (stp p) 0 (pick p (n + 1) ++ [(ls p (n + 1))[j]]) := congrArg (cost (stp p) 0) (ep.trans (by rw [e1]))
      rw [hmin, hway j hj] at ih
      have h9 : cost (stp p) 0 (pick p (n + 2)) + lefF (ls p) (stp p) (p.scs.length - 1 - (n + 1)) (n + 1) (ls p (n + 1))[j] = totP p := by rw [ecc, ec]; omega
      rw [← e1] at h9; exact h9
    · intro k hk
      rw [hprev]
      have := h1 k hk
      rw [hmin] at ih; omega
theorem pick_cost (h0 : 0 < p.scs.length) : chg p (pick p p.scs.length) = totP p := by
  obtain ⟨n, hn⟩ : ∃ n, p.scs.length = n + 1 := ⟨p.scs.length - 1, by omega⟩
  have h := (pick_inv hA n (by omega)).1
  rw [show p.scs.length - 1 - n = 0 by omega] at h
  rw [chg_is (by rw [pick_len]; exact h0), hn]
  simp only [lefF] at h; omega
theorem best_met {L : List (List Int)} (h : plnOK p L = true) (he : chg p L = totP p) {n a : Nat} (hn : n < p.scs.length) (hnL : n < L.length) (ha : a < (sc p n).rest.length) (haL : a < L[n].length) : L[n][a] ∈ smL p n a (ls p n).length := by
  obtain ⟨h1, h2⟩ := pln_valid hA h
  have hm : L[n] ∈ ls p n := by have := valid_get h2 hnL; rwa [Nat.zero_add] at this
  obtain ⟨i, hi, e⟩ := List.getElem_of_mem hm
  have hA2 := ls_ne hA
  have t1 := thru_le (s := stp p) (last := p.scs.length - 1) (n := n) (by omega) (by omega) h2
  have t2 : opt (ls p) (stp p) (p.scs.length - 1) ≤ thru (ls p) (stp p) (p.scs.length - 1) n L[n] := by
    rw [← opt_thru (s := stp p) hA2 (last := p.scs.length - 1) (n := n) (by omega)]
    exact Hd.mnL_le (List.mem_map.2 ⟨_, hm, rfl⟩)
  rw [opt_few hA] at t2
  rw [← chg_is (by omega), he, tot_is hA (by omega)] at t1
  rw [smL_mem]
  refine ⟨i, hi, ?_, ?_⟩
  · unfold bstI; rw [decide_eq_true_eq]
    unfold befI lefI; rw [getD_at hi, e]
    unfold thru at t1 t2; omega
  · unfold plcI; simp only [getD_at hi, e]; rw [getD_at haL]
theorem whr_at {n a c : Nat} (hn : n < p.scs.length) (ha : a < (sc p n).rest.length) (hc : c < p.hts.length) (hm : (c : Int) ∈ smL p n a (ls p n).length) :
    (whr p n a)[c]'(by rw [whr_len]; exact hc) = if (smL p n a (ls p n).length).length = 1 then 3 else 2 := by
  have hw := word_at (p := p) (n := n) (a := a) hc (fun i hi => plcI_in hi ha)
  rw [if_pos hm] at hw
  have hl : c < (wrdK (metK p n a (ls p n).length) (c + 1)).length := by rw [wrdK_len (by rw [metK_len]; omega)]; omega
  have e1 : (whr p n a)[c]'(by rw [whr_len]; exact hc) = (wrdK (metK p n a (ls p n).length) (c + 1))[c] := by
    unfold whr wrdK; simp
  rw [e1]
  have hlc : (wrdK (metK p n a (ls p n).length) c).length = c := wrdK_len (by rw [metK_len]; omega)
  simp only [hw]
  rw [List.getElem_append_right (by omega)]
  simp [hlc]
theorem few_words {L : List (List Int)} (h : plnOK p L = true) (he : chg p L = totP p) {n a : Nat} (hn : n < p.scs.length) (hnL : n < L.length) (hnP : n < (pick p p.scs.length).length) (ha : a < (sc p n).rest.length) (haL : a < L[n].length) (haP : a < (pick p p.scs.length)[n].length) :
    (0 ≤ L[n][a] ∧ L[n][a] < p.hts.length) ∧ (0 ≤ (pick p p.scs.length)[n][a] ∧ (pick p p.scs.length)[n][a] < p.hts.length) ∧
    (∀ hc : (L[n][a]).toNat < (whr p n a).length, ∀ hd : ((pick p p.scs.length)[n][a]).toNat < (whr p n a).length, (whr p n a)[(L[n][a]).toNat] = (whr p n a)[((pick p p.scs.length)[n][a]).toNat] ∧ 2 ≤ (whr p n a)[(L[n][a]).toNat] ∧ ((whr p n a)[(L[n][a]).toNat] = 3 → L[n][a] = (pick p p.scs.length)[n][a])) := by
  have m1 := best_met hA h he hn hnL ha haL
  have m2 := best_met hA (pick_ok hA) (pick_cost hA (by omega)) hn hnP ha haP
  have b1 : 0 ≤ L[n][a] ∧ L[n][a] < p.hts.length := by
    obtain ⟨i, hi, _, e⟩ := smL_mem.1 m1; rw [← e]; exact plcI_in hi ha
  have b2 : 0 ≤ (pick p p.scs.length)[n][a] ∧ (pick p p.scs.length)[n][a] < p.hts.length := by
    obtain ⟨i, hi, _, e⟩ := smL_mem.1 m2; rw [← e]; exact plcI_in hi ha
  refine ⟨b1, b2, fun hc hd => ?_⟩
  rw [whr_at hA hn ha (by omega) (by rw [show (((L[n][a]).toNat : Nat) : Int) = L[n][a] by omega]; exact m1), whr_at hA hn ha (by omega) (by rw [show ((((pick p p.scs.length)[n][a]).toNat : Nat) : Int) = (pick p p.scs.length)[n][a] by omega]; exact m2)]
  refine ⟨rfl, by split <;> omega, fun q => ?_⟩
  split at q
  · rename_i h1
    match hs : smL p n a (ls p n).length, h1 with
    | [x], _ =>
      rw [hs, List.mem_singleton] at m1 m2
      rw [m1, m2]
  · omega
theorem few_bef {L : List (List Int)} (h : plnOK p L = true) (he : chg p L = totP p) {n : Nat} (hn : n < p.scs.length) (hnL : n < L.length) (hnP : n < (pick p p.scs.length).length) (ht : L.take n = (pick p p.scs.length).take n) (hne : L[n] ≠ (pick p p.scs.length)[n]) : befB L[n] (pick p p.scs.length)[n] = false := by
  obtain ⟨h1, h2⟩ := pln_valid hA h
  have hm : L[n] ∈ ls p n := by have := valid_get h2 hnL; rwa [Nat.zero_add] at this
  obtain ⟨i, hi, e⟩ := List.getElem_of_mem hm
  obtain ⟨j, hj, e1, h3, h4⟩ := pick_ix (p := p) (i := n) (n := p.scs.length) hn (hA n hn)
  rw [pick_take p (by omega)] at ht
  -- the plan's way is as good
  have hcost : cost (stp p) 0 (pick p n) + wayV p (prevL p n) n i ≤ chg p L := by
    have eL : L = pick p n ++ L[n] :: L.drop (n + 1) := by rw [← ht, ← List.drop_eq_getElem_cons, List.take_append_drop]
    have hr : valid (ls p) (n + 1) (L.drop (n + 1)) := by
      have := h2; rw [eL] at this
      have := (valid_app.1 this).2.2
      rwa [Nat.zero_add, pick_len] at this
    have h5 := lef_le (s := stp p) (d := p.scs.length - 1 - n) (n := n) (a := L[n]) (r := L.drop (n + 1)) (by rw [List.length_drop]; omega) hr
    rw [chg_is (by omega)]
    have ec : cost (stp p) 0 L = cost (stp p) 0 (pick p n ++ [L[n]]) + cost (stp p) n (L[n] :: L.drop (n + 1)) := by
      have := cost_app (s := stp p) (n := 0) (l := pick p n) (a := L[n]) (m := L.drop (n + 1))
      rw [← eL, Nat.zero_add, pick_len] at this; exact this
    rw [ec]
    have ew : cost (stp p) 0 (pick p n) + wayV p (prevL p n) n i = cost (stp p) 0 (pick p n ++ [L[n]]) + lefF (ls p) (stp p) (p.scs.length - 1 - n) n L[n] := by
      unfold wayV lefI
      rw [getD_at hi, e]
      rcases Nat.eq_zero_or_pos n with q | q
      · subst q; rw [if_pos rfl]; simp [pick, cost]
      · rw [if_neg (by omega)]
        have ep : pick p n = (pick p n).take (n - 1) ++ [prevL p n] := by
          have := List.take_succ_eq_append_getElem (l := pick p n) (i := n - 1) (by rw [pick_len]; omega)
          rw [show n - 1 + 1 = n by omega, List.take_of_length_le (by rw [pick_len]; omega)] at this
          unfold prevL; rw [getD_at (by rw [pick_len]; omega)]; exact this
        have ec2 := cost_snoc (s := stp p) (l := (pick p n).take (n - 1)) (a := prevL p n) (b := L[n])
        rw [List.length_take, pick_len, Nat.min_eq_left (by omega), ← ep] at ec2
        have e3 : pick p n ++ [L[n]] = (pick p n).take (n - 1) ++ [prevL p n, L[n]] := by
          conv => lhs; rw [ep]
          rw [List.append_assoc]; rfl
        rw [e3, ec2]; omega
    omega
  have hmin := (pick_inv hA n hn).2 j hj
  have hji : wayV p (prevL p n) n i ≤ wayV p (prevL p n) n j := by omega
  rcases Nat.lt_trichotomy i j with q | q | q
  · have := h4 i q
    have e5 : (pick p n).getD (n - 1) [] = prevL p n := rfl
    rw [e5] at this; omega
  · subst q; exact absurd (by rw [← e, e1]) hne
  · have hl := List.pairwise_iff_getElem.1 (arr_lex true p (sc p n)) j i hj hi q
    rw [e1, ← e]
    exact lex_bef (by rw [(mem_arr.1 (List.getElem_mem hj)).1, (mem_arr.1 (List.getElem_mem hi)).1]) hl
end few
end Go.Proofs.YtfmpabgblbbcdaaGreatDoor
namespace Go.Proofs.YtfmpabgblbbcdaaGreatDoor
open Go Go.Ab Ni St
open Hd hiding sz
theorem pln_len2 {p : Ply} {L : List (List Int)} (h : plnOK p L = true) {n : Nat} (hnL : n < L.length) : L[n].length = (sc p n).rest.length := by
  have := (pln_get h).2 n hnL
  rw [plnI_at hnL, Bool.and_eq_true] at this
  exact (plsOK_iff.1 this.1).1
theorem chg_pick {p : Ply} (hs : shB p = true) (hr : plOK p = true) (hA : ∀ i, i < p.scs.length → ls p i ≠ []) (h0 : 0 < p.scs.length) : APure Tryz.prog 62 [plA p, hds (pick p p.scs.length)] (.tup [I (totP p), I 0]) := by
  have q := xchg_ok (shB_len hs).1 (shB_len hs).2.1 (shB_len hs).2.2.1 (shB_len hs).2.2.2 (pick p p.scs.length) (by rw [pick_len]; exact (shB_len hs).2.2.1) (pick_bd (plOK_B hr) hA) hr (pick_len _ _) (pick_ok hA)
  rw [pick_cost hA h0] at q; exact q
theorem pln_pick {p : Ply} (hs : shB p = true) (hr : plOK p = true) (hA : ∀ i, i < p.scs.length → ls p i ≠ []) : APure Tryz.prog 65 [plA p, hds (pick p p.scs.length)] (B true) := by
  have q := risplan_pure (plOK_B hr) (pick p p.scs.length) (by rw [pick_len]; exact (shB_len hs).2.2.1) (pick_bd (plOK_B hr) hA)
  rw [pick_ok hA] at q; exact q
theorem take_more {α : Type} {l m : List α} {n : Nat} (hl : n < l.length) (hm : n < m.length) : l.take (n + 1) = m.take (n + 1) ↔ l.take n = m.take n ∧ l[n] = m[n] := by
  rw [List.take_succ_eq_append_getElem hl, List.take_succ_eq_append_getElem hm]
  constructor
  · intro h
    have := List.append_inj h (by rw [List.length_take, List.length_take]; omega)
    exact ⟨this.1, by simpa using this.2⟩
  · rintro ⟨h1, h2⟩; rw [h1, h2]
theorem tk_dec {l m : List (List Int)} {n : Nat} (hl : n < l.length) (hm : n < m.length) : (!decide (l.take (n + 1) = m.take (n + 1))) = !(decide (l.take n = m.take n) && decide (l[n] = m[n])) := by
  rw [← Bool.decide_and]; congr 1; exact decide_eq_decide.2 (take_more hl hm)
theorem law16_a {p : Ply} {L : List (List Int)} (hs : shB p = false) : APure Tryz.prog 16 [plA p, hds L] (B true) := by
  refine ap Tryz.func16 (fun e0 he0 => ?_)
  refine wz 3 ?_
  refine kz az (short_f hs) ?_
  refine wz 18 ?_
  refine kz az (known_pure) ?_
  refine wz 1 ?_
  exact rz rfl jz
theorem law16_b {p : Ply} {L : List (List Int)} (hs : shB p = true) (hL : slB L = false) : APure Tryz.prog 16 [plA p, hds L] (B true) := by
  refine ap Tryz.func16 (fun e0 he0 => ?_)
  refine wz 3 ?_
  refine kz az (short_t hs) ?_
  refine wz 3 ?_
  refine ky az (slim_f hL) ?_
  refine wz 14 ?_
  refine kz az (known_pure) ?_
  refine wz 1 ?_
  exact rz rfl jz
theorem law16_c {p : Ply} {L : List (List Int)} (hs : shB p = true) (hL : slB L = true) (hr : plOK p = false) : APure Tryz.prog 16 [plA p, hds L] (B true) := by
  refine ap Tryz.func16 (fun e0 he0 => ?_)
  refine wz 3 ?_
  refine kz az (short_t hs) ?_
  refine wz 3 ?_
  refine ky az (slim_t hL) ?_
  refine wz 4 ?_
  refine ky az (pl_f hs hr) ?_
  refine wz 9 ?_
  refine kz az (known_pure) ?_
  refine wz 1 ?_
  exact rz rfl jz
theorem law16_d {p : Ply} {L : List (List Int)} (hs : shB p = true) (hL : slB L = true) (hr : plOK p = true) (hp : plnOK p L = false) : APure Tryz.prog 16 [plA p, hds L] (B true) := by
  refine ap Tryz.func16 (fun e0 he0 => ?_)
  refine wz 3 ?_
  refine kz az (short_t hs) ?_
  refine wz 3 ?_
  refine ky az (slim_t hL) ?_
  refine wz 4 ?_
  refine ky az (pl_t hs hr) ?_
  refine wz 5 ?_
  refine ky az (pln_f hr hL hp) ?_
  refine wz 3 ?_
  refine kz az (known_pure) ?_
  refine wz 1 ?_
  exact rz rfl jz
theorem law16_e {p : Ply} {L : List (List Int)} (hs : shB p = true) (hL : slB L = true) (hr : plOK p = true) (hp : plnOK p L = true) {n : Nat} (h : failsAt p = some n) : APure Tryz.prog 16 [plA p, hds L] (B true) := by
  refine ap Tryz.func16 (fun e0 he0 => ?_)
  refine wz 3 ?_
  refine kz az (short_t hs) ?_
  refine wz 3 ?_
  refine ky az (slim_t hL) ?_
  refine wz 4 ?_
  refine ky az (pl_t hs hr) ?_
  refine wz 5 ?_
  refine ky az (pln_t hr hL hp) ?_
  refine wz 4 ?_
  refine kz az (xplan_no (shB_len hs).1 (shB_len hs).2.1 (shB_len hs).2.2.1 (shB_len hs).2.2.2 hr h) ?_
  refine wz 9 ?_
  refine kz az (chg_t hs hr hL hp) ?_
  refine wz 20 ?_
  refine kz az (xfails_ok (shB_len hs).1 (shB_len hs).2.1 (shB_len hs).2.2.1 (shB_len hs).2.2.2 hr h) ?_
  refine wz 10 ?_
  refine ky az (known_pure) ?_
  refine wz 2 ?_
  exact rz rfl jz
theorem law16_f {p : Ply} {L : List (List Int)} (hs : shB p = true) (hL : slB L = true) (hr : plOK p = true) (hp : plnOK p L = true) (h : failsAt p = none) (hA : ∀ i, i < p.scs.length → ls p i ≠ []) (h0 : 0 < p.scs.length) (gP : PlB p) : APure Tryz.prog 16 [plA p, hds L] (B true) := by
  refine ap Tryz.func16 (fun e0 he0 => ?_)
  refine wz 3 ?_
  refine kz az (short_t hs) ?_
  refine wz 3 ?_
  refine ky az (slim_t hL) ?_
  refine wz 4 ?_
  refine ky az (pl_t hs hr) ?_
  refine wz 5 ?_
  refine ky az (pln_t hr hL hp) ?_
  refine wz 4 ?_
  refine kz az (xplan_ok (shB_len hs).1 (shB_len hs).2.1 (shB_len hs).2.2.1 (shB_len hs).2.2.2 hr h) ?_
  refine wz 9 ?_
  refine kz az (chg_t hs hr hL hp) ?_
  refine wz 21 ?_
  refine kz az (chg_pick hs hr hA h0) ?_
  refine wz 7 ?_
  refine kz az (pln_pick hs hr hA) ?_
  refine wz 11 ?_
  refine sz 95 (fun g11_13 g11_13' => ?_) (fun g11_13 g11_13' => ?_)
  ·exfalso
   simp at g11_13
  refine wz 4 ?_
  refine iz (fun c_99 c_99' => ?_) (fun c_99 c_99' => ?_)
  ·exfalso
   have hfe := few_le hA h0 hp
   omega
  refine wz 3 ?_
  refine iz (fun c_102 c_102' => ?_) (fun c_102 c_102' => ?_)
  ·refine wz 0 ?_
   refine kz az (known_pure) ?_
   refine wz 1 ?_
   exact rz rfl jz
  have hfe := few_le hA h0 hp
  have he : chg p L = totP p := by omega
  have hLl := (pln_get hp).1
  have hPl := pick_len p p.scs.length
  have hns := gP.ns
  refine wz 3 ?_
  refine aw_loopk (ι := { n : Nat // n ≤ p.scs.length }) [1, 2, 5] (fun g => [(15, B false), (16, B (!decide (L.take g.1 = (pick p p.scs.length).take g.1))), (17, I g.1)]) (fun H g => H) (fun g => p.scs.length - g.1) (⟨0, Nat.zero_le _⟩) ⟨jz, (by exact less_b (by simp)), jz, jz, jz, jz, trivial⟩ rfl ?_
  rintro ⟨n, hnn⟩
  refine nz ?_
  refine wz 4 ?_
  refine iz (fun c_107 c_107' => ?_) (fun c_107 c_107' => ?_)
  ·have hn : n < p.scs.length := by omega
   have hnL : n < L.length := by omega
   have hnP : n < (pick p p.scs.length).length := by omega
   have hr4 := rest_len hr hn
   have hPr : (pick p p.scs.length)[n].length = (sc p n).rest.length := (mem_arr.1 (pick_in hn (hA n hn))).1
   refine wz 0 ?_
   refine aw_draw 14 mo (by kernel_rfl) ?_
   refine dz 3 ?_
   refine dsz 112 (fun g19_2 g19_2' => ?_) (fun g19_2 g19_2' => ?_)
   ·have ht : L.take n = (pick p p.scs.length).take n := by simpa using g19_2
    refine dz 2 ?_
    refine dr_yes rfl rfl (less_b g19_2) rfl (ev_index_map (k := n) (xs := L) sl61.h jz jz rfl hnL) ?_
    refine dz 3 ?_
    refine dr_yes rfl rfl (less_b g19_2) rfl (ev_index_map (k := n) (xs := (pick p p.scs.length)) sl61.h jz jz rfl hnP) ?_
    refine dz 1 ?_
    refine dky az (same_pure L[n] (pick p p.scs.length)[n] (by have := pln_len2 hp hnL; have := rest_len hr hn; omega) (by have := rest_len hr hn; omega)) ?_
    refine dz 2 ?_
    refine wz 0 ?_
    refine iz (fun c_123 c_123' => ?_) (fun c_123 c_123' => ?_)
    ·have hne : ¬ L[n] = (pick p p.scs.length)[n] := by simpa using c_123
     refine aw_draw 11 mo (by kernel_rfl) ?_
     refine dz 2 ?_
     refine dr_ev rfl (ev_index_map (k := n) (xs := L) sl61.h jz jz rfl hnL) ?_
     refine dz 3 ?_
     refine dr_ev rfl (ev_index_map (k := n) (xs := (pick p p.scs.length)) sl61.h jz jz rfl hnP) ?_
     refine dz 1 ?_
     refine dkz az (bef_f (by have := pln_len2 hp hnL; have := rest_len hr hn; omega) (by have := rest_len hr hn; omega) (few_bef hA hp he hn hnL hnP ht hne)) ?_
     refine dz 2 ?_
     refine wz 1 ?_
     refine aw_loopk (ι := { a : Nat // a ≤ (pick p p.scs.length)[n].length }) [1, 2, 5, 15, 16, 17] (fun y => [(18, I y.1)]) (fun H y => H) (fun y => (pick p p.scs.length)[n].length - y.1) (⟨0, Nat.zero_le _⟩) ⟨jz, jz, jz, jz, jz, jz, jz, trivial⟩ rfl ?_
     rintro ⟨a, ha⟩
     refine nz ?_
     refine wz 3 ?_
     refine sq_ev rfl (ev_index_map (k := n) (xs := (pick p p.scs.length)) sl61.h jz jz rfl hnP) ?_
     refine wz 3 ?_
     refine iz (fun c_139 c_139' => ?_) (fun c_139 c_139' => ?_)
     ·have haP : a < (pick p p.scs.length)[n].length := by omega
      have har : a < (sc p n).rest.length := by omega
      have haL : a < L[n].length := by have := pln_len2 hp hnL; omega
      obtain ⟨hw1, hw2, hw⟩ := few_words hA hp he hn hnL hnP har haL haP
      obtain ⟨hw3, hw4, hw5⟩ := hw (by rw [whr_len]; omega) (by rw [whr_len]; omega)
      refine wz 0 ?_
      refine aw_draw 17 mo (by kernel_rfl) ?_
      refine dz 5 ?_
      refine dr_ev rfl (ev_less (ev_index_map (k := n) (xs := p.scs) sl24.h jz jz rfl hn) (Less.eq (b := .iptr (scC (sc p n))) (by rw [sc_at hn]))) ?_
      refine dz 3 ?_
      refine dr_ev rfl (ev_index_map (k := a) (xs := (sc p n).rest) sl22.h jz jz rfl har) ?_
      refine dz 1 ?_
      refine dkz az (xwhere_ok (shB_len hs).1 (shB_len hs).2.1 (shB_len hs).2.2.1 (shB_len hs).2.2.2 hn hr har (ix_self (rising_iff.1 (sc_B gP hn).rs).1 har) h) ?_
      refine dz 5 ?_
      refine wz 0 ?_
      refine aw_draw 91 mo (by kernel_rfl) ?_
      refine dz 11 ?_
      refine dsz 167 (fun g25_10 g25_10' => ?_) (fun g25_10 g25_10' => ?_)
      ·exfalso
       rw [whr_len] at g25_10
       simp at g25_10
      refine dz 3 ?_
      refine dr_yes rfl rfl (less_b g25_10) rfl (ev_index_map (k := n) (xs := L) sl61.h jz jz rfl hnL) ?_
      refine dz 2 ?_
      refine dr_yes rfl rfl (less_b g25_10) rfl (ev_index_map (k := a) (xs := L[n]) sl22.h jz jz rfl haL) ?_
      refine dz 1 ?_
      refine dr_yes rfl rfl (less_b g25_10) rfl (ev_index_map (k := (L[n][a]).toNat) (xs := whr p n a) sl35.h jz jz (by have := hw1; omega) (by rw [whr_len]; have := hw1; omega)) ?_
      refine dz 4 ?_
      refine dsz 180 (fun g25_23 g25_23' => ?_) (fun g25_23 g25_23' => ?_)
      ·exfalso
       omega
      refine dz 3 ?_
      refine dr_yes rfl rfl (less_b g25_23) rfl (ev_index_map (k := n) (xs := (pick p p.scs.length)) sl61.h jz jz rfl hnP) ?_
      refine dz 2 ?_
      refine dr_yes rfl rfl (less_b g25_23) rfl (ev_index_map (k := a) (xs := (pick p p.scs.length)[n]) sl22.h jz jz rfl haP) ?_
      refine dz 1 ?_
      refine dr_yes rfl rfl (less_b g25_23) rfl (ev_index_map (k := ((pick p p.scs.length)[n][a]).toNat) (xs := whr p n a) sl35.h jz jz (by have := hw2; omega) (by rw [whr_len]; have := hw2; omega)) ?_
      refine dz 4 ?_
      refine dsz 193 (fun g25_36 g25_36' => ?_) (fun g25_36 g25_36' => ?_)
      ·exfalso
       omega
      refine dz 3 ?_
      refine dr_yes rfl rfl (less_b g25_36) rfl (ev_index_map (k := n) (xs := L) sl61.h jz jz rfl hnL) ?_
      refine dz 2 ?_
      refine dr_yes rfl rfl (less_b g25_36) rfl (ev_index_map (k := a) (xs := L[n]) sl22.h jz jz rfl haL) ?_
      refine dz 1 ?_
      refine dr_yes rfl rfl (less_b g25_36) rfl (ev_index_map (k := (L[n][a]).toNat) (xs := whr p n a) sl35.h jz jz (by have := hw1; omega) (by rw [whr_len]; have := hw1; omega)) ?_
      refine dz 5 ?_
      refine dr_yes rfl rfl (less_b g25_36) rfl (ev_index_map (k := n) (xs := (pick p p.scs.length)) sl61.h jz jz rfl hnP) ?_
      refine dz 2 ?_
      refine dr_yes rfl rfl (less_b g25_36) rfl (ev_index_map (k := a) (xs := (pick p p.scs.length)[n]) sl22.h jz jz rfl haP) ?_
      refine dz 1 ?_
      refine dr_yes rfl rfl (less_b g25_36) rfl (ev_index_map (k := ((pick p p.scs.length)[n][a]).toNat) (xs := whr p n a) sl35.h jz jz (by have := hw2; omega) (by rw [whr_len]; have := hw2; omega)) ?_
      refine dz 5 ?_
      refine dsz 218 (fun g25_61 g25_61' => ?_) (fun g25_61 g25_61' => ?_)
      ·exfalso
       rw [hw3] at g25_61
       simp at g25_61
      refine dz 3 ?_
      refine dr_yes rfl rfl (less_b g25_61) rfl (ev_index_map (k := n) (xs := L) sl61.h jz jz rfl hnL) ?_
      refine dz 2 ?_
      refine dr_yes rfl rfl (less_b g25_61) rfl (ev_index_map (k := a) (xs := L[n]) sl22.h jz jz rfl haL) ?_
      refine dz 1 ?_
      refine dr_yes rfl rfl (less_b g25_61) rfl (ev_index_map (k := (L[n][a]).toNat) (xs := whr p n a) sl35.h jz jz (by have := hw1; omega) (by rw [whr_len]; have := hw1; omega)) ?_
      refine dz 3 ?_
      refine dsz 230 (fun g25_73 g25_73' => ?_) (fun g25_73 g25_73' => ?_)
      ·refine dz 2 ?_
       refine dr_yes rfl rfl (less_b g25_73) rfl (ev_index_map (k := n) (xs := L) sl61.h jz jz rfl hnL) ?_
       refine dz 2 ?_
       refine dr_yes rfl rfl (less_b g25_73) rfl (ev_index_map (k := a) (xs := L[n]) sl22.h jz jz rfl haL) ?_
       refine dz 3 ?_
       refine dr_yes rfl rfl (less_b g25_73) rfl (ev_index_map (k := n) (xs := (pick p p.scs.length)) sl61.h jz jz rfl hnP) ?_
       refine dz 2 ?_
       refine dr_yes rfl rfl (less_b g25_73) rfl (ev_index_map (k := a) (xs := (pick p p.scs.length)[n]) sl22.h jz jz rfl haP) ?_
       refine dz 4 ?_
       refine wz 0 ?_
       refine iz (fun c_247 c_247' => ?_) (fun c_247 c_247' => ?_)
       ·exfalso
        first | (have hw6 := hw5 (by simpa using g25_73); simp [hw6] at c_247; done) | (simp at c_247; done) | omega
       refine wz 3 ?_
       exact ⟨⟨a + 1, by omega⟩, by simp only; omega, sb 1 ⟨jz, jz, jz, jz, jz, jz, jz, trivial⟩⟩
      refine dz 17 ?_
      refine wz 4 ?_
      exact ⟨⟨a + 1, by omega⟩, by simp only; omega, sb 1 ⟨jz, jz, jz, jz, jz, jz, jz, trivial⟩⟩
     obtain rfl : a = (pick p p.scs.length)[n].length := by omega
     refine wz 3 ?_
     exact ⟨⟨n + 1, by omega⟩, by simp only; omega, sb 1 ⟨jz, (by exact less_b (by show _ = !decide (L.take (n + 1) = (pick p p.scs.length).take (n + 1)); rw [tk_dec hnL hnP, decide_eq_false hne, Bool.and_false]; rfl)), jz, jz, jz, jz, trivial⟩⟩
    have heq : L[n] = (pick p p.scs.length)[n] := by simpa using c_123
    refine wz 1 ?_
    refine aw_loopk (ι := { a : Nat // a ≤ (pick p p.scs.length)[n].length }) [1, 2, 5, 15, 16, 17] (fun y => [(18, I y.1)]) (fun H y => H) (fun y => (pick p p.scs.length)[n].length - y.1) (⟨0, Nat.zero_le _⟩) ⟨jz, jz, jz, jz, jz, jz, jz, trivial⟩ rfl ?_
    rintro ⟨a, ha⟩
    refine nz ?_
    refine wz 3 ?_
    refine sq_ev rfl (ev_index_map (k := n) (xs := (pick p p.scs.length)) sl61.h jz jz rfl hnP) ?_
    refine wz 3 ?_
    refine iz (fun c_139 c_139' => ?_) (fun c_139 c_139' => ?_)
    ·have haP : a < (pick p p.scs.length)[n].length := by omega
     have har : a < (sc p n).rest.length := by omega
     have haL : a < L[n].length := by have := pln_len2 hp hnL; omega
     obtain ⟨hw1, hw2, hw⟩ := few_words hA hp he hn hnL hnP har haL haP
     obtain ⟨hw3, hw4, hw5⟩ := hw (by rw [whr_len]; omega) (by rw [whr_len]; omega)
     refine wz 0 ?_
     refine aw_draw 17 mo (by kernel_rfl) ?_
     refine dz 5 ?_
     refine dr_ev rfl (ev_less (ev_index_map (k := n) (xs := p.scs) sl24.h jz jz rfl hn) (Less.eq (b := .iptr (scC (sc p n))) (by rw [sc_at hn]))) ?_
     refine dz 3 ?_
     refine dr_ev rfl (ev_index_map (k := a) (xs := (sc p n).rest) sl22.h jz jz rfl har) ?_
     refine dz 1 ?_
     refine dkz az (xwhere_ok (shB_len hs).1 (shB_len hs).2.1 (shB_len hs).2.2.1 (shB_len hs).2.2.2 hn hr har (ix_self (rising_iff.1 (sc_B gP hn).rs).1 har) h) ?_
     refine dz 5 ?_
     refine wz 0 ?_
     refine aw_draw 91 mo (by kernel_rfl) ?_
     refine dz 11 ?_
     refine dsz 167 (fun g25_10 g25_10' => ?_) (fun g25_10 g25_10' => ?_)
     ·exfalso
      rw [whr_len] at g25_10
      simp at g25_10
     refine dz 3 ?_
     refine dr_yes rfl rfl (less_b g25_10) rfl (ev_index_map (k := n) (xs := L) sl61.h jz jz rfl hnL) ?_
     refine dz 2 ?_
     refine dr_yes rfl rfl (less_b g25_10) rfl (ev_index_map (k := a) (xs := L[n]) sl22.h jz jz rfl haL) ?_
     refine dz 1 ?_
     refine dr_yes rfl rfl (less_b g25_10) rfl (ev_index_map (k := (L[n][a]).toNat) (xs := whr p n a) sl35.h jz jz (by have := hw1; omega) (by rw [whr_len]; have := hw1; omega)) ?_
     refine dz 4 ?_
     refine dsz 180 (fun g25_23 g25_23' => ?_) (fun g25_23 g25_23' => ?_)
     ·exfalso
      omega
     refine dz 3 ?_
     refine dr_yes rfl rfl (less_b g25_23) rfl (ev_index_map (k := n) (xs := (pick p p.scs.length)) sl61.h jz jz rfl hnP) ?_
     refine dz 2 ?_
     refine dr_yes rfl rfl (less_b g25_23) rfl (ev_index_map (k := a) (xs := (pick p p.scs.length)[n]) sl22.h jz jz rfl haP) ?_
     refine dz 1 ?_
     refine dr_yes rfl rfl (less_b g25_23) rfl (ev_index_map (k := ((pick p p.scs.length)[n][a]).toNat) (xs := whr p n a) sl35.h jz jz (by have := hw2; omega) (by rw [whr_len]; have := hw2; omega)) ?_
     refine dz 4 ?_
     refine dsz 193 (fun g25_36 g25_36' => ?_) (fun g25_36 g25_36' => ?_)
     ·exfalso
      omega
     refine dz 3 ?_
     refine dr_yes rfl rfl (less_b g25_36) rfl (ev_index_map (k := n) (xs := L) sl61.h jz jz rfl hnL) ?_
     refine dz 2 ?_
     refine dr_yes rfl rfl (less_b g25_36) rfl (ev_index_map (k := a) (xs := L[n]) sl22.h jz jz rfl haL) ?_
     refine dz 1 ?_
     refine dr_yes rfl rfl (less_b g25_36) rfl (ev_index_map (k := (L[n][a]).toNat) (xs := whr p n a) sl35.h jz jz (by have := hw1; omega) (by rw [whr_len]; have := hw1; omega)) ?_
     refine dz 5 ?_
     refine dr_yes rfl rfl (less_b g25_36) rfl (ev_index_map (k := n) (xs := (pick p p.scs.length)) sl61.h jz jz rfl hnP) ?_
     refine dz 2 ?_
     refine dr_yes rfl rfl (less_b g25_36) rfl (ev_index_map (k := a) (xs := (pick p p.scs.length)[n]) sl22.h jz jz rfl haP) ?_
     refine dz 1 ?_
     refine dr_yes rfl rfl (less_b g25_36) rfl (ev_index_map (k := ((pick p p.scs.length)[n][a]).toNat) (xs := whr p n a) sl35.h jz jz (by have := hw2; omega) (by rw [whr_len]; have := hw2; omega)) ?_
     refine dz 5 ?_
     refine dsz 218 (fun g25_61 g25_61' => ?_) (fun g25_61 g25_61' => ?_)
     ·exfalso
      rw [hw3] at g25_61
      simp at g25_61
     refine dz 3 ?_
     refine dr_yes rfl rfl (less_b g25_61) rfl (ev_index_map (k := n) (xs := L) sl61.h jz jz rfl hnL) ?_
     refine dz 2 ?_
     refine dr_yes rfl rfl (less_b g25_61) rfl (ev_index_map (k := a) (xs := L[n]) sl22.h jz jz rfl haL) ?_
     refine dz 1 ?_
     refine dr_yes rfl rfl (less_b g25_61) rfl (ev_index_map (k := (L[n][a]).toNat) (xs := whr p n a) sl35.h jz jz (by have := hw1; omega) (by rw [whr_len]; have := hw1; omega)) ?_
     refine dz 3 ?_
     refine dsz 230 (fun g25_73 g25_73' => ?_) (fun g25_73 g25_73' => ?_)
     ·refine dz 2 ?_
      refine dr_yes rfl rfl (less_b g25_73) rfl (ev_index_map (k := n) (xs := L) sl61.h jz jz rfl hnL) ?_
      refine dz 2 ?_
      refine dr_yes rfl rfl (less_b g25_73) rfl (ev_index_map (k := a) (xs := L[n]) sl22.h jz jz rfl haL) ?_
      refine dz 3 ?_
      refine dr_yes rfl rfl (less_b g25_73) rfl (ev_index_map (k := n) (xs := (pick p p.scs.length)) sl61.h jz jz rfl hnP) ?_
      refine dz 2 ?_
      refine dr_yes rfl rfl (less_b g25_73) rfl (ev_index_map (k := a) (xs := (pick p p.scs.length)[n]) sl22.h jz jz rfl haP) ?_
      refine dz 4 ?_
      refine wz 0 ?_
      refine iz (fun c_247 c_247' => ?_) (fun c_247 c_247' => ?_)
      ·exfalso
       first | (have hw6 := hw5 (by simpa using g25_73); simp [hw6] at c_247; done) | (simp at c_247; done) | omega
      refine wz 3 ?_
      exact ⟨⟨a + 1, by omega⟩, by simp only; omega, sb 1 ⟨jz, jz, jz, jz, jz, jz, jz, trivial⟩⟩
     refine dz 17 ?_
     refine wz 4 ?_
     exact ⟨⟨a + 1, by omega⟩, by simp only; omega, sb 1 ⟨jz, jz, jz, jz, jz, jz, jz, trivial⟩⟩
    obtain rfl : a = (pick p p.scs.length)[n].length := by omega
    refine wz 3 ?_
    exact ⟨⟨n + 1, by omega⟩, by simp only; omega, sb 1 ⟨jz, (by exact less_b (by show _ = !decide (L.take (n + 1) = (pick p p.scs.length).take (n + 1)); rw [tk_dec hnL hnP, decide_eq_true heq, Bool.and_true])), jz, jz, jz, jz, trivial⟩⟩
   have ht : ¬ L.take n = (pick p p.scs.length).take n := by simpa using g19_2
   refine dz 11 ?_
   refine wz 2 ?_
   refine aw_loopk (ι := { a : Nat // a ≤ (pick p p.scs.length)[n].length }) [1, 2, 5, 15, 16, 17] (fun y => [(18, I y.1)]) (fun H y => H) (fun y => (pick p p.scs.length)[n].length - y.1) (⟨0, Nat.zero_le _⟩) ⟨jz, jz, jz, jz, jz, jz, jz, trivial⟩ rfl ?_
   rintro ⟨a, ha⟩
   refine nz ?_
   refine wz 3 ?_
   refine sq_ev rfl (ev_index_map (k := n) (xs := (pick p p.scs.length)) sl61.h jz jz rfl hnP) ?_
   refine wz 3 ?_
   refine iz (fun c_139 c_139' => ?_) (fun c_139 c_139' => ?_)
   ·have haP : a < (pick p p.scs.length)[n].length := by omega
    have har : a < (sc p n).rest.length := by omega
    have haL : a < L[n].length := by have := pln_len2 hp hnL; omega
    obtain ⟨hw1, hw2, hw⟩ := few_words hA hp he hn hnL hnP har haL haP
    obtain ⟨hw3, hw4, hw5⟩ := hw (by rw [whr_len]; omega) (by rw [whr_len]; omega)
    refine wz 0 ?_
    refine aw_draw 17 mo (by kernel_rfl) ?_
    refine dz 5 ?_
    refine dr_ev rfl (ev_less (ev_index_map (k := n) (xs := p.scs) sl24.h jz jz rfl hn) (Less.eq (b := .iptr (scC (sc p n))) (by rw [sc_at hn]))) ?_
    refine dz 3 ?_
    refine dr_ev rfl (ev_index_map (k := a) (xs := (sc p n).rest) sl22.h jz jz rfl har) ?_
    refine dz 1 ?_
    refine dkz az (xwhere_ok (shB_len hs).1 (shB_len hs).2.1 (shB_len hs).2.2.1 (shB_len hs).2.2.2 hn hr har (ix_self (rising_iff.1 (sc_B gP hn).rs).1 har) h) ?_
    refine dz 5 ?_
    refine wz 0 ?_
    refine aw_draw 91 mo (by kernel_rfl) ?_
    refine dz 11 ?_
    refine dsz 167 (fun g25_10 g25_10' => ?_) (fun g25_10 g25_10' => ?_)
    ·exfalso
     rw [whr_len] at g25_10
     simp at g25_10
    refine dz 3 ?_
    refine dr_yes rfl rfl (less_b g25_10) rfl (ev_index_map (k := n) (xs := L) sl61.h jz jz rfl hnL) ?_
    refine dz 2 ?_
    refine dr_yes rfl rfl (less_b g25_10) rfl (ev_index_map (k := a) (xs := L[n]) sl22.h jz jz rfl haL) ?_
    refine dz 1 ?_
    refine dr_yes rfl rfl (less_b g25_10) rfl (ev_index_map (k := (L[n][a]).toNat) (xs := whr p n a) sl35.h jz jz (by have := hw1; omega) (by rw [whr_len]; have := hw1; omega)) ?_
    refine dz 4 ?_
    refine dsz 180 (fun g25_23 g25_23' => ?_) (fun g25_23 g25_23' => ?_)
    ·exfalso
     omega
    refine dz 3 ?_
    refine dr_yes rfl rfl (less_b g25_23) rfl (ev_index_map (k := n) (xs := (pick p p.scs.length)) sl61.h jz jz rfl hnP) ?_
    refine dz 2 ?_
    refine dr_yes rfl rfl (less_b g25_23) rfl (ev_index_map (k := a) (xs := (pick p p.scs.length)[n]) sl22.h jz jz rfl haP) ?_
    refine dz 1 ?_
    refine dr_yes rfl rfl (less_b g25_23) rfl (ev_index_map (k := ((pick p p.scs.length)[n][a]).toNat) (xs := whr p n a) sl35.h jz jz (by have := hw2; omega) (by rw [whr_len]; have := hw2; omega)) ?_
    refine dz 4 ?_
    refine dsz 193 (fun g25_36 g25_36' => ?_) (fun g25_36 g25_36' => ?_)
    ·exfalso
     omega
    refine dz 3 ?_
    refine dr_yes rfl rfl (less_b g25_36) rfl (ev_index_map (k := n) (xs := L) sl61.h jz jz rfl hnL) ?_
    refine dz 2 ?_
    refine dr_yes rfl rfl (less_b g25_36) rfl (ev_index_map (k := a) (xs := L[n]) sl22.h jz jz rfl haL) ?_
    refine dz 1 ?_
    refine dr_yes rfl rfl (less_b g25_36) rfl (ev_index_map (k := (L[n][a]).toNat) (xs := whr p n a) sl35.h jz jz (by have := hw1; omega) (by rw [whr_len]; have := hw1; omega)) ?_
    refine dz 5 ?_
    refine dr_yes rfl rfl (less_b g25_36) rfl (ev_index_map (k := n) (xs := (pick p p.scs.length)) sl61.h jz jz rfl hnP) ?_
    refine dz 2 ?_
    refine dr_yes rfl rfl (less_b g25_36) rfl (ev_index_map (k := a) (xs := (pick p p.scs.length)[n]) sl22.h jz jz rfl haP) ?_
    refine dz 1 ?_
    refine dr_yes rfl rfl (less_b g25_36) rfl (ev_index_map (k := ((pick p p.scs.length)[n][a]).toNat) (xs := whr p n a) sl35.h jz jz (by have := hw2; omega) (by rw [whr_len]; have := hw2; omega)) ?_
    refine dz 5 ?_
    refine dsz 218 (fun g25_61 g25_61' => ?_) (fun g25_61 g25_61' => ?_)
    ·exfalso
     rw [hw3] at g25_61
     simp at g25_61
    refine dz 3 ?_
    refine dr_yes rfl rfl (less_b g25_61) rfl (ev_index_map (k := n) (xs := L) sl61.h jz jz rfl hnL) ?_
    refine dz 2 ?_
    refine dr_yes rfl rfl (less_b g25_61) rfl (ev_index_map (k := a) (xs := L[n]) sl22.h jz jz rfl haL) ?_
    refine dz 1 ?_
    refine dr_yes rfl rfl (less_b g25_61) rfl (ev_index_map (k := (L[n][a]).toNat) (xs := whr p n a) sl35.h jz jz (by have := hw1; omega) (by rw [whr_len]; have := hw1; omega)) ?_
    refine dz 3 ?_
    refine dsz 230 (fun g25_73 g25_73' => ?_) (fun g25_73 g25_73' => ?_)
    ·refine dz 2 ?_
     refine dr_yes rfl rfl (less_b g25_73) rfl (ev_index_map (k := n) (xs := L) sl61.h jz jz rfl hnL) ?_
     refine dz 2 ?_
     refine dr_yes rfl rfl (less_b g25_73) rfl (ev_index_map (k := a) (xs := L[n]) sl22.h jz jz rfl haL) ?_
     refine dz 3 ?_
     refine dr_yes rfl rfl (less_b g25_73) rfl (ev_index_map (k := n) (xs := (pick p p.scs.length)) sl61.h jz jz rfl hnP) ?_
     refine dz 2 ?_
     refine dr_yes rfl rfl (less_b g25_73) rfl (ev_index_map (k := a) (xs := (pick p p.scs.length)[n]) sl22.h jz jz rfl haP) ?_
     refine dz 4 ?_
     refine wz 0 ?_
     refine iz (fun c_247 c_247' => ?_) (fun c_247 c_247' => ?_)
     ·exfalso
      first | (have hw6 := hw5 (by simpa using g25_73); simp [hw6] at c_247; done) | (simp at c_247; done) | omega
     refine wz 3 ?_
     exact ⟨⟨a + 1, by omega⟩, by simp only; omega, sb 1 ⟨jz, jz, jz, jz, jz, jz, jz, trivial⟩⟩
    refine dz 17 ?_
    refine wz 4 ?_
    exact ⟨⟨a + 1, by omega⟩, by simp only; omega, sb 1 ⟨jz, jz, jz, jz, jz, jz, jz, trivial⟩⟩
   obtain rfl : a = (pick p p.scs.length)[n].length := by omega
   refine wz 3 ?_
   exact ⟨⟨n + 1, by omega⟩, by simp only; omega, sb 1 ⟨jz, (by exact less_b (by show _ = !decide (L.take (n + 1) = (pick p p.scs.length).take (n + 1)); rw [tk_dec hnL hnP, decide_eq_false ht]; rfl)), jz, jz, jz, jz, trivial⟩⟩
  obtain rfl : n = p.scs.length := by omega
  refine wz 3 ?_
  refine ky az (known_pure) ?_
  refine wz 2 ?_
  exact rz rfl jz
/-- **StemFewest.** -/
theorem law16 (p : Ply) (L : List (List Int)) : APure Tryz.prog 16 [plA p, hds L] (B true) := by
  cases hs : shB p with
  | false => exact law16_a hs
  | true =>
    cases hL : slB L with
    | false => exact law16_b hs hL
    | true =>
      cases hr : plOK p with
      | false => exact law16_c hs hL hr
      | true =>
        cases hp : plnOK p L with
        | false => exact law16_d hs hL hr hp
        | true =>
          cases h : failsAt p with
          | none => exact law16_f hs hL hr hp h (fails_ls h) (by have := (plOK_B hr).ns; omega) (plOK_B hr)
          | some n => exact law16_e hs hL hr hp h
end Go.Proofs.YtfmpabgblbbcdaaGreatDoor
