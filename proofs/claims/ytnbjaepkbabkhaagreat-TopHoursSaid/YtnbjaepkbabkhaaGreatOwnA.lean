/-
  A part of the proof: conditions: none beyond each theorem's own.
-/
import Derived.Test.YtnbjaepkbabkhaaGreatLogicA
import Derived.Test.YtnbjaepkbabkhaaGreatLogicB
import Derived.Test.YtnbjaepkbabkhaaGreatLogicD
import Derived.Laws.Small
import Derived.Deep.Slices
import Derived.OpenShut
import Derived.Carry
import Derived.IntWalk
import Derived.Test.YtnbjaepkbabkhaaGreatSpecA
import Derived.Test.YtnbjaepkbabkhaaGreatProg
import Derived.KernelRfl
import Derived.Lib.LaidTab
import Derived.Lib.ItoaNum
import Derived.Test.YtnbjaepkbabkhaaGreatWalkA
import Derived.Test.YtnbjaepkbabkhaaGreatWalkB
import Derived.Test.YtnbjaepkbabkhaaGreatWalkC
import Derived.Test.YtnbjaepkbabkhaaGreatWalkD
import Derived.Test.YtnbjaepkbabkhaaGreatLogicC
import Derived.Test.YtnbjaepkbabkhaaGreatLogicE
import Derived.Test.YtnbjaepkbabkhaaGreatShelfA
import Derived.Test.YtnbjaepkbabkhaaGreatRow
set_option linter.all false
set_option maxRecDepth 100000
set_option maxHeartbeats 8000000
namespace Go.Ab
variable [Tabs]
theorem FW_room (r : Option Nat) (n : Nat) : (FW r).room n := fun _ h => by simp [FW] at h
variable {c : Ctx} {Q : AExit → St → Prop} {s : St}
end Go.Ab
namespace Go.Ab
variable [Tabs]
section tok
variable {c : Ctx} {ops : Array Oper} {Q : AExit → St → Prop} {rest : List Oper} {s : St} {i : Nat}
variable {d : Option Tmp} {t : TypeId} {p : String} {af : Array Edge}
end tok
section eff
variable {c : Ctx} {Q : AExit → St → Prop} {H : List AObj} {df : List ADef} {ρ : Operand → AV} {d : Option Tmp} {t : TypeId} {p : String} {af : Array Edge}
end eff
theorem resVar_tmp (P : Program) (s : St) (t : Tmp) : resVar P s (.tmp t) = some (sget s.sl t) := rfl
end Go.Ab
namespace Go.Ab
variable [Tabs]
section
variable {P : Program} {r : Option Nat} {H : List AObj} {ρ : Operand → AV}
variable {d : Option Tmp} {t : TypeId} {p : String} {af : Array Edge} {g : Option (Nat × Bool)} {x y : Operand}
theorem ev_bool2 {op : BinOp} {a b : Bool} {xt yt : TypeId} {v : AV} (hx : Less (ρ x) (.raw (.bool a))) (hy : Less (ρ y) (.raw (.bool b)))
    (hr : ∀ w e, ∃ u, (binOp op xt (.bool a) (.bool b)).run P w = .ok u w ∧ Rep e v u) : Ev P r ⟨d, .binOp op xt x y yt, t, p, af, g⟩ H ρ v :=
  Ev.pure (by intro c h; cases h) fun e ρc _ _ hs => by
    have e1 := rep_raw hx (hs x (by simp [Op.operands]))
    have e2 := rep_raw hy (hs y (by simp [Op.operands]))
    obtain ⟨u, h1, h2⟩ := hr e.w e
    refine ⟨u, ?_, h2⟩
    have hg : (eqGuard op xt x y (.bool a) (.bool b)).run P e.w = .ok () e.w := by
      unfold eqGuard; split <;> simp
    simp [execOp, e1, e2, hg, h1]
theorem ev_eqlB {a b : Bool} {xt yt : TypeId} (ht : P.underlying xt = some .bool) (hx : Less (ρ x) (.raw (.bool a))) (hy : Less (ρ y) (.raw (.bool b))) :
    Ev P r ⟨d, .binOp .eql xt x y yt, t, p, af, g⟩ H ρ (.raw (.bool (a == b))) :=
  ev_bool2 hx hy fun w e => ⟨_, run_eql_bool w xt a b ht, by rw [Rep]⟩
end
end Go.Ab
namespace Go.Ab
open Go.ChangeShapes Go.WideShapes
variable [Tabs]
theorem env0_ok {w : World} (h : Tabs.is w) (hb : ∀ b, Tabs.blk b → b < w.heap.size) : EnvOK (env0 w) :=
  ⟨fun b hb => by have hb' : w.heap.size ≤ b := hb
                  have : w.heap[b]? = none := by simpa using hb'
                  simp [env0, this], fun i o h => by simp [env0] at h, fun i j b hi => by simp [env0] at hi, fun i b hi => by simp [env0] at hi, h, fun b hk => ⟨hb b hk, fun i hi => by simp [env0] at hi⟩⟩
section
variable {H : Type} {enc : TypeId × Value → H} {P : Program} {w : World} {base : Nat} {spare : Nat → Bool} {held : Bool}
theorem trodAll_stays (hl : laidOutB P = true) {W W' : World} (hheap : ∀ b, b < W.heap.size → W'.heap[b]? = W.heap[b]?) {sp' : Nat → Bool} :
    ∀ {ts : List TypeId} {vs : List Value} {ds : List (DataW H)} {ps : List MemPlace}, (∀ t ∈ ts, P.readableRec t = true ∧ t < P.types.size) → DataW.TrodAll enc P W base (fun _ => true) true ts vs ds ps → (∀ p ∈ ps, p.block < W.heap.size) → (∀ p ∈ ps, sp' p.block = true) →
      DataW.TrodAll enc P W' base sp' true ts vs ds ps
  | [], _, _, _, _, h, _, _ => by
    obtain ⟨rfl, rfl, rfl⟩ := trodAll_nil h
    exact trodAll_mk0
  | t :: ts, _, _, _, ht, h, hlt, hs => by
    obtain ⟨v, vs1, d, ds1, a, b, rfl, rfl, rfl, h1, h2⟩ := trodAll_cons h
    refine trodAll_cons_mk (WideElems.Trod_stays hl (ht t (by simp)).1 (ht t (by simp)).2 h1 (fun p hp => ?_) (fun p hp => hs p (by simp [hp]))) (trodAll_stays hl hheap (fun u hu => ht u (List.mem_cons_of_mem _ hu)) h2 (fun p hp => hlt p (by simp [hp])) (fun p hp => hs p (by simp [hp])))
    have hb := hheap p.block (hlt p (by simp [hp]))
    cases p with
    | cell b o => exact cell?_of_heap hb
    | map b => exact hb
/-- **What a law's row asks of a call that returns true and leaves what it met.** -/
theorem post_true {f : Func} {s : ChangeSpec} {W W' : World} {args : Array Value} {ds gs : List (DataW H)} {before : List MemPlace} {tb : TypeId} (hl : laidOutB P = true) (hread : ∀ t ∈ f.params.toList, P.readableRec t = true ∧ t < P.types.size)
    (hres : f.resultTypes = #[tb]) (htb : P.underlying tb = some .bool) (hvars : s.vars = []) (hspec : (s.fn H ds).results = [.lit (.bool true)] ∧ (s.fn H ds).args = ds ∧ (s.fn H ds).vars = [])
    (hW : DataW.Whole enc P f.params.toList s.vars false W args.toList ds gs before) (hheap : ∀ b, b < W.heap.size → W'.heap[b]? = W.heap[b]?) (hst : Still W W') :
    s.post enc P f false true false false W args (.bool true) W' := by
  have hlt := hW.lt
  have hW0 := hW
  obtain ⟨p, q, h1, h2, rfl, _, _⟩ := hW
  rw [hvars] at h2
  obtain ⟨rfl, rfl⟩ := trodVars_none h2
  simp only [List.append_nil] at hlt
  obtain ⟨e1, e2, e3⟩ := hspec
  refine ⟨ds, [], p ++ [], [], p, [], hW0, ?_, ?_, ?_, ?_, fun h => by cases h⟩
  · rw [List.append_nil, e1, hres]
    exact trodAll_cons_mk (RowKit.shut_bool htb _) trodAll_mk0
  · rw [List.append_nil, e2]
    exact trodAll_stays hl hheap hread h1 hlt (fun p hp => by simpa using hlt p hp)
  · rw [List.append_nil, e3, hvars]; rfl
  · refine ⟨hst.1, hst.2, fun i hi => ?_⟩
    rw [hheap i hi]
    split <;> simp_all
theorem APure.law {f : FuncId} {args : List AV} {W : World} {vs : Array Value} (hc : APure P f args (.raw (.bool true))) (ht : Tabs.is W) (hb : ∀ b, Tabs.blk b → b < W.heap.size) (hr : RepL (env0 W) args vs.toList) :
    Calls P f vs W fun x W' => x = .returned (.bool true) ∧ (∀ b, b < W.heap.size → W'.heap[b]? = W.heap[b]?) ∧ Still W W' := by
  refine ((hc (env0 W) vs (env0_ok ht hb) hr).calls (fun k => FW_room none k)).mono ?_
  rintro x w' ⟨u, e', rfl, rfl, hx, hu⟩
  rw [Rep] at hu; subst hu
  exact ⟨rfl, hx.heap, hx.still⟩
end
end Go.Ab
namespace Go.Ab
variable [Tabs]
section seq
variable {c : Ctx} {ops : Array Oper} {Q : AExit → St → Prop} {rest : List Oper} {s : St} {i : Nat}
variable {d : Option Tmp} {op : Op} {t : TypeId} {p : String} {af : Array Edge}
end seq
section cond
variable {c : Ctx} {Q : AExit → St → Prop} {s : St} {x : Operand} {y z : Code}
end cond
section split
variable {c : Ctx} {ops : Array Oper} {Q : AExit → St → Prop} {s : St} {i : Nat} {l : List Oper}
end split
section draw
variable {c : Ctx} {H0 : List AObj} {ops : Array Oper} {Q : AExit → St → Prop} {m i : Nat} {s : St} {rest : List Oper}
variable {d : Option Tmp} {op : Op} {t : TypeId} {p : String} {af : Array Edge}
end draw
section ex
variable {c : Ctx} {Q : AExit → St → Prop} {K : St → Prop} {s : St} {id j : Nat}
end ex
section app
variable {c : Ctx} {ops : Array Oper} {Q : AExit → St → Prop} {s : St} {i : Nat} {o : Oper} {l m : List Oper} {H0 : List AObj} {k : Nat}
end app
theorem W (n : Nat) {p q : Prop} (k : q) (h : Cnt n → (Unit → q) → p := by
  intro hc hk
  repeat (
    replace hc := Cnt.pred hc
    repeat (with_reducible (first | refine xn ?_ | refine sa ?_ | refine sa0 ?_ | refine aw_seq ?_ | refine aw_region ?_ | refine sq_nil ?_ | refine aw_skip ?_ | refine aw_block ?_ | refine bn ?_ | refine aw_exit ?_ | refine xe ?_ | refine be ?_ | refine bo ?_ | refine gn ?_ | refine ge ?_ | refine xr ?_ | refine br ?_ | refine gr ?_ | refine aw_label ?_ | refine aw_scope ?_))
    first
    | ((with_reducible apply sq_ev); exact rfl; exact EV)
    | ((with_reducible apply sn1); exact rfl; exact rfl; exact GD J; exact rfl)
    | ((with_reducible apply sn0); exact rfl; exact rfl; exact GD J; exact rfl)
    | ((with_reducible apply sq_yes); exact rfl; exact rfl; exact GD J; exact rfl; exact EV)
    | ((with_reducible apply su); exact rfl; exact rfl; exact J; exact rfl)
    | ((with_reducible apply sq_box); exact rfl; exact J; exact rfl)
    | ((with_reducible apply sq_alloc); exact rfl; exact ZeO.h)
    | ((with_reducible apply sq_store); exact rfl; exact J; exact J; exact rfl; exact rfl; exact TyF.h; exact rfl; exact rfl)
    | ((with_reducible refine aw_true ?_ ?_); exact GD J)
    | ((with_reducible refine aw_false ?_ ?_); exact GD J))
  repeat (with_reducible (first | refine xn ?_ | refine sa ?_ | refine sa0 ?_ | refine aw_seq ?_ | refine aw_region ?_ | refine sq_nil ?_ | refine aw_skip ?_ | refine aw_block ?_ | refine bn ?_ | refine aw_exit ?_ | refine xe ?_ | refine be ?_ | refine bo ?_ | refine gn ?_ | refine ge ?_ | refine xr ?_ | refine br ?_ | refine gr ?_ | refine aw_label ?_ | refine aw_scope ?_ | refine aw_ret ?_))
  exact hk ()) : p := h ⟨⟩ fun _ => k
end Go.Ab
namespace Ni
theorem lsts_pre {n : Nat} : ∀ {m : Nat} {now l : List Nat}, l ∈ lsts n m now → ∃ r, l = now ++ r
  | 0, now, l, h => by simp only [lsts, List.mem_singleton] at h; exact ⟨[], by simp [h]⟩
  | m + 1, now, l, h => by
    simp only [lsts] at h
    obtain ⟨i, _, h⟩ := mem_fm.1 h
    obtain ⟨r, hr⟩ := lsts_pre h
    exact ⟨(nxt now + i) :: r, by rw [hr]; simp⟩
theorem fm_pairwise {α : Type} {R : α → α → Prop} {n : Nat} {f : Nat → List α} (h1 : ∀ i, i < n → (f i).Pairwise R) (h2 : ∀ i j, i < j → j < n → ∀ a ∈ f i, ∀ b ∈ f j, R a b) : (fm n f).Pairwise R := by
  induction n with
  | zero => exact List.Pairwise.nil
  | succ n ih =>
    rw [fm_succ, List.pairwise_append]
    refine ⟨ih (fun i hi => h1 i (by omega)) (fun i j hij hj => h2 i j hij (by omega)), h1 n (by omega), fun a ha b hb => ?_⟩
    obtain ⟨i, hi, ha⟩ := mem_fm.1 ha
    exact h2 i n hi (by omega) a ha b hb
theorem aA_len2 {p : Pl} {i : Nat} {l : List Nat} (h : l ∈ aA p i) : l.length = p.scenes.length - i := by
  have := (lsts_mem (by simp) l (List.mem_filter.1 h).1).1
  simpa using this
end Ni
namespace Ni
def lexB : List Int → List Int → Bool
  | x :: a, y :: b => if x = y then lexB a b else decide (x < y)
  | _, _ => false
def soonB (a b : List Int) : Bool := if a.length ≠ b.length then decide (b.length < a.length) else lexB a b
theorem lexB_at {u v : Int} {x y : List Int} (h : u ≠ v) : ∀ c : List Int, lexB (c ++ u :: x) (c ++ v :: y) = decide (u < v)
  | [] => by simp [lexB, h]
  | z :: c => by simp [lexB, lexB_at h c]
theorem lsts_lexB {n : Nat} : ∀ (m : Nat) (now : List Nat), (lsts n m now).Pairwise fun a b => lexB (up a) (up b) = true
  | 0, now => by simp [lsts]
  | m + 1, now => by
    simp only [lsts]
    refine fm_pairwise (fun i _ => lsts_lexB m _) fun i j hij _ a ha b hb => ?_
    obtain ⟨x, rfl⟩ := lsts_pre ha
    obtain ⟨y, rfl⟩ := lsts_pre hb
    have := lexB_at (u := ((nxt now + i : Nat) : Int)) (v := ((nxt now + j : Nat) : Int)) (x := up x) (y := up y) (by omega) (up now)
    have e1 : up (now ++ [nxt now + i] ++ x) = up now ++ ((nxt now + i : Nat) : Int) :: up x := by simp [up]
    have e2 : up (now ++ [nxt now + j] ++ y) = up now ++ ((nxt now + j : Nat) : Int) :: up y := by simp [up]
    rw [e1, e2, this]; exact decide_eq_true (by omega)
theorem allC_orderB (p : Pl) : (allC p).Pairwise fun a b => soonB (up a) (up b) = true := by
  refine fm_pairwise (fun i _ => ?_) fun i j hij hj a ha b hb => ?_
  · unfold aA
    refine List.Pairwise.filter _ ?_
    unfold aL
    refine List.Pairwise.imp_of_mem ?_ (lsts_lexB _ _)
    intro a b ha hb hab
    have h1 := (lsts_mem (by simp) a ha).1
    have h2 := (lsts_mem (by simp) b hb).1
    unfold soonB
    rw [if_neg (by simp [up]; omega)]
    exact hab
  · have h1 := aA_len2 ha
    have h2 := aA_len2 hb
    unfold soonB
    rw [if_pos (by simp [up]; omega)]
    simp [up]; omega
end Ni
namespace Br
open Ni (inn)
open Hd (getD_at lex lex_irr lex_trans lex_total)
theorem plays_nodup (s : Sto) : (plays s).Nodup := (plays_perm s).nodup_iff.2 (onceK_nodup (Nat.le_refl _))
end Br
namespace Go.Proofs.YtnbjaepkbabkhaaGreat
open Go Go.Ab Br Hd
open Ni (hi inn lo)
theorem in9_pure (n lo hi : Int) : APure Tryz.prog 33 [I n, I lo, I hi] (B (inn n lo hi)) := by
  refine ap Tryz.func33 (fun e0 he0 => ?_)
  refine wz 5 ?_
  refine sz 10 (fun g1 g1' => ?_) (fun g1 g1' => ?_)
  ·refine wz 5 ?_
   exact rz rfl (Less.eq (by simp [inn, *]))
  refine wz 5 ?_
  exact rz rfl (Less.eq (by simp [inn, *]))
theorem rscb_pure (x : Scb) : APure Tryz.prog 34 [.agg (scbC x)] (B (scbOK x)) := by
  refine ap Tryz.func34 (fun e0 he0 => ?_)
  refine wz 4 ?_
  refine kz az (in9_pure _ _ _) ?_
  refine wz 1 ?_
  refine sz 6 (fun g1_3 g1_3' => ?_) (fun g1_3 g1_3' => ?_)
  ·refine wz 2 ?_
   refine ky az (in9_pure _ _ _) ?_
   refine wz 2 ?_
   refine sz 11 (fun g1_8 g1_8' => ?_) (fun g1_8 g1_8' => ?_)
   ·refine wz 4 ?_
    refine ky az (in9_pure _ _ _) ?_
    refine wz 2 ?_
    exact rz rfl (Less.eq (congrArg B (by unfold scbOK; simp [*])))
   refine wz 7 ?_
   exact rz rfl (Less.eq (congrArg B (by unfold scbOK; simp [*])))
  refine wz 12 ?_
  exact rz rfl (Less.eq (congrArg B (by unfold scbOK; simp [*])))
end Go.Proofs.YtnbjaepkbabkhaaGreat
namespace Go.Proofs.YtnbjaepkbabkhaaGreat
open Go Go.Ab Br Hd
open Ni (hi inn)
def cntB (s : Sto) (m : Int) (k : Nat) : Nat := (if s.eps ≤ m then 1 else 0) + cntK s m k
def lngB (s : Sto) (m : Int) (k : Nat) : Nat := max (if s.eps ≤ m then 1 else 0) (lngK s m k)
theorem noK {s : Sto} (B : ParB s) {m : Int} (h : s.eps ≤ m) (k : Nat) : cntK s m k = 0 ∧ lngK s m k = 0 := by
  have hno : ∀ r ∈ s.rules.take k, ¬ r.frm = m := fun r hr e => by have := (B.ru r (List.mem_of_mem_take hr)).1; omega
  constructor
  · unfold cntK
    rw [List.filter_eq_nil_iff.2 fun r hr => by simpa using hno r hr]; rfl
  · unfold lngK
    rw [List.filter_eq_nil_iff.2 fun r hr => by simp [hno r hr]]; rfl
theorem cntB_all {s : Sto} (B : ParB s) {m : Int} (h0 : 0 ≤ m) : cntB s m s.rules.length = cnt s m := by
  unfold cntB
  rcases Int.lt_or_le m s.eps with h | h
  · rw [if_neg (by omega), cnt_eps B h0 h]; omega
  · rw [if_pos h, (noK B h _).1, cnt_scene h]
theorem lngB_all {s : Sto} (B : ParB s) {m : Int} (h0 : 0 ≤ m) : lngB s m s.rules.length = lng s m := by
  unfold lngB
  rcases Int.lt_or_le m s.eps with h | h
  · rw [if_neg (by omega), lng_eps B h0 h]; omega
  · rw [if_pos h, (noK B h _).2, lng_scene h]; rfl
theorem cap_max (c a b : Nat) : cap c (max a b) = max (cap c a) (cap c b) := by unfold cap; omega
theorem cap_sum (c : Nat) : ∀ l : List Nat, cap c ((l.map (cap c)).sum) = cap c l.sum
  | [] => rfl
  | a :: l => by
    rw [List.map_cons, List.sum_cons, List.sum_cons, ← cap_add, cap_cap (Nat.le_refl c), cap_sum c l, cap_add]
def manR (s : Sto) (i : Nat) : Nat := cap 41 (cnt s (i : Int))
def lonR (s : Sto) (i : Nat) : Nat := cap 11 (lng s (i : Int))
theorem manR_at (s : Sto) {n : Int} (h : 0 ≤ n) : manR s n.toNat = cap 41 (cnt s n) := by unfold manR; rw [show ((n.toNat : Nat) : Int) = n by omega]
theorem lonR_at (s : Sto) {n : Int} (h : 0 ≤ n) : lonR s n.toNat = cap 11 (lng s n) := by unfold lonR; rw [show ((n.toNat : Nat) : Int) = n by omega]
def proR (s : Sto) (r : Rul) (k : Nat) : Nat := cap 41 (prodN ((r.to.take k).map fun n => cap 41 (cnt s n)))
def sumR (s : Sto) (r : Rul) (k : Nat) : Nat := ((r.to.take k).map fun n => cap 11 (lng s n)).sum
theorem proR_succ {s : Sto} {r : Rul} {k : Nat} (h : k < r.to.length) : (min (41 : Int) (((proR s r k : Nat) : Int) * ((cap 41 (cnt s r.to[k]) : Nat) : Int)) : Int) = ((proR s r (k + 1) : Nat) : Int) := by
  unfold proR
  rw [show (41 : Int) = ((41 : Nat) : Int) from rfl, cap_min, cap_mul1 (by decide), List.take_succ_eq_append_getElem h, List.map_append, prodN_app]
  simp [prodN]
theorem sumR_succ {s : Sto} {r : Rul} {k : Nat} (h : k < r.to.length) : sumR s r (k + 1) = sumR s r k + cap 11 (lng s r.to[k]) := by
  unfold sumR; rw [List.take_succ_eq_append_getElem h, List.map_append, List.sum_append]; simp
theorem proR_all (s : Sto) (r : Rul) : proR s r r.to.length = cap 41 (prodN (r.to.map (cnt s))) := by
  unfold proR; rw [List.take_length, ← cap_prod (by decide) (r.to.map (cnt s)), List.map_map]; rfl
theorem sumR_all (s : Sto) (r : Rul) : cap 11 (sumR s r r.to.length) = cap 11 ((r.to.map (lng s)).sum) := by
  unfold sumR; rw [List.take_length, ← cap_sum, ← cap_sum 11 (r.to.map (lng s)), List.map_map, List.map_map]
  rw [show (cap 11 ∘ fun n => cap 11 (lng s n)) = (cap 11 ∘ lng s) from funext fun n => cap_cap (Nat.le_refl 11)]
theorem sumR_le (s : Sto) (r : Rul) : ∀ k, k ≤ r.to.length → sumR s r k ≤ 11 * k
  | 0, _ => by simp [sumR]
  | k + 1, h => by
    have ih := sumR_le s r k (by omega)
    rw [sumR_succ (by omega)]
    have := cap_le 11 (lng s r.to[k]); omega
theorem rrul_pure (s : Sto) (r : Rul) (he : 1 ≤ s.eps ∧ s.eps ≤ 6) (hs : s.scs.length ≤ 8) : APure Tryz.prog 35 [stoA s, .agg (rulC r)] (B (rulOK s r)) := by
  refine ap Tryz.func35 (fun e0 he0 => ?_)
  refine wz 8 ?_
  refine kz az (in9_pure _ _ _) ?_
  refine wz 2 ?_
  refine sz 13 (fun g1_7 g1_7' => ?_) (fun g1_7 g1_7' => ?_)
  ·have hf0 : inn r.frm 0 (s.eps - 1) = false := by simpa using g1_7
   refine wz 8 ?_
   exact rz rfl (Less.eq (congrArg B (by unfold rulOK; rw [hf0]; rfl)))
  have hfi : 0 ≤ r.frm ∧ r.frm ≤ s.eps - 1 := by have h := g1_7; unfold inn at h; simpa using h
  have hf1 : inn r.frm 0 (s.eps - 1) = true := by simpa using g1_7
  refine wz 3 ?_
  refine ky az (in9_pure _ _ _) ?_
  refine wz 2 ?_
  refine iz (fun c_19 c_19' => ?_) (fun c_19 c_19' => ?_)
  ·have hl0 : inn (r.to.length : Int) 1 4 = false := by simpa using c_19
   refine wz 1 ?_
   exact rz rfl (Less.eq (congrArg B (by unfold rulOK; rw [hl0]; simp)))
  have hl1 : inn (r.to.length : Int) 1 4 = true := by simpa using c_19
  have hr4 : r.to.length ≤ 4 := by have h := hl1; unfold inn at h; simp at h; omega
  refine wz 1 ?_
  refine aw_loopk (ι := { k : Nat // k ≤ r.to.length ∧ ∀ i, (hi : i < r.to.length) → i < k → inn r.to[i] (r.frm + 1) (s.eps + s.scs.length - 1) = true }) [2, 3] (fun g => [(5, I (g.1 : Nat))]) (fun H g => H) (fun g => r.to.length - g.1) (⟨0, Nat.zero_le _, by omega⟩) ⟨jz, jz, jz, trivial⟩ rfl ?_
  rintro ⟨k, hk, hok⟩
  refine nz ?_
  refine wz 5 ?_
  refine iz (fun c_24 c_24' => ?_) (fun c_24 c_24' => ?_)
  ·have hkL : k < r.to.length := by omega
   refine wz 0 ?_
   refine aw_draw 17 mo (by kernel_rfl) ?_
   refine dz 15 ?_
   refine dkz az (in9_pure _ _ _) ?_
   refine dz 1 ?_
   refine wz 0 ?_
   refine iz (fun c_43 c_43' => ?_) (fun c_43 c_43' => ?_)
   ·have hno : (r.to.all fun n => inn n (r.frm + 1) (s.eps + s.scs.length - 1)) = false := List.all_eq_false.2 ⟨r.to[k], List.getElem_mem hkL, by simpa using c_43⟩
    refine wz 1 ?_
    exact rz rfl (Less.eq (congrArg B (by unfold rulOK; rw [hno]; simp)))
   have hin : inn r.to[k] (r.frm + 1) (s.eps + s.scs.length - 1) = true := by simpa using c_43
   refine wz 3 ?_
   exact ⟨⟨k + 1, by omega, fun i hi q => (by by_cases e : i = k; (subst e; exact hin); exact hok i hi (by omega))⟩, by simp only; omega, Sub.slots ⟨jz, jz, jz, trivial⟩⟩
  obtain rfl : k = r.to.length := by omega
  have hall : (r.to.all fun n => inn n (r.frm + 1) (s.eps + s.scs.length - 1)) = true := List.all_eq_true.2 fun n hn => by obtain ⟨i, hi, rfl⟩ := List.getElem_of_mem hn; exact hok i hi hi
  refine wz 1 ?_
  exact rz rfl (Less.eq (congrArg B (by unfold rulOK; rw [hf1, hl1, hall]; rfl)))
end Go.Proofs.YtnbjaepkbabkhaaGreat
namespace Go.Proofs.YtnbjaepkbabkhaaGreat
open Go Go.Ab Br Hd

theorem cntB_yes {s : Sto} {m : Int} {k : Nat} (hk : k < s.rules.length) (h : s.rules[k].frm = m) : cntB s m (k + 1) = cntB s m k + prodN (s.rules[k].to.map (cnt s)) := by
  unfold cntB; rw [cntK_yes hk h, Nat.add_assoc]
theorem cntB_no {s : Sto} {m : Int} {k : Nat} (hk : k < s.rules.length) (h : s.rules[k].frm ≠ m) : cntB s m (k + 1) = cntB s m k := by
  unfold cntB; rw [cntK_no hk h]
theorem lngB_yes {s : Sto} {m : Int} {k : Nat} (hk : k < s.rules.length) (h : s.rules[k].frm = m) (he : endR s s.rules[k] = true) : lngB s m (k + 1) = max (lngB s m k) (s.rules[k].to.map (lng s)).sum := by
  unfold lngB; rw [lngK_yes hk h he]; omega
theorem lngB_no {s : Sto} {m : Int} {k : Nat} (hk : k < s.rules.length) (h : ¬ (s.rules[k].frm = m ∧ endR s s.rules[k] = true)) : lngB s m (k + 1) = lngB s m k := by
  unfold lngB; rw [lngK_no hk h]
theorem cntB_zero (s : Sto) (m : Int) : cntB s m 0 = if s.eps ≤ m then 1 else 0 := by unfold cntB; rw [cntK_zero]; rfl
theorem lngB_zero (s : Sto) (m : Int) : lngB s m 0 = if s.eps ≤ m then 1 else 0 := by unfold lngB; rw [lngK_zero]; omega
def manS (s : Sto) : List Nat := (List.range (motN s)).map (manR s)
def lonS (s : Sto) : List Nat := (List.range (motN s)).map (lonR s)
theorem manS_0 {s : Sto} (B : ParB s) : ∃ h : 0 < (manS s).length, (manS s)[0] = cap 41 (cnt s 0) := by
  have := B.ep
  have h : 0 < (manS s).length := by unfold manS motN; rw [List.length_map, List.length_range]; omega
  exact ⟨h, Option.some.inj ((List.getElem?_eq_getElem h).symm.trans (by unfold manS; rw [List.getElem?_map, List.getElem?_range (by unfold motN; omega)]; rfl))⟩
theorem lonS_0 {s : Sto} (B : ParB s) : ∃ h : 0 < (lonS s).length, (lonS s)[0] = cap 11 (lng s 0) := by
  have := B.ep
  have h : 0 < (lonS s).length := by unfold lonS motN; rw [List.length_map, List.length_range]; omega
  exact ⟨h, Option.some.inj ((List.getElem?_eq_getElem h).symm.trans (by unfold lonS; rw [List.getElem?_map, List.getElem?_range (by unfold motN; omega)]; rfl))⟩
theorem pro_pos {s : Sto} {r : Rul} : 0 < proR s r r.to.length ↔ endR s r = true := by
  rw [proR_all, endR_iff, ← Nat.ne_zero_iff_zero_lt, ne_eq, cap_zero (by decide)]
theorem pro_le (s : Sto) (r : Rul) (k : Nat) : proR s r k ≤ 41 := cap_le _ _
theorem row_one {v : Nat → Nat} {n m x y : Nat} (h : m < n) (e : x = y) : ((rowF v n m 0).map fun (a : Nat) => I (a : Int)).take (0 + m * 1) ++ [I (x : Int)] ++ ((rowF v n m 0).map fun (a : Nat) => I (a : Int)).drop (0 + m * 1 + 1) = (rowF v n m y).map fun (a : Nat) => I (a : Int) := by
  rw [row_mid h, e]
theorem rows3 {a : AObj} {L L' M M' : List AV} (h1 : L = L') (h2 : M = M') : [a, AObj.cells L, AObj.cells M] = [a, AObj.cells L', AObj.cells M'] := by rw [h1, h2]
theorem ways9_pure {s : Sto} (B : ParB s) : APure Tryz.prog 36 [stoA s] (.tup [natV (manS s), natV (lonS s)]) := by
  refine ap Tryz.func36 (fun e0 he0 => ?_)
  refine vz 3 ?_
  refine sq_nil ?_
  refine aw_seq ?_
  have hep := B.ep
  have hns := B.ns
  have hnr := B.nr
  have hN := mot_N B
  refine aw_drawc [6, 13] [] _ mo (by kernel_rfl) (HSub.refl _) ?_
  first | refine dc_ev rfl (ev_fieldAddr fo25_0.h jz) ?_ | refine dc_ev rfl (ev_fieldAddr_i fo25_0.h jz) ?_
  first | refine dc_ev rfl (ev_load jz rfl ty3.h rfl) ?_ | refine dc_ev rfl (ev_load_i jz ty3.h rfl) ?_
  first | refine dc_ev rfl (ev_fieldAddr fo25_1.h jz) ?_ | refine dc_ev rfl (ev_fieldAddr_i fo25_1.h jz) ?_
  first | refine dc_ev rfl (ev_load jz rfl ty22.h rfl) ?_ | refine dc_ev rfl (ev_load_i jz ty22.h rfl) ?_
  first | refine dc_ev rfl (ev_len_map sl22.h jz) ?_ | refine dc_ev rfl (ev_len_map sl22.h (less_own _ _ _)) ?_ | refine dc_ev rfl (ev_len sl22.h jz rfl) ?_ | refine dc_ev rfl (ev_len sl22.h (less_own _ _ _) rfl) ?_ | refine dc_ev rfl (ev_len sl22.h (less_nil _) rfl) ?_ | refine dc_ev rfl (ev_len_msl sl22.h jz) ?_ | refine dc_ev rfl (ev_len sl22.h (less_slx _ _) rfl) ?_
  refine dc_ev rfl (ev_add jz jz (wr (by omega) (by omega))) ?_
  refine dc_fresh rfl rfl (fresh_rowT rfl rfl (motN s) (by omega) (by exact less_int hN) (by exact less_int hN)) ?_
  first | refine dc_ev rfl (ev_fieldAddr fo25_0.h jz) ?_ | refine dc_ev rfl (ev_fieldAddr_i fo25_0.h jz) ?_
  first | refine dc_ev rfl (ev_load jz rfl ty3.h rfl) ?_ | refine dc_ev rfl (ev_load_i jz ty3.h rfl) ?_
  first | refine dc_ev rfl (ev_fieldAddr fo25_1.h jz) ?_ | refine dc_ev rfl (ev_fieldAddr_i fo25_1.h jz) ?_
  first | refine dc_ev rfl (ev_load jz rfl ty22.h rfl) ?_ | refine dc_ev rfl (ev_load_i jz ty22.h rfl) ?_
  first | refine dc_ev rfl (ev_len_map sl22.h jz) ?_ | refine dc_ev rfl (ev_len_map sl22.h (less_own _ _ _)) ?_ | refine dc_ev rfl (ev_len sl22.h jz rfl) ?_ | refine dc_ev rfl (ev_len sl22.h (less_own _ _ _) rfl) ?_ | refine dc_ev rfl (ev_len sl22.h (less_nil _) rfl) ?_ | refine dc_ev rfl (ev_len_msl sl22.h jz) ?_ | refine dc_ev rfl (ev_len sl22.h (less_slx _ _) rfl) ?_
  refine dc_ev rfl (ev_add jz jz (wr (by omega) (by omega))) ?_
  refine dc_fresh rfl rfl (fresh_rowT rfl rfl (motN s) (by omega) (by exact less_int hN) (by exact less_int hN)) ?_
  first | refine dc_ev rfl (ev_as (v := .sl _ _) jz) ?_ | refine dc_ev rfl (ev_as (v := .own _ _ _) jz) ?_ | refine dc_ev rfl (ev_as (v := .raw _) jz) ?_ | refine dc_ev rfl (ev_as (v := .slx _ _) jz) ?_ | refine dc_ev rfl (ev_as (v := .msl _ _ _ _) jz) ?_
  first | refine dc_ev rfl (ev_as (v := .sl _ _) jz) ?_ | refine dc_ev rfl (ev_as (v := .own _ _ _) jz) ?_ | refine dc_ev rfl (ev_as (v := .raw _) jz) ?_ | refine dc_ev rfl (ev_as (v := .slx _ _) jz) ?_ | refine dc_ev rfl (ev_as (v := .msl _ _ _ _) jz) ?_
  refine dc_nil ?_
  refine aw_seq ?_
  refine aw_seq ?_
  rw [hN]
  refine wz 4 ?_
  refine aw_loopk (ι := { d : Nat // d ≤ motN s }) [1, 4, 5] (fun g => [(6, I ((motN s : Int) - 1 - (g.1 : Nat)))]) (fun H g => [.cells (stoC s), rowO (rowD (manR s) (motN s) g.1), rowO (rowD (lonR s) (motN s) g.1)]) (fun g => motN s - g.1) (⟨0, Nat.zero_le _⟩) ⟨(by exact less_int (by simp <;> omega)), jz, jz, jz, trivial⟩ (by rw [rowD_zero, rowD_zero] <;> rfl) ?_
  rintro ⟨d, hd⟩
  refine nz ?_
  refine wz 2 ?_
  refine iz (fun c_30 c_30' => ?_) (fun c_30 c_30' => ?_)
  ·obtain ⟨m, hmd⟩ : ∃ m : Nat, m + 1 + d = motN s := ⟨motN s - 1 - d, by omega⟩
   have em : (motN s : Int) - 1 - (d : Nat) = (m : Int) := by omega
   have hmN : m < motN s := by omega
   rw [em, rowD_in hmd, rowD_in hmd]
   refine wz 4 ?_
   refine iz (fun c_36 c_36' => ?_) (fun c_36 c_36' => ?_)
   ·have eM0 := row_one (v := manR s) (x := 1) (y := cap 41 (cntB s m 0)) hmN (by rw [cntB_zero, if_pos (by omega)]; rfl)
    have eL0 := row_one (v := lonR s) (x := 1) (y := cap 11 (lngB s m 0)) hmN (by rw [lngB_zero, if_pos (by omega)]; rfl)
    refine wz 4 ?_
    refine sq_ev rfl (ev_index_msl (k := m) sl31.h jz jz rfl hmN) ?_
    refine sq_store (j := 1) (off := 0 + m * 1) rfl jz jz rfl rfl ty3.h rfl (row_ble hmN) ?_
    refine sq_ev rfl (ev_index_msl (k := m) sl31.h jz jz rfl hmN) ?_
    refine sq_store (j := 2) (off := 0 + m * 1) rfl jz jz rfl rfl ty3.h rfl (row_ble hmN) ?_
    refine sq_nil ?_
    refine aw_seq ?_
    refine nz ?_
    refine wz 1 ?_
    refine aw_loopk (ι := { k : Nat // k ≤ s.rules.length }) [1, 4, 5, 6] (fun y => [(7, I (y.1 : Nat))]) (fun H y => [.cells (stoC s), rowO (rowF (manR s) (motN s) m (cap 41 (cntB s m y.1))), rowO (rowF (lonR s) (motN s) m (cap 11 (lngB s m y.1)))]) (fun y => s.rules.length - y.1) (⟨0, Nat.zero_le _⟩) ⟨jz, jz, jz, jz, jz, trivial⟩ (rows3 eM0 eL0).symm ?_
    rintro ⟨k, hk⟩
    refine nz ?_
    refine wz 5 ?_
    refine iz (fun c_47 c_47' => ?_) (fun c_47 c_47' => ?_)
    ·have hkR : k < s.rules.length := by omega
     have hrm := List.getElem_mem hkR
     have hto := B.ru _ hrm
     refine wz 11 ?_
     refine iz (fun c_58 c_58' => ?_) (fun c_58 c_58' => ?_)
     ·have hne : s.rules[k].frm ≠ (m : Int) := by simpa using c_58
      have hno : ¬ (s.rules[k].frm = (m : Int) ∧ endR s s.rules[k] = true) := fun q => hne q.1
      have eC : ((rowF (manR s) (motN s) m (cap 41 (cntB s m k))).map fun (a : Nat) => I (a : Int)) = ((rowF (manR s) (motN s) m (cap 41 (cntB s m (k + 1)))).map fun (a : Nat) => I (a : Int)) := by rw [cntB_no hkR hne]
      have eG : ((rowF (lonR s) (motN s) m (cap 11 (lngB s m k))).map fun (a : Nat) => I (a : Int)) = ((rowF (lonR s) (motN s) m (cap 11 (lngB s m (k + 1)))).map fun (a : Nat) => I (a : Int)) := by rw [lngB_no hkR hno]
      refine wz 3 ?_
      exact ⟨⟨k + 1, by omega⟩, by simp only; omega, sb 3 ⟨jz, jz, jz, jz, jz, trivial⟩ (hH := (rows3 eC eG)) (h2 := (by simp [objsIn, AObj.inB, AV.inB, AV.inL, inL_nat]))⟩
     have hfm : s.rules[k].frm = (m : Int) := by simpa using c_58
     refine wz 3 ?_
     refine aw_loopk (ι := { q : Nat // q ≤ s.rules[k].to.length }) [1, 4, 5, 6, 7, 8] (fun u => [(11, I (u.1 : Nat)), (9, I ((proR s s.rules[k] u.1 : Nat) : Int)), (10, I ((sumR s s.rules[k] u.1 : Nat) : Int))]) (fun H u => H) (fun u => s.rules[k].to.length - u.1) (⟨0, Nat.zero_le _⟩) ⟨jz, (by exact less_int rfl), (by exact less_int rfl), jz, jz, jz, jz, jz, jz, trivial⟩ rfl ?_
     rintro ⟨q, hq⟩
     refine nz ?_
     have hpq := pro_le s s.rules[k] q
     have hsq := sumR_le s s.rules[k] q hq
     refine wz 5 ?_
     refine iz (fun c_63 c_63' => ?_) (fun c_63 c_63' => ?_)
     ·have hqL : q < s.rules[k].to.length := by omega
      have eP := proR_succ (s := s) (r := s.rules[k]) hqL
      have eT : ((sumR s s.rules[k] q : Nat) : Int) + ((cap 11 (lng s s.rules[k].to[q]) : Nat) : Int) = ((sumR s s.rules[k] (q + 1) : Nat) : Int) := by rw [sumR_succ hqL]; omega
      refine aw_skip ?_
      refine aw_seq ?_
      refine aw_block ?_
      have hto := B.ru _ hrm
      have hxq := hto.2.2 _ (List.getElem_mem hqL)
      refine aw_drawc [] [] _ mo (by kernel_rfl) (HSub.refl _) ?_
      refine dc_ev rfl (ev_mv (v := .raw _) jz) ?_
      first | refine dc_ev rfl (ev_mv (v := .sl _ _) jz) ?_ | refine dc_ev rfl (ev_mv (v := .own _ _ _) jz) ?_ | refine dc_ev rfl (ev_mv (v := .raw _) jz) ?_ | refine dc_ev rfl (ev_mv (v := .slx _ _) jz) ?_ | refine dc_ev rfl (ev_mv (v := .msl _ _ _ _) jz) ?_
      first | refine dc_ev rfl (ev_fieldAddr fo104_1.h jz) ?_ | refine dc_ev rfl (ev_fieldAddr_i fo104_1.h jz) ?_
      first | refine dc_ev rfl (ev_load jz rfl ty31.h rfl) ?_ | refine dc_ev rfl (ev_load_i jz ty31.h rfl) ?_
      refine dc_ev rfl (ev_mv (v := .raw _) jz) ?_
      first | refine dc_ev rfl (ev_index_map sl31.h jz jz rfl (by omega)) ?_ | refine dc_ev rfl (ev_index sl31.h jz jz rfl rfl) ?_
      first | refine dc_ev rfl (ev_load jz rfl ty3.h rfl) ?_ | refine dc_ev rfl (ev_load_i jz ty3.h rfl) ?_
      refine dc_ev rfl (ev_index_msl (k := (s.rules[k].to[q]).toNat) sl31.h jz jz (by omega) (by omega)) ?_
      refine dc_ev rfl (ev_load (v := I ((cap 41 (cnt s s.rules[k].to[q]) : Nat) : Int)) jz rfl ty3.h ((rowF_val (by omega) (by omega)).trans (by rw [manR_at s (by omega)]))) ?_
      refine dc_ev rfl (ev_mul jz jz (wr (by rw [← Int.natCast_mul]; omega) (by rw [← Int.natCast_mul]; have := Nat.mul_le_mul hpq (cap_le 41 (cnt s s.rules[k].to[q])); omega))) ?_
      refine dc_ev rfl (ev_min2 jz jz) ?_
      refine dc_ev rfl (ev_mv (v := .raw _) jz) ?_
      first | refine dc_ev rfl (ev_mv (v := .sl _ _) jz) ?_ | refine dc_ev rfl (ev_mv (v := .own _ _ _) jz) ?_ | refine dc_ev rfl (ev_mv (v := .raw _) jz) ?_ | refine dc_ev rfl (ev_mv (v := .slx _ _) jz) ?_ | refine dc_ev rfl (ev_mv (v := .msl _ _ _ _) jz) ?_
      first | refine dc_ev rfl (ev_fieldAddr fo104_1.h jz) ?_ | refine dc_ev rfl (ev_fieldAddr_i fo104_1.h jz) ?_
      first | refine dc_ev rfl (ev_load jz rfl ty31.h rfl) ?_ | refine dc_ev rfl (ev_load_i jz ty31.h rfl) ?_
      refine dc_ev rfl (ev_mv (v := .raw _) jz) ?_
      first | refine dc_ev rfl (ev_index_map sl31.h jz jz rfl (by omega)) ?_ | refine dc_ev rfl (ev_index sl31.h jz jz rfl rfl) ?_
      first | refine dc_ev rfl (ev_load jz rfl ty3.h rfl) ?_ | refine dc_ev rfl (ev_load_i jz ty3.h rfl) ?_
      refine dc_ev rfl (ev_index_msl (k := (s.rules[k].to[q]).toNat) sl31.h jz jz (by omega) (by omega)) ?_
      refine dc_ev rfl (ev_load (v := I ((cap 11 (lng s s.rules[k].to[q]) : Nat) : Int)) jz rfl ty3.h ((rowF_val (by omega) (by omega)).trans (by rw [lonR_at s (by omega)]))) ?_
      refine dc_ev rfl (ev_add jz jz (wr (by omega) (by have := cap_le 11 (lng s s.rules[k].to[q]); omega))) ?_
      refine dc_ev rfl (ev_as (v := .raw _) jz) ?_
      refine dc_ev rfl (ev_as (v := .raw _) jz) ?_
      refine dc_nil ?_
      refine wz 3 ?_
      exact ⟨⟨q + 1, by omega⟩, by simp only; omega, Sub.slots ⟨jz, (by exact less_int eP), (by exact less_int eT), jz, jz, jz, jz, jz, jz, trivial⟩⟩
     obtain rfl : q = s.rules[k].to.length := by omega
     have eP : (min (41 : Int) (((cap 41 (cntB s m k) : Nat) : Int) + ((proR s s.rules[k] s.rules[k].to.length : Nat) : Int)) : Int) = ((cap 41 (cntB s m (k + 1)) : Nat) : Int) := by rw [cntB_yes hkR hfm, proR_all, ← cap_add]; generalize cap 41 (cntB s m k) = a; generalize cap 41 (prodN (s.rules[k].to.map (cnt s))) = b; unfold cap; omega
     have eC := row_mid (v := manR s) (x := cap 41 (cntB s m k)) hmN (cap 41 (cntB s m (k + 1)))
     refine aw_exit ?_
     refine aw_seq ?_
     refine nz ?_
     refine wz 4 ?_
     refine sq_ev rfl (ev_index_msl (k := m) sl31.h jz jz rfl hmN) ?_
     refine sq_ev rfl (ev_load jz rfl ty3.h (rowF_me hmN)) ?_
     refine wz 1 ?_
     refine sq_ev rfl (ev_add jz jz (wr (by omega) (by have := cap_le 41 (cntB s m k); have := pro_le s s.rules[k] s.rules[k].to.length; omega))) ?_
     refine wz 1 ?_
     refine sq_ev rfl (ev_index_msl (k := m) sl31.h jz jz rfl hmN) ?_
     refine sq_store (j := 1) (off := 0 + m * 1) rfl jz (by exact less_int eP) rfl rfl ty3.h rfl (row_ble hmN) ?_
     refine wz 2 ?_
     refine iz (fun c_98 c_98' => ?_) (fun c_98 c_98' => ?_)
     ·have hen := (pro_pos (s := s) (r := s.rules[k])).1 (by omega)
      have eQ : (max ((cap 11 (lngB s m k) : Nat) : Int) (min (11 : Int) ((sumR s s.rules[k] s.rules[k].to.length : Nat) : Int)) : Int) = ((cap 11 (lngB s m (k + 1)) : Nat) : Int) := by rw [lngB_yes hkR hfm hen, cap_max, ← sumR_all]; unfold cap; omega
      have eG := row_mid (v := lonR s) (x := cap 11 (lngB s m k)) hmN (cap 11 (lngB s m (k + 1)))
      refine nz ?_
      refine wz 4 ?_
      refine sq_ev rfl (ev_index_msl (k := m) sl31.h jz jz rfl hmN) ?_
      refine sq_ev rfl (ev_load jz rfl ty3.h (rowF_me hmN)) ?_
      refine wz 3 ?_
      refine sq_ev rfl (ev_index_msl (k := m) sl31.h jz jz rfl hmN) ?_
      refine sq_store (j := 2) (off := 0 + m * 1) rfl jz (by exact less_int eQ) rfl rfl ty3.h rfl (row_ble hmN) ?_
      refine wz 3 ?_
      exact ⟨⟨k + 1, by omega⟩, by simp only; omega, sb 3 ⟨jz, jz, jz, jz, jz, trivial⟩ (hH := (rows3 eC eG)) (h2 := (by simp [objsIn, AObj.inB, AV.inB, AV.inL, inL_nat]))⟩
     have hen : ¬ endR s s.rules[k] = true := fun q => by have := (pro_pos (s := s) (r := s.rules[k])).2 q; omega
     have eG : ((rowF (lonR s) (motN s) m (cap 11 (lngB s m k))).map fun (a : Nat) => I (a : Int)) = ((rowF (lonR s) (motN s) m (cap 11 (lngB s m (k + 1)))).map fun (a : Nat) => I (a : Int)) := by rw [lngB_no hkR (fun q => hen q.2)]
     refine wz 3 ?_
     exact ⟨⟨k + 1, by omega⟩, by simp only; omega, sb 3 ⟨jz, jz, jz, jz, jz, trivial⟩ (hH := (rows3 eC eG)) (h2 := (by simp [objsIn, AObj.inB, AV.inB, AV.inL, inL_nat]))⟩
    obtain rfl : k = s.rules.length := by omega
    have eM : ((rowF (manR s) (motN s) m (cap 41 (cntB s m s.rules.length))).map fun (a : Nat) => I (a : Int)) = (rowD (manR s) (motN s) (d + 1)).map fun (a : Nat) => I (a : Int) := by rw [cntB_all B (by omega)]; exact congrArg _ (rowF_out (v := manR s) hmd)
    have eL : ((rowF (lonR s) (motN s) m (cap 11 (lngB s m s.rules.length))).map fun (a : Nat) => I (a : Int)) = (rowD (lonR s) (motN s) (d + 1)).map fun (a : Nat) => I (a : Int) := by rw [lngB_all B (by omega)]; exact congrArg _ (rowF_out (v := lonR s) hmd)
    refine wz 3 ?_
    exact ⟨⟨d + 1, by omega⟩, by simp only; omega, sb 3 ⟨(by exact less_int (by simp <;> omega)), jz, jz, jz, trivial⟩ (hH := (rows3 eM eL)) (h2 := (by simp [objsIn, AObj.inB, AV.inB, AV.inL, inL_nat]))⟩
   have eM0 : ((rowF (manR s) (motN s) m 0).map fun (a : Nat) => I (a : Int)) = (rowF (manR s) (motN s) m (cap 41 (cntB s m 0))).map fun (a : Nat) => I (a : Int) := by rw [cntB_zero, if_neg (by omega)]; rfl
   have eL0 : ((rowF (lonR s) (motN s) m 0).map fun (a : Nat) => I (a : Int)) = (rowF (lonR s) (motN s) m (cap 11 (lngB s m 0))).map fun (a : Nat) => I (a : Int) := by rw [lngB_zero, if_neg (by omega)]; rfl
   refine aw_skip ?_
   refine aw_seq ?_
   refine nz ?_
   refine wz 1 ?_
   refine aw_loopk (ι := { k : Nat // k ≤ s.rules.length }) [1, 4, 5, 6] (fun y => [(7, I (y.1 : Nat))]) (fun H y => [.cells (stoC s), rowO (rowF (manR s) (motN s) m (cap 41 (cntB s m y.1))), rowO (rowF (lonR s) (motN s) m (cap 11 (lngB s m y.1)))]) (fun y => s.rules.length - y.1) (⟨0, Nat.zero_le _⟩) ⟨jz, jz, jz, jz, jz, trivial⟩ (rows3 eM0 eL0).symm ?_
   rintro ⟨k, hk⟩
   refine nz ?_
   refine wz 5 ?_
   refine iz (fun c_47 c_47' => ?_) (fun c_47 c_47' => ?_)
   ·have hkR : k < s.rules.length := by omega
    have hrm := List.getElem_mem hkR
    have hto := B.ru _ hrm
    refine wz 11 ?_
    refine iz (fun c_58 c_58' => ?_) (fun c_58 c_58' => ?_)
    ·have hne : s.rules[k].frm ≠ (m : Int) := by simpa using c_58
     have hno : ¬ (s.rules[k].frm = (m : Int) ∧ endR s s.rules[k] = true) := fun q => hne q.1
     have eC : ((rowF (manR s) (motN s) m (cap 41 (cntB s m k))).map fun (a : Nat) => I (a : Int)) = ((rowF (manR s) (motN s) m (cap 41 (cntB s m (k + 1)))).map fun (a : Nat) => I (a : Int)) := by rw [cntB_no hkR hne]
     have eG : ((rowF (lonR s) (motN s) m (cap 11 (lngB s m k))).map fun (a : Nat) => I (a : Int)) = ((rowF (lonR s) (motN s) m (cap 11 (lngB s m (k + 1)))).map fun (a : Nat) => I (a : Int)) := by rw [lngB_no hkR hno]
     refine wz 3 ?_
     exact ⟨⟨k + 1, by omega⟩, by simp only; omega, sb 3 ⟨jz, jz, jz, jz, jz, trivial⟩ (hH := (rows3 eC eG)) (h2 := (by simp [objsIn, AObj.inB, AV.inB, AV.inL, inL_nat]))⟩
    have hfm : s.rules[k].frm = (m : Int) := by simpa using c_58
    refine wz 3 ?_
    refine aw_loopk (ι := { q : Nat // q ≤ s.rules[k].to.length }) [1, 4, 5, 6, 7, 8] (fun u => [(11, I (u.1 : Nat)), (9, I ((proR s s.rules[k] u.1 : Nat) : Int)), (10, I ((sumR s s.rules[k] u.1 : Nat) : Int))]) (fun H u => H) (fun u => s.rules[k].to.length - u.1) (⟨0, Nat.zero_le _⟩) ⟨jz, (by exact less_int rfl), (by exact less_int rfl), jz, jz, jz, jz, jz, jz, trivial⟩ rfl ?_
    rintro ⟨q, hq⟩
    refine nz ?_
    have hpq := pro_le s s.rules[k] q
    have hsq := sumR_le s s.rules[k] q hq
    refine wz 5 ?_
    refine iz (fun c_63 c_63' => ?_) (fun c_63 c_63' => ?_)
    ·have hqL : q < s.rules[k].to.length := by omega
     have eP := proR_succ (s := s) (r := s.rules[k]) hqL
     have eT : ((sumR s s.rules[k] q : Nat) : Int) + ((cap 11 (lng s s.rules[k].to[q]) : Nat) : Int) = ((sumR s s.rules[k] (q + 1) : Nat) : Int) := by rw [sumR_succ hqL]; omega
     refine aw_skip ?_
     refine aw_seq ?_
     refine aw_block ?_
     have hto := B.ru _ hrm
     have hxq := hto.2.2 _ (List.getElem_mem hqL)
     refine aw_drawc [] [] _ mo (by kernel_rfl) (HSub.refl _) ?_
     refine dc_ev rfl (ev_mv (v := .raw _) jz) ?_
     first | refine dc_ev rfl (ev_mv (v := .sl _ _) jz) ?_ | refine dc_ev rfl (ev_mv (v := .own _ _ _) jz) ?_ | refine dc_ev rfl (ev_mv (v := .raw _) jz) ?_ | refine dc_ev rfl (ev_mv (v := .slx _ _) jz) ?_ | refine dc_ev rfl (ev_mv (v := .msl _ _ _ _) jz) ?_
     first | refine dc_ev rfl (ev_fieldAddr fo104_1.h jz) ?_ | refine dc_ev rfl (ev_fieldAddr_i fo104_1.h jz) ?_
     first | refine dc_ev rfl (ev_load jz rfl ty31.h rfl) ?_ | refine dc_ev rfl (ev_load_i jz ty31.h rfl) ?_
     refine dc_ev rfl (ev_mv (v := .raw _) jz) ?_
     first | refine dc_ev rfl (ev_index_map sl31.h jz jz rfl (by omega)) ?_ | refine dc_ev rfl (ev_index sl31.h jz jz rfl rfl) ?_
     first | refine dc_ev rfl (ev_load jz rfl ty3.h rfl) ?_ | refine dc_ev rfl (ev_load_i jz ty3.h rfl) ?_
     refine dc_ev rfl (ev_index_msl (k := (s.rules[k].to[q]).toNat) sl31.h jz jz (by omega) (by omega)) ?_
     refine dc_ev rfl (ev_load (v := I ((cap 41 (cnt s s.rules[k].to[q]) : Nat) : Int)) jz rfl ty3.h ((rowF_val (by omega) (by omega)).trans (by rw [manR_at s (by omega)]))) ?_
     refine dc_ev rfl (ev_mul jz jz (wr (by rw [← Int.natCast_mul]; omega) (by rw [← Int.natCast_mul]; have := Nat.mul_le_mul hpq (cap_le 41 (cnt s s.rules[k].to[q])); omega))) ?_
     refine dc_ev rfl (ev_min2 jz jz) ?_
     refine dc_ev rfl (ev_mv (v := .raw _) jz) ?_
     first | refine dc_ev rfl (ev_mv (v := .sl _ _) jz) ?_ | refine dc_ev rfl (ev_mv (v := .own _ _ _) jz) ?_ | refine dc_ev rfl (ev_mv (v := .raw _) jz) ?_ | refine dc_ev rfl (ev_mv (v := .slx _ _) jz) ?_ | refine dc_ev rfl (ev_mv (v := .msl _ _ _ _) jz) ?_
     first | refine dc_ev rfl (ev_fieldAddr fo104_1.h jz) ?_ | refine dc_ev rfl (ev_fieldAddr_i fo104_1.h jz) ?_
     first | refine dc_ev rfl (ev_load jz rfl ty31.h rfl) ?_ | refine dc_ev rfl (ev_load_i jz ty31.h rfl) ?_
     refine dc_ev rfl (ev_mv (v := .raw _) jz) ?_
     first | refine dc_ev rfl (ev_index_map sl31.h jz jz rfl (by omega)) ?_ | refine dc_ev rfl (ev_index sl31.h jz jz rfl rfl) ?_
     first | refine dc_ev rfl (ev_load jz rfl ty3.h rfl) ?_ | refine dc_ev rfl (ev_load_i jz ty3.h rfl) ?_
     refine dc_ev rfl (ev_index_msl (k := (s.rules[k].to[q]).toNat) sl31.h jz jz (by omega) (by omega)) ?_
     refine dc_ev rfl (ev_load (v := I ((cap 11 (lng s s.rules[k].to[q]) : Nat) : Int)) jz rfl ty3.h ((rowF_val (by omega) (by omega)).trans (by rw [lonR_at s (by omega)]))) ?_
     refine dc_ev rfl (ev_add jz jz (wr (by omega) (by have := cap_le 11 (lng s s.rules[k].to[q]); omega))) ?_
     refine dc_ev rfl (ev_as (v := .raw _) jz) ?_
     refine dc_ev rfl (ev_as (v := .raw _) jz) ?_
     refine dc_nil ?_
     refine wz 3 ?_
     exact ⟨⟨q + 1, by omega⟩, by simp only; omega, Sub.slots ⟨jz, (by exact less_int eP), (by exact less_int eT), jz, jz, jz, jz, jz, jz, trivial⟩⟩
    obtain rfl : q = s.rules[k].to.length := by omega
    have eP : (min (41 : Int) (((cap 41 (cntB s m k) : Nat) : Int) + ((proR s s.rules[k] s.rules[k].to.length : Nat) : Int)) : Int) = ((cap 41 (cntB s m (k + 1)) : Nat) : Int) := by rw [cntB_yes hkR hfm, proR_all, ← cap_add]; generalize cap 41 (cntB s m k) = a; generalize cap 41 (prodN (s.rules[k].to.map (cnt s))) = b; unfold cap; omega
    have eC := row_mid (v := manR s) (x := cap 41 (cntB s m k)) hmN (cap 41 (cntB s m (k + 1)))
    refine aw_exit ?_
    refine aw_seq ?_
    refine nz ?_
    refine wz 4 ?_
    refine sq_ev rfl (ev_index_msl (k := m) sl31.h jz jz rfl hmN) ?_
    refine sq_ev rfl (ev_load jz rfl ty3.h (rowF_me hmN)) ?_
    refine wz 1 ?_
    refine sq_ev rfl (ev_add jz jz (wr (by omega) (by have := cap_le 41 (cntB s m k); have := pro_le s s.rules[k] s.rules[k].to.length; omega))) ?_
    refine wz 1 ?_
    refine sq_ev rfl (ev_index_msl (k := m) sl31.h jz jz rfl hmN) ?_
    refine sq_store (j := 1) (off := 0 + m * 1) rfl jz (by exact less_int eP) rfl rfl ty3.h rfl (row_ble hmN) ?_
    refine wz 2 ?_
    refine iz (fun c_98 c_98' => ?_) (fun c_98 c_98' => ?_)
    ·have hen := (pro_pos (s := s) (r := s.rules[k])).1 (by omega)
     have eQ : (max ((cap 11 (lngB s m k) : Nat) : Int) (min (11 : Int) ((sumR s s.rules[k] s.rules[k].to.length : Nat) : Int)) : Int) = ((cap 11 (lngB s m (k + 1)) : Nat) : Int) := by rw [lngB_yes hkR hfm hen, cap_max, ← sumR_all]; unfold cap; omega
     have eG := row_mid (v := lonR s) (x := cap 11 (lngB s m k)) hmN (cap 11 (lngB s m (k + 1)))
     refine nz ?_
     refine wz 4 ?_
     refine sq_ev rfl (ev_index_msl (k := m) sl31.h jz jz rfl hmN) ?_
     refine sq_ev rfl (ev_load jz rfl ty3.h (rowF_me hmN)) ?_
     refine wz 3 ?_
     refine sq_ev rfl (ev_index_msl (k := m) sl31.h jz jz rfl hmN) ?_
     refine sq_store (j := 2) (off := 0 + m * 1) rfl jz (by exact less_int eQ) rfl rfl ty3.h rfl (row_ble hmN) ?_
     refine wz 3 ?_
     exact ⟨⟨k + 1, by omega⟩, by simp only; omega, sb 3 ⟨jz, jz, jz, jz, jz, trivial⟩ (hH := (rows3 eC eG)) (h2 := (by simp [objsIn, AObj.inB, AV.inB, AV.inL, inL_nat]))⟩
    have hen : ¬ endR s s.rules[k] = true := fun q => by have := (pro_pos (s := s) (r := s.rules[k])).2 q; omega
    have eG : ((rowF (lonR s) (motN s) m (cap 11 (lngB s m k))).map fun (a : Nat) => I (a : Int)) = ((rowF (lonR s) (motN s) m (cap 11 (lngB s m (k + 1)))).map fun (a : Nat) => I (a : Int)) := by rw [lngB_no hkR (fun q => hen q.2)]
    refine wz 3 ?_
    exact ⟨⟨k + 1, by omega⟩, by simp only; omega, sb 3 ⟨jz, jz, jz, jz, jz, trivial⟩ (hH := (rows3 eC eG)) (h2 := (by simp [objsIn, AObj.inB, AV.inB, AV.inL, inL_nat]))⟩
   obtain rfl : k = s.rules.length := by omega
   have eM : ((rowF (manR s) (motN s) m (cap 41 (cntB s m s.rules.length))).map fun (a : Nat) => I (a : Int)) = (rowD (manR s) (motN s) (d + 1)).map fun (a : Nat) => I (a : Int) := by rw [cntB_all B (by omega)]; exact congrArg _ (rowF_out (v := manR s) hmd)
   have eL : ((rowF (lonR s) (motN s) m (cap 11 (lngB s m s.rules.length))).map fun (a : Nat) => I (a : Int)) = (rowD (lonR s) (motN s) (d + 1)).map fun (a : Nat) => I (a : Int) := by rw [lngB_all B (by omega)]; exact congrArg _ (rowF_out (v := lonR s) hmd)
   refine wz 3 ?_
   exact ⟨⟨d + 1, by omega⟩, by simp only; omega, sb 3 ⟨(by exact less_int (by simp <;> omega)), jz, jz, jz, trivial⟩ (hH := (rows3 eM eL)) (h2 := (by simp [objsIn, AObj.inB, AV.inB, AV.inL, inL_nat]))⟩
  obtain rfl : d = motN s := by omega
  refine aw_exit ?_
  refine aw_seq ?_
  rw [rowD_all, rowD_all]
  refine aw_sub (sub_freeze (j := 1) (n := motN s) (cap := motN s) (sz := 1) (es := (manS s).map fun (a : Nat) => [I (a : Int)]) (rest := []) (sl' := [(4, natV (manS s)), (5, .msl 2 0 (motN s) (motN s))]) (by rw [flat_single, List.append_nil]; rfl) (by simp [manS]) (sz_nats _) (fun q hq => ?_) (FzH.same _ (by decide) (FzH.dead _ rfl (FzH.same _ (by decide) (FzH.nil _))))) ?_
  ·simp only [List.mem_cons, List.not_mem_nil, or_false] at hq; rcases hq with rfl | rfl <;> first | exact Fz.same _ | exact (Fz.frozen : Fz 1 (motN s) (motN s) 1 _ (.msl 1 0 (motN s) (motN s)) (.sl 1 _))
  refine nz ?_
  refine aw_sub (sub_freeze (j := 2) (n := motN s) (cap := motN s) (sz := 1) (es := (lonS s).map fun (a : Nat) => [I (a : Int)]) (rest := []) (sl' := [(4, natV (manS s)), (5, natV (lonS s))]) (by rw [flat_single, List.append_nil]; rfl) (by simp [lonS]) (sz_nats _) (fun q hq => ?_) (FzH.same _ (by decide) (FzH.same _ (by decide) (FzH.dead _ rfl (FzH.nil _))))) ?_
  ·simp only [List.mem_cons, List.not_mem_nil, or_false] at hq; rcases hq with rfl | rfl <;> first | exact Fz.same _ | exact (Fz.frozen : Fz 2 (motN s) (motN s) 1 _ (.msl 2 0 (motN s) (motN s)) (.sl 1 _))
  refine nz ?_
  refine wz 4 ?_
  exact retQ_pure (v := .tup [.sl _ _, .sl _ _]) rfl rfl jz
end Go.Proofs.YtnbjaepkbabkhaaGreat
namespace Go.Proofs.YtnbjaepkbabkhaaGreat
open Go Go.Ab Br Hd
open Ni (hi inn)
instance en6 : EnT Tryz.prog 6 := ⟨Ent.of Tryz.func6 (by kernel_rfl) rfl⟩
theorem story9_pure (s : Sto) (hs : s.scs.length ≤ 1000000) (hr : s.rules.length ≤ 1000000) : APure Tryz.prog 6 [stoA s] (B (stoOK s)) := by
  refine ap Tryz.func6 (fun e0 he0 => ?_)
  refine wz 4 ?_
  refine kz az (in9_pure _ _ _) ?_
  refine wz 2 ?_
  refine sz 11 (fun g1_4 g1_4' => ?_) (fun g1_4 g1_4' => ?_)
  ·have hpo : parOK s = false := by unfold parOK; rw [g1_4']; rfl
   refine wz 15 ?_
   exact rz rfl (Less.eq (congrArg B (by unfold stoOK; rw [hpo]; rfl)))
  refine wz 3 ?_
  refine ky az (in9_pure _ _ _) ?_
  refine wz 3 ?_
  refine sz 18 (fun g1_11 g1_11' => ?_) (fun g1_11 g1_11' => ?_)
  ·have hpo : parOK s = false := by unfold parOK; rw [g1_11']; simp
   refine wz 8 ?_
   exact rz rfl (Less.eq (congrArg B (by unfold stoOK; rw [hpo]; rfl)))
  refine wz 3 ?_
  refine ky az (in9_pure _ _ _) ?_
  refine wz 2 ?_
  refine iz (fun c_24 c_24' => ?_) (fun c_24 c_24' => ?_)
  ·have hpo : parOK s = false := by unfold parOK; rw [c_24']; simp
   refine wz 1 ?_
   exact rz rfl (Less.eq (congrArg B (by unfold stoOK; rw [hpo]; rfl)))
  have h3 : inn s.eps 1 6 = true ∧ inn (s.scs.length : Int) 1 8 = true ∧ inn (s.rules.length : Int) 1 10 = true := ⟨g1_4', g1_11', c_24'⟩
  have hep : 1 ≤ s.eps ∧ s.eps ≤ 6 := by have h := h3.1; unfold inn at h; simpa using h
  have hs8 : s.scs.length ≤ 8 := by have h := h3.2.1; unfold inn at h; simp at h; omega
  refine wz 1 ?_
  refine aw_loopk (ι := { k : Nat // k ≤ s.scs.length ∧ ∀ i, (hi : i < s.scs.length) → i < k → scbOK s.scs[i] = true }) [1] (fun g => [(3, I (g.1 : Nat))]) (fun H g => H) (fun g => s.scs.length - g.1) (⟨0, Nat.zero_le _, by omega⟩) ⟨jz, jz, trivial⟩ rfl ?_
  rintro ⟨k, hk, hok⟩
  refine nz ?_
  refine wz 5 ?_
  refine iz (fun c_29 c_29' => ?_) (fun c_29 c_29' => ?_)
  ·have hkL : k < s.scs.length := by omega
   refine wz 5 ?_
   refine kz az (rscb_pure _) ?_
   refine wz 1 ?_
   refine iz (fun c_38 c_38' => ?_) (fun c_38 c_38' => ?_)
   ·have hno : s.scs.all scbOK = false := List.all_eq_false.2 ⟨s.scs[k], List.getElem_mem hkL, by simpa using c_38⟩
    have hpo : parOK s = false := by unfold parOK; rw [hno]; simp
    refine wz 1 ?_
    exact rz rfl (Less.eq (congrArg B (by unfold stoOK; rw [hpo]; rfl)))
   have hin : scbOK s.scs[k] = true := by simpa using c_38
   refine wz 3 ?_
   exact ⟨⟨k + 1, by omega, fun i hi q => (by by_cases e : i = k; (subst e; exact hin); exact hok i hi (by omega))⟩, by simp only; omega, Sub.slots ⟨jz, jz, trivial⟩⟩
  obtain rfl : k = s.scs.length := by omega
  have hall : s.scs.all scbOK = true := List.all_eq_true.2 fun n hn => by obtain ⟨i, hi, rfl⟩ := List.getElem_of_mem hn; exact hok i hi hi
  refine wz 1 ?_
  refine aw_loopk (ι := { k : Nat // k ≤ s.rules.length ∧ ∀ i, (hi : i < s.rules.length) → i < k → rulOK s s.rules[i] = true }) [1] (fun g => [(4, I (g.1 : Nat))]) (fun H g => H) (fun g => s.rules.length - g.1) (⟨0, Nat.zero_le _, by omega⟩) ⟨jz, jz, trivial⟩ rfl ?_
  rintro ⟨k, hk, hok⟩
  refine nz ?_
  refine wz 5 ?_
  refine iz (fun c_43 c_43' => ?_) (fun c_43 c_43' => ?_)
  ·have hkL : k < s.rules.length := by omega
   refine wz 0 ?_
   refine aw_draw 8 mo (by kernel_rfl) ?_
   refine dz 6 ?_
   refine dkz az (rrul_pure s _ hep hs8) ?_
   refine dz 1 ?_
   refine wz 0 ?_
   refine iz (fun c_53 c_53' => ?_) (fun c_53 c_53' => ?_)
   ·have hno : s.rules.all (rulOK s) = false := List.all_eq_false.2 ⟨s.rules[k], List.getElem_mem hkL, by simpa using c_53⟩
    have hpo : parOK s = false := by unfold parOK; rw [hno]; simp
    refine wz 1 ?_
    exact rz rfl (Less.eq (congrArg B (by unfold stoOK; rw [hpo]; rfl)))
   have hin : rulOK s s.rules[k] = true := by simpa using c_53
   refine wz 3 ?_
   exact ⟨⟨k + 1, by omega, fun i hi q => (by by_cases e : i = k; (subst e; exact hin); exact hok i hi (by omega))⟩, by simp only; omega, Sub.slots ⟨jz, jz, trivial⟩⟩
  obtain rfl : k = s.rules.length := by omega
  have hal2 : s.rules.all (rulOK s) = true := List.all_eq_true.2 fun n hn => by obtain ⟨i, hi, rfl⟩ := List.getElem_of_mem hn; exact hok i hi hi
  have gB := parOK_iff.1 (show parOK s = true by unfold parOK; rw [h3.1, h3.2.1, h3.2.2, hall, hal2]; rfl)
  obtain ⟨hml, hm0⟩ := manS_0 gB
  obtain ⟨hll, hl0⟩ := lonS_0 gB
  refine wz 1 ?_
  refine kz az (ways9_pure gB) ?_
  refine wz 6 ?_
  refine sq_ev rfl (ev_index_map (k := 0) (xs := manS s) sl31.h jz jz rfl hml) ?_
  refine wz 3 ?_
  refine sz 63 (fun g14_4 g14_4' => ?_) (fun g14_4 g14_4' => ?_)
  ·have g4 := g14_4
   rw [hm0] at g4
   have hc4 : cnt s 0 ≤ 40 := by have h := g4; unfold cap at h; simp at h; omega
   refine wz 1 ?_
   refine sq_yes rfl rfl (less_b g14_4) rfl (ev_index_map (k := 0) (xs := lonS s) sl31.h jz jz rfl hll) ?_
   refine wz 4 ?_
   exact rz rfl (Less.eq (congrArg B (by unfold stoOK; rw [parOK_iff.2 gB, decide_eq_true hc4, hl0, Bool.true_and, Bool.true_and, decide_eq_decide]; unfold cap; omega)))
  have g4 := g14_4
  rw [hm0] at g4
  have hc4 : ¬ cnt s 0 ≤ 40 := by have h := g4; unfold cap at h; simp at h; omega
  refine wz 6 ?_
  exact rz rfl (Less.eq (congrArg B (by unfold stoOK; rw [decide_eq_false hc4]; simp)))
end Go.Proofs.YtnbjaepkbabkhaaGreat
namespace Go.Proofs.YtnbjaepkbabkhaaGreat
open Go Go.Ab Ni
theorem plan_pure (p : Pl) (hl : p.scenes.length ≤ 1000000) : APure Tryz.prog 14 [plan p] (B (PlOK p)) := by
  refine ap Tryz.func14 (fun e0 he0 => ?_)
  refine wz 4 ?_
  refine kz az (in3_pure _ _ _) ?_
  refine wz 1 ?_
  refine sz 6 (fun g1 g1' => ?_) (fun g1 g1' => ?_)
  ·refine wz 3 ?_
   refine ky az (window_pure _ _) ?_
   refine wz 2 ?_
   refine sz 12 (fun g2 g2' => ?_) (fun g2 g2' => ?_)
   ·refine wz 3 ?_
    refine ky az (window_pure _ _) ?_
    refine wz 2 ?_
    refine sz 18 (fun g3 g3' => ?_) (fun g3 g3' => ?_)
    ·refine wz 2 ?_
     refine ky az (window_pure _ _) ?_
     refine wz 2 ?_
     refine sz 23 (fun g4 g4' => ?_) (fun g4 g4' => ?_)
     ·refine wz 3 ?_
      refine ky az (in3_pure _ _ _) ?_
      refine wz 2 ?_
      refine sz 29 (fun g5 g5' => ?_) (fun g5 g5' => ?_)
      ·refine wz 1 ?_
       refine ky az (scenes_pure _ hl) ?_
       refine wz 2 ?_
       exact rz rfl (Less.eq (by simp [PlOK, *]))
      refine wz 4 ?_
      exact rz rfl (Less.eq (by simp [PlOK, *]))
     refine wz 10 ?_
     exact rz rfl (Less.eq (by simp [PlOK, *]))
    refine wz 15 ?_
    exact rz rfl (Less.eq (by simp [PlOK, *]))
   refine wz 21 ?_
   exact rz rfl (Less.eq (by simp [PlOK, *]))
  refine wz 27 ?_
  exact rz rfl (Less.eq (by simp [PlOK, *]))
end Go.Proofs.YtnbjaepkbabkhaaGreat
namespace Go.Proofs.YtnbjaepkbabkhaaGreat
open Go Go.Ab Ni
instance en51 : EnT Tryz.prog 51 := ⟨Ent.of Tryz.func51 (by kernel_rfl) rfl⟩
instance en52 : EnT Tryz.prog 52 := ⟨Ent.of Tryz.func52 (by kernel_rfl) rfl⟩
instance en53 : EnT Tryz.prog 53 := ⟨Ent.of Tryz.func53 (by kernel_rfl) rfl⟩
def atL (p : Pl) : Nat → Int | 0 => p.beg | k + 1 => wl p k
def atH (p : Pl) : Nat → Int | 0 => p.beg | k + 1 => wh p k
def suBad (p : Pl) (l : List Nat) (k : Nat) (_ : k < 3) : Bool := decide (wl p k - atH p k < pl p l k) || decide (ph p l k < wh p k - atL p k)
def sureP (p : Pl) (l : List Nat) : Bool := okAll 3 (suBad p l)
theorem at_bd {p : Pl} (gp : GP p) (k : Nat) : (-10000 ≤ atL p k ∧ atL p k ≤ 10000) ∧ (-10000 ≤ atH p k ∧ atH p k ≤ 10000) := by
  cases k with
  | zero => have := gp.beg; exact ⟨this, this⟩
  | succ k => have := win_bd gp k; exact ⟨⟨by simp only [atL]; omega, by simp only [atL]; omega⟩, ⟨by simp only [atH]; omega, by simp only [atH]; omega⟩⟩
theorem nsure_pure (p : Pl) (l : List Nat) (gp : GP p) (cv : CV p l) : APure Tryz.prog 51 [played p l] (B (sureP p l)) := by
  refine ap Tryz.func51 (fun e0 he0 => ?_)
  refine wz 12 ?_
  refine aw_loopk (ι := { k : Nat // k ≤ 3 ∧ ∀ i, (h : i < 3) → i < k → suBad p l i h = false }) [1, 3] (fun i => [(14, I i.1)]) (fun H i => H.set 1 (.cells [I (atL p i.1), I (atH p i.1)])) (fun i => 3 - i.1) (⟨0, Nat.zero_le _, by omega⟩) ⟨jz, jz, jz, trivial⟩ rfl ?_
  rintro ⟨k, hk, hok⟩
  refine nz ?_
  refine wz 1 ?_
  refine iz (fun c1 c1' => ?_) (fun c1 c1' => ?_)
  ·have hk3 : k < 3 := by omega
   have b1 := at_bd gp k
   have b2 : 0 ≤ pl p l k ∧ pl p l k ≤ 10000000 := lsum_bd gp (ofP_cv cv _)
   have b3 : 0 ≤ ph p l k ∧ ph p l k ≤ 10000000 := hsum_bd gp (ofP_cv cv _)
   have b4 := win_bd gp k
   refine wz 2 ?_
   refine aw_draw 11 mo (by kernel_rfl) ?_
   refine dz 3 ?_
   refine dkz az (nof_pure p l (k : Int) gp cv) ?_
   refine dkz az (nlastsP_pure p l k gp cv) ?_
   refine dz 3 ?_
   refine dkz az (nwindow_pure p k hk3) ?_
   refine dr_alloc rfl z27.h ?_
   refine dr_alloc rfl z27.h ?_
   refine dr_end ?_
   refine wz 11 ?_
   refine sz 34 (fun g2 g2' => ?_) (fun g2 g2' => ?_)
   ·refine wz 11 ?_
    exact rz rfl (Less.eq (by rw [sureP, okAll_bad (i := k) (by omega) (by first | (simp [suBad, *]; done) | (simp_all [suBad]; done))]))
   refine wz 9 ?_
   refine iz (fun c3 c3' => ?_) (fun c3 c3' => ?_)
   ·refine wz 1 ?_
    exact rz rfl (Less.eq (by rw [sureP, okAll_bad (i := k) (by omega) (by first | (simp [suBad, *]; done) | (simp_all [suBad]; done))]))
   refine vz 4 ?_
   refine sq_nil ?_
   have hgood : suBad p l k (by omega) = false := by first | (simp [suBad, *]; done) | (simp_all [suBad]; done)
   exact ⟨⟨k + 1, by omega, fun i h hi => (by by_cases e : i = k; (subst e; exact hgood); exact hok i h (by omega))⟩, by simp only; omega, sb 2 ⟨jz, jz, jz, trivial⟩ (h1 := by simp [slotsIn, objsIn, sget, keepS, AObj.inB, AV.inB, AV.inL, AV.inE, inE_map, inE_ints, inE_sc, -List.map_append, -List.map_take, -List.map_map]) (h2 := by simp [slotsIn, objsIn, sget, keepS, AObj.inB, AV.inB, AV.inL, AV.inE, inE_map, inE_ints, inE_sc, -List.map_append, -List.map_take, -List.map_map])⟩
  refine wz 1 ?_
  exact rz rfl (Less.eq (by rw [sureP, okAll_end hk c1' hok]))
def zC : List AV := [I 0, I 0, I 0, I 0, I 0, I 0, I 0, .raw (.slice none 0 0), .raw (.slice none 0 0)]
def outC (p : Pl) (l : List Nat) (k : Nat) : List AV := if k = 0 then zC else playedC p l
def surest (p : Pl) : Option (List Nat) := (allC p).find? (sureP p)
def sureL (p : Pl) : List (List Nat) := (allC p).filter (sureP p)
theorem sureL_head (p : Pl) : (sureL p).head? = surest p := by unfold sureL surest; exact List.head?_filter ..
theorem sureL_len {p : Pl} {l : List Nat} {r : List (List Nat)} (h : sureL p = l :: r) : ∀ x ∈ r, x.length ≤ l.length := fun x hx => by
  have ho := (allC_orderB p).filter (sureP p)
  change (sureL p).Pairwise _ at ho
  rw [h, List.pairwise_cons] at ho
  have := ho.1 x hx
  unfold soonB at this
  split at this
  · simp only [up, List.length_map, decide_eq_true_eq] at this; omega
  · rename_i g; simp [up] at g; omega
def surestAV (p : Pl) : AV := if PlOK p = true then (match surest p with | some l => .tup [nats l, I 0] | none => .tup [.sl 1 [], I 5]) else .tup [.sl 1 [], I 2]
theorem outC_in (n : Nat) (p : Pl) (l : List Nat) (k : Nat) : AV.inL n (outC p l k) = true := by unfold outC; split <;> simp [zC, AV.inL, AV.inB, inE_map]
theorem nless_pure (p : Pl) (a b : List Nat) (ha : a.length ≤ 1000000) (hb : b.length ≤ 1000000) : APure Tryz.prog 53 [played p a, played p b] (B (decide ((a.length : Int) > b.length))) := by
  refine ap Tryz.func53 (fun e0 he0 => ?_)
  refine wz 11 ?_
  exact rz rfl (Less.eq (by simp))
theorem nbestN_pure  : APure Tryz.prog 52 [.sl 9 [], .fn (.func 53) [] []] (.tup [.agg [I 0, I 0, I 0, I 0, I 0, I 0, I 0, .raw (.slice none 0 0), .raw (.slice none 0 0)], B false]) := by
  refine ap (rs := [.cell 4 130, .tmp 5]) Tryz.func52 (fun e0 he0 => ?_)
  refine wz 6 ?_
  refine aw_loopk (ι := Unit) [0, 1, 4, 6, 9, 10] (fun k => [(11, I 0)]) (fun H k => H) (fun k => 0) (()) ⟨jz, jz, jz, jz, jz, jz, jz, trivial⟩ rfl ?_
  rintro _
  refine nz ?_
  refine wz 1 ?_
  refine iz (fun c1 c1' => ?_) (fun c1 c1' => ?_)
  ·exfalso; simp at c1
  refine wz 6 ?_
  exact retQ_res (vs := [.agg _, .raw _]) rfl rfl ⟨resVar_cell rfl rfl ty130.h rfl, resVar_tmp _ _ _, trivial⟩ jz
theorem nbest_pure (p : Pl) (l : List Nat) (r : List (List Nat)) (hl : ∀ x ∈ r, x.length ≤ l.length) (hb : l.length ≤ 1000000) (hr : r.length ≤ 100000000) : APure Tryz.prog 52 [playeds p (l :: r), .fn (.func 53) [] []] (.tup [played p l, B true]) := by
  refine ap (rs := [.cell 4 130, .tmp 5]) Tryz.func52 (fun e0 he0 => ?_) (hr := by simp [AV.pureL, AV.pureB, AV.pureE, pureE_map])
  refine wz 6 ?_
  refine aw_loopk (ι := { k : Nat // k ≤ (l :: r).length }) [0, 1, 4, 6, 9, 10] (fun k => [(11, I k.1)]) (fun H k => H.set 1 (.cells (outC p l k.1))) (fun k => (l :: r).length - k.1) (⟨0, Nat.zero_le _⟩) ⟨jz, jz, jz, jz, jz, jz, jz, trivial⟩ rfl ?_
  rintro ⟨k, hk⟩
  refine nz ?_
  refine wz 1 ?_
  refine iz (fun c1 c1' => ?_) (fun c1 c1' => ?_)
  ·have hk' : k < (l :: r).length := by simp at c1 ⊢; omega
   refine wz 9 ?_
   refine sz 18 (fun g2 g2' => ?_) (fun g2 g2' => ?_)
   ·have hk0 : k = 0 := by omega
    have ho0 : outC p l k = zC := if_pos hk0
    rw [ho0]
    have eO : outC p l (k + 1) = playedC p (l :: r)[k] := by subst hk0; rfl
    refine wz 10 ?_
    exact ⟨⟨k + 1, by omega⟩, by simp only; omega, sb 2 ⟨jz, jz, jz, jz, jz, jz, jz, trivial⟩ (hH := (congrArg (fun c => [_, AObj.cells c]) eO.symm)) (h1 := by simp [slotsIn, objsIn, sget, keepS, AObj.inB, AV.inB, AV.inL, AV.inE, inE_map, inE_ints, outC_in, inE_sc, -List.map_append, -List.map_take, -List.map_map]) (h2 := by simp [slotsIn, objsIn, sget, keepS, AObj.inB, AV.inB, AV.inL, AV.inE, inE_map, inE_ints, outC_in, inE_sc, -List.map_append, -List.map_take, -List.map_map])⟩
   have ho : outC p l k = playedC p l := if_neg (by omega)
   rw [ho]
   have eO : outC p l (k + 1) = playedC p l := rfl
   have hle : (l :: r)[k].length ≤ l.length := by
        rcases List.mem_cons.1 (List.getElem_mem hk') with h | h
        · rw [h]; exact Nat.le_refl _
        · exact hl _ h
   refine wz 3 ?_
   refine sq_yes rfl rfl (less_b g2) rfl (ev_call en53.h jz (nless_pure p (l :: r)[k] l (by omega) hb) ⟨jz, jz, trivial⟩) ?_
   refine wz 1 ?_
   refine iz (fun c3 c3' => ?_) (fun c3 c3' => ?_)
   ·exfalso; simp at c3; omega
   refine wz 2 ?_
   exact ⟨⟨k + 1, by omega⟩, by simp only; omega, sb 2 ⟨jz, jz, jz, jz, jz, jz, jz, trivial⟩ (hH := (congrArg (fun c => [_, AObj.cells c]) eO.symm)) (h1 := by simp [slotsIn, objsIn, sget, keepS, AObj.inB, AV.inB, AV.inL, AV.inE, inE_map, inE_ints, outC_in, inE_sc, -List.map_append, -List.map_take, -List.map_map]) (h2 := by simp [slotsIn, objsIn, sget, keepS, AObj.inB, AV.inB, AV.inL, AV.inE, inE_map, inE_ints, outC_in, inE_sc, -List.map_append, -List.map_take, -List.map_map])⟩
  simp at c1
  have hkl : (l :: r).length = r.length + 1 := List.length_cons
  have ho : outC p l k = playedC p l := if_neg (by omega)
  rw [ho]
  refine wz 6 ?_
  exact retQ_res (vs := [.agg _, .raw _]) rfl rfl ⟨resVar_cell rfl rfl ty130.h rfl, resVar_tmp _ _ _, trivial⟩ (Less.eq (by simp))
theorem nSurest0_pure (p : Pl) (gp : GP p) (hok : PlOK p = true) (hL : (allC p).filter (sureP p) = []) : APure Tryz.prog 16 [plan p] (.tup [.sl 1 [], I 5]) := by
  refine apure_of_marks (rs := [.tmp 2, .tmp 3]) Tryz.func16 rfl rfl (Nat.le_of_ble_eq_true rfl) (by simp [AV.pureL, AV.pureB, AV.pureE, pureE_map]) (by simp [AV.pureL, AV.pureB, AV.pureE, pureE_map]) fun e0 he0 => ?_
  refine wz 4 ?_
  refine kz az (isplan_pure p (by have := gp.len; omega)) ?_
  refine wz 1 ?_
  refine iz (fun c1 c1' => ?_) (fun c1 c1' => ?_)
  ·exfalso; simp [hok] at c1
  refine wz 2 ?_
  refine kz az (nchoices0_pure p) ?_
  refine sq_nil ?_
  refine aw_block ?_
  refine aw_sub (sub_token_box 1 9 rfl) ?_
  refine aw_rangeFunc1 (xs := (allC p).map nats) (fun k => [.cells (planC p), .cells [.own 2 9 ((((allC p).take k).filter (sureP p)).map (playedC p))], .tok ((((allC p).take k).filter (sureP p)).map (playedC p)).length]) ((allC p).map nats).length none (Nat.le_refl _) (fun _ => rfl) (fun h => absurd rfl h) rfl rfl jz en91.h (nchoices_iter gp) rfl (fun _ => rfl) (fun k hk => by show objsIn 3 _ = true; simp [objsIn, AObj.inB, AV.inB, AV.inL, AV.inE, inE_map, inE_played, inE_nats, -List.map_take, -List.map_map, -List.map_append]) (fun x hx => by obtain ⟨y, _, rfl⟩ := List.mem_map.1 hx; simp [AV.pureB, AV.pureL, AV.pureE, pureE_map]) rfl rfl ?_ ?_
  ·intro l i x e0 hi hx he0
   obtain ⟨y, hy, rfl⟩ := xs_get hx
   obtain ⟨hk', he'⟩ := get_eq hy
   have cv := allC_mem gp y (List.mem_of_getElem? hy)
   have hft := ft_len (sureP p) (allC p) i
   have hal := allC_len gp
   refine nz ?_
   refine wz 6 ?_
   refine kz az (nsure_pure p y gp cv) ?_
   refine wz 0 ?_
   refine iz (fun c2 c2' => ?_) (fun c2 c2' => ?_)
   ·have eS : (((allC p).take (i + 1)).filter (sureP p)).map (playedC p) = (((allC p).take i).filter (sureP p)).map (playedC p) ++ [playedC p y] := by rw [filter_take_succ _ hk', he', if_pos c2', List.map_append]; rfl
    refine wz 2 ?_
    refine sq_ev rfl (ev_buildSlice (es := [[_, _, _, _, _, _, _, _, _]]) sf125.h rfl rfl rfl rfl) ?_
    first | refine sq_append rfl sf125.h Tryz.underlying125 rfl rfl jz (Nat.succ_pos _) (by simp; omega) (by simp; omega) ?_ | refine sq_append rfl sf125.h Tryz.underlying125 rfl rfl (less_slx _ _) (Nat.succ_pos _) (by simp; omega) (by simp; omega) ?_
    refine wz 1 ?_
    exact ⟨⟨[.cells (playedC p y)], congrArg (fun L => [AObj.cells (planC p), .cells [.own 2 9 L], .tok L.length, .cells (playedC p y)]) eS.symm⟩, rfl, by split <;> rfl⟩
   have eS : (((allC p).take (i + 1)).filter (sureP p)).map (playedC p) = (((allC p).take i).filter (sureP p)).map (playedC p) := by rw [filter_take_succ _ hk', he', if_neg (by simp [c2']), List.append_nil]
   refine wz 0 ?_
   exact ⟨⟨[.cells (playedC p y)], congrArg (fun L => [AObj.cells (planC p), .cells [.own 2 9 L], .tok L.length, .cells (playedC p y)]) eS.symm⟩, rfl, by split <;> rfl⟩
  ·rintro _ rfl
   have hall : (allC p).take ((allC p).map nats).length = allC p := by rw [List.length_map, List.take_length]
   try rw [hall]
   refine wz 1 ?_
   refine sq_ev rfl (ev_call en52.h jz (nbestN_pure) ⟨Less.trans (less_own _ _ _) (Less.eq (by simp [hL])), jz, trivial⟩) ?_
   refine wz 8 ?_
   refine iz (fun c3 c3' => ?_) (fun c3 c3' => ?_)
   ·refine wz 2 ?_
    exact retQM_pure (v := .tup [.raw _, .raw _]) rfl rfl (less_tup ⟨less_nil 1, jz, trivial⟩)
   exact absurd c3 (by decide)
theorem nSurest1_pure (p : Pl) (l : List Nat) (r : List (List Nat)) (gp : GP p) (hok : PlOK p = true) (hL : sureL p = l :: r) : APure Tryz.prog 16 [plan p] (.tup [nats l, I 0]) := by
  refine apure_of_marks (rs := [.tmp 2, .tmp 3]) Tryz.func16 rfl rfl (Nat.le_of_ble_eq_true rfl) (by simp [AV.pureL, AV.pureB, AV.pureE, pureE_map]) (by simp [AV.pureL, AV.pureB, AV.pureE, pureE_map]) fun e0 he0 => ?_
  refine wz 4 ?_
  refine kz az (isplan_pure p (by have := gp.len; omega)) ?_
  refine wz 1 ?_
  refine iz (fun c1 c1' => ?_) (fun c1 c1' => ?_)
  ·exfalso; simp [hok] at c1
  refine wz 2 ?_
  refine kz az (nchoices0_pure p) ?_
  refine sq_nil ?_
  refine aw_block ?_
  refine aw_sub (sub_token_box 1 9 rfl) ?_
  refine aw_rangeFunc1 (xs := (allC p).map nats) (fun k => [.cells (planC p), .cells [.own 2 9 ((((allC p).take k).filter (sureP p)).map (playedC p))], .tok ((((allC p).take k).filter (sureP p)).map (playedC p)).length]) ((allC p).map nats).length none (Nat.le_refl _) (fun _ => rfl) (fun h => absurd rfl h) rfl rfl jz en91.h (nchoices_iter gp) rfl (fun _ => rfl) (fun k hk => by show objsIn 3 _ = true; simp [objsIn, AObj.inB, AV.inB, AV.inL, AV.inE, inE_map, inE_played, inE_nats, -List.map_take, -List.map_map, -List.map_append]) (fun x hx => by obtain ⟨y, _, rfl⟩ := List.mem_map.1 hx; simp [AV.pureB, AV.pureL, AV.pureE, pureE_map]) rfl rfl ?_ ?_
  ·intro l i x e0 hi hx he0
   obtain ⟨y, hy, rfl⟩ := xs_get hx
   obtain ⟨hk', he'⟩ := get_eq hy
   have cv := allC_mem gp y (List.mem_of_getElem? hy)
   have hft := ft_len (sureP p) (allC p) i
   have hal := allC_len gp
   refine nz ?_
   refine wz 6 ?_
   refine kz az (nsure_pure p y gp cv) ?_
   refine wz 0 ?_
   refine iz (fun c2 c2' => ?_) (fun c2 c2' => ?_)
   ·have eS : (((allC p).take (i + 1)).filter (sureP p)).map (playedC p) = (((allC p).take i).filter (sureP p)).map (playedC p) ++ [playedC p y] := by rw [filter_take_succ _ hk', he', if_pos c2', List.map_append]; rfl
    refine wz 2 ?_
    refine sq_ev rfl (ev_buildSlice (es := [[_, _, _, _, _, _, _, _, _]]) sf125.h rfl rfl rfl rfl) ?_
    first | refine sq_append rfl sf125.h Tryz.underlying125 rfl rfl jz (Nat.succ_pos _) (by simp; omega) (by simp; omega) ?_ | refine sq_append rfl sf125.h Tryz.underlying125 rfl rfl (less_slx _ _) (Nat.succ_pos _) (by simp; omega) (by simp; omega) ?_
    refine wz 1 ?_
    exact ⟨⟨[.cells (playedC p y)], congrArg (fun L => [AObj.cells (planC p), .cells [.own 2 9 L], .tok L.length, .cells (playedC p y)]) eS.symm⟩, rfl, by split <;> rfl⟩
   have eS : (((allC p).take (i + 1)).filter (sureP p)).map (playedC p) = (((allC p).take i).filter (sureP p)).map (playedC p) := by rw [filter_take_succ _ hk', he', if_neg (by simp [c2']), List.append_nil]
   refine wz 0 ?_
   exact ⟨⟨[.cells (playedC p y)], congrArg (fun L => [AObj.cells (planC p), .cells [.own 2 9 L], .tok L.length, .cells (playedC p y)]) eS.symm⟩, rfl, by split <;> rfl⟩
  ·rintro _ rfl
   have hall : (allC p).take ((allC p).map nats).length = allC p := by rw [List.length_map, List.take_length]
   try rw [hall]
   refine wz 1 ?_
   refine sq_ev rfl (ev_call en52.h jz (nbest_pure p l r (sureL_len hL) (by have := (allC_mem gp l (List.mem_filter.1 (show l ∈ sureL p by rw [hL]; simp)).1).len; omega) (by have h := congrArg List.length hL; have := List.length_filter_le (sureP p) (allC p); have := allC_len gp; unfold sureL at h; rw [List.length_cons] at h; omega)) ⟨Less.trans (less_own _ _ _) (Less.eq (by rw [show (allC p).filter (sureP p) = l :: r from hL])), jz, trivial⟩) ?_
   refine wz 8 ?_
   refine iz (fun c3 c3' => ?_) (fun c3 c3' => ?_)
   ·exact absurd c3 (by decide)
   refine wz 4 ?_
   exact retQM_pure (v := .tup [.sl _ _, .raw _]) rfl rfl jz
theorem nSurestX_pure (p : Pl) (hp : p.scenes.length ≤ 1000000) (hok : PlOK p = false) : APure Tryz.prog 16 [plan p] (.tup [.sl 1 [], I 2]) := by
  refine ap Tryz.func16 (fun e0 he0 => ?_) (hr := by simp [AV.pureL, AV.pureB, AV.pureE, pureE_map])
  refine wz 4 ?_
  refine kz az (isplan_pure p hp) ?_
  refine wz 1 ?_
  refine iz (fun c1 c1' => ?_) (fun c1 c1' => ?_)
  ·refine wz 2 ?_
   exact retQ_pure (v := .tup [.raw _, .raw _]) rfl rfl (less_tup ⟨less_nil 1, jz, trivial⟩)
  exfalso; simp [hok] at c1
theorem nSurest_pure (p : Pl) (hp : p.scenes.length ≤ 1000000) : APure Tryz.prog 16 [plan p] (surestAV p) := by
  unfold surestAV
  cases hok : PlOK p with
  | false => rw [if_neg (by simp)]; exact nSurestX_pure p hp hok
  | true =>
    rw [if_pos rfl]
    obtain ⟨gp, _⟩ := gp_of_ok hok
    have hh := sureL_head p
    cases hL : sureL p with
    | nil => rw [hL] at hh; rw [← hh]; exact nSurest0_pure p gp hok hL
    | cons l r => rw [hL] at hh; rw [← hh]; exact nSurest1_pure p l r gp hok hL
end Go.Proofs.YtnbjaepkbabkhaaGreat
namespace Go.Proofs.YtnbjaepkbabkhaaGreat
open Go Go.Ab Br Hd
open Ni hiding fw bw lo hi can soonB
def verL (s : Sto) (n : Evg) : List Int := if bothOK s n = true then (Br.plays s).map (vdc s n) else []
theorem verdicts_pure (s : Sto) (n : Evg) (hs : s.scs.length ≤ 1000000) (hr : s.rules.length ≤ 1000000) : APure Tryz.prog 17 [stoA s, evgA n] (.tup [ints (verL s n), I (if bothOK s n = true then 0 else 2)]) := by
  refine ap Tryz.func17 (fun e0 he0 => ?_)
  refine wz 5 ?_
  refine kz az (story_pure s hs hr) ?_
  refine wz 2 ?_
  refine sz 12 (fun g1_3 g1_3' => ?_) (fun g1_3 g1_3' => ?_)
  ·have hno : ¬ bothOK s n = true := by unfold bothOK; simp_all
   refine wz 7 ?_
   exact retQ_pure (v := .tup [.raw _, .raw _]) rfl rfl (less_tup ⟨(less_nil 1).trans (Less.eq (by unfold verL; rw [if_neg hno]; rfl)), Less.eq (by rw [if_neg hno]), trivial⟩)
  have hok : stoOK s = true := by simpa using g1_3
  refine wz 1 ?_
  refine ky az (isev_pure n) ?_
  refine wz 2 ?_
  refine iz (fun c_16 c_16' => ?_) (fun c_16 c_16' => ?_)
  ·have hno : ¬ bothOK s n = true := by unfold bothOK; simp_all
   refine wz 2 ?_
   exact retQ_pure (v := .tup [.raw _, .raw _]) rfl rfl (less_tup ⟨(less_nil 1).trans (Less.eq (by unfold verL; rw [if_neg hno]; rfl)), Less.eq (by rw [if_neg hno]), trivial⟩)
  have hev : evgOK n = true := by simp_all
  have hbo : bothOK s n = true := by unfold bothOK; rw [hok, hev]; rfl
  have h40 := plays_40 hok
  refine wz 2 ?_
  refine kz az (tell_pure (sto_B hok).1) ?_
  refine kz az (plays_pure (sto_B hok).1 (sto_B hok).2.2 (sto_B hok).2.1) ?_
  refine vz 2 ?_
  refine sq_nil ?_
  refine aw_block ?_
  refine aw_sub (sub_token 6 1 jz) ?_
  refine nz ?_
  refine aw_loopk (ι := { k : Nat // k ≤ (Br.plays s).length }) [2, 3, 19, 20] (fun g => [(21, I (g.1 : Nat)), (6, .own 2 1 (((((Br.plays s).take g.1).map (vdc s n)).map fun x => [I x])))]) (fun H g => [.cells (stoC s), .cells (evgC n), .tok (((((Br.plays s).take g.1).map (vdc s n)).map fun x => [I x])).length]) (fun g => (Br.plays s).length - g.1) (⟨0, Nat.zero_le _⟩) ⟨jz, jz, jz, jz, jz, jz, trivial⟩ rfl ?_
  rintro ⟨k, hk⟩
  refine nz ?_
  refine wz 1 ?_
  refine iz (fun c_22 c_22' => ?_) (fun c_22 c_22' => ?_)
  ·have hkL : k < (Br.plays s).length := by omega
   have hpb := play_B hok (List.getElem_mem hkL)
   have eS : ((((Br.plays s).take (k + 1)).map (vdc s n)).map fun x => [I x]) = ((((Br.plays s).take k).map (vdc s n)).map fun x => [I x]) ++ [[I (vdc s n (Br.plays s)[k])]] := by rw [List.take_succ_eq_append_getElem hkL, List.map_append, List.map_append]; rfl
   refine wz 8 ?_
   refine kz az (verdict_pure s n (Br.plays s)[k] hs hpb.1 hpb.2) ?_
   refine sq_ev rfl (ev_buildSlice (es := [[_]]) sf51.h rfl rfl rfl rfl) ?_
   first | refine sq_append rfl sf51.h Tryz.underlying51 rfl rfl jz (Nat.succ_pos _) (by simp; omega) (by simp; omega) ?_ | refine sq_append rfl sf51.h Tryz.underlying51 rfl rfl (less_slx _ _) (Nat.succ_pos _) (by simp; omega) (by simp; omega) ?_
   refine wz 3 ?_
   exact ⟨⟨k + 1, by omega⟩, by simp only; omega, sb 3 ⟨jz, Less.eq (b := .own 2 1 (((((Br.plays s).take (k + 1)).map (vdc s n)).map fun x => [I x]))) (by rw [eS] <;> rfl), jz, jz, jz, jz, trivial⟩ (hH := (congrArg (fun m => [AObj.cells (stoC s), .cells (evgC n), .tok m]) (congrArg List.length eS.symm))) (h1 := (by simp [slotsIn, keepS, sget, AV.inB, AV.inL, inE_ints, -List.map_take, -List.map_map])) (h2 := (by simp [objsIn, AObj.inB, AV.inB, AV.inL]))⟩
  obtain rfl : k = (Br.plays s).length := by omega
  refine wz 3 ?_
  exact retQ_pure (v := .tup [.own _ _ _, .raw _]) rfl rfl (less_tup ⟨(less_own _ _ _).trans (Less.eq (by unfold verL; rw [if_pos hbo, List.take_length])), Less.eq (by rw [if_pos hbo]), trivial⟩)
end Go.Proofs.YtnbjaepkbabkhaaGreat
namespace Go.Proofs.YtnbjaepkbabkhaaGreat
open Go Go.Ab Br Hd
open Ni hiding fw bw lo hi can soonB
instance en11 : EnT Tryz.prog 11 := ⟨Ent.of Tryz.func11 (by kernel_rfl) rfl⟩
instance en12 : EnT Tryz.prog 12 := ⟨Ent.of Tryz.func12 (by kernel_rfl) rfl⟩
instance en13 : EnT Tryz.prog 13 := ⟨Ent.of Tryz.func13 (by kernel_rfl) rfl⟩
instance en14 : EnT Tryz.prog 14 := ⟨Ent.of Tryz.func14 (by kernel_rfl) rfl⟩
instance en15 : EnT Tryz.prog 15 := ⟨Ent.of Tryz.func15 (by kernel_rfl) rfl⟩
instance en48 : EnT Tryz.prog 48 := ⟨Ent.of Tryz.func48 (by kernel_rfl) rfl⟩
instance en7 : EnT Tryz.prog 7 := ⟨Ent.of Tryz.func7 (by kernel_rfl) rfl⟩
def lisOK (s : Sto) (l : List Int) (b : Int) : Bool := decide (l.length ≤ 10) && l.all fun x => inn x b (s.scs.length - 1)
theorem pl_rows5 {a b z : AObj} {c : List AV} {L L' : List (List AV)} (h : L = L') : [a, b, z, AObj.cells (c ++ [.own 4 5 L]), .tok L.length] = [a, b, z, .cells (c ++ [.own 4 5 L']), .tok L'.length] := by rw [h]
theorem rev_pure (n : Evg) : APure Tryz.prog 7 [evgA n] (B (evgOK n)) := by
  refine ap Tryz.func7 (fun e0 he0 => ?_)
  refine wz 9 ?_
  refine sq_ev rfl (ev_buildSlice (es := [[_, _, _, _, _]]) sf43.h rfl rfl rfl rfl) ?_
  refine wz 1 ?_
  refine sq_ev rfl (ev_call en14.h jz (plan_pure (evPl n [oneSc]) (by simp [evPl])) ⟨less_agg ⟨jz, jz, jz, jz, jz, jz, jz, less_slx 5 [sc oneSc], trivial⟩, trivial⟩) ?_
  refine wz 1 ?_
  exact rz rfl jz
theorem idx_pure (L : List (List Int)) (x : List Int) (hL : L.length ≤ 1000000) (hl : ∀ l ∈ L, l.length ≤ 1000000) (hx : x.length ≤ 1000000) : APure Tryz.prog 11 [hds L, ints x] (I (ixQ (fun l => decide (l = x)) L)) := by
  refine ap Tryz.func11 (fun e0 he0 => ?_)
  refine wz 2 ?_
  refine aw_loopk (ι := { k : Nat // k ≤ L.length ∧ ∀ i, (hi : i < L.length) → i < k → decide (L[i] = x) = false }) [0, 1] (fun g => [(5, I (g.1 : Nat))]) (fun H g => H) (fun g => L.length - g.1) (⟨0, Nat.zero_le _, by omega⟩) ⟨jz, jz, jz, trivial⟩ rfl ?_
  rintro ⟨k, hk, hok⟩
  refine nz ?_
  refine wz 4 ?_
  refine iz (fun c_9 c_9' => ?_) (fun c_9 c_9' => ?_)
  ·have hkL : k < L.length := by omega
   refine wz 5 ?_
   refine kz az (same_pure _ _ (by have := hl _ (List.getElem_mem hkL); omega) (by omega)) ?_
   refine wz 0 ?_
   refine iz (fun c_17 c_17' => ?_) (fun c_17 c_17' => ?_)
   ·have hin : decide (L[k] = x) = true := by simpa using c_17
    refine wz 2 ?_
    exact rz rfl (Less.eq (by rw [ixQ_at (q := fun l => decide (l = x)) hkL hin hok]))
   have hin : decide (L[k] = x) = false := by simpa using c_17
   refine wz 3 ?_
   exact ⟨⟨k + 1, by omega, fun i hi q => (by by_cases e : i = k; (subst e; exact hin); exact hok i hi (by omega))⟩, by simp only; omega, Sub.slots ⟨jz, jz, jz, trivial⟩⟩
  obtain rfl : k = L.length := by omega
  refine wz 1 ?_
  exact rz rfl (Less.eq (by rw [ixQ_no (q := fun l => decide (l = x)) fun i hi => hok i hi hi]))
theorem rlist_pure (s : Sto) (l : List Int) (b : Int) (hs : s.scs.length ≤ 1000000) (hl : l.length ≤ 1000000) : APure Tryz.prog 12 [stoA s, ints l, I b] (B (lisOK s l b)) := by
  refine ap Tryz.func12 (fun e0 he0 => ?_)
  refine wz 3 ?_
  refine aw_loopk (ι := { k : Nat // k ≤ l.length ∧ ∀ i, (hi : i < l.length) → i < k → inn l[i] b (s.scs.length - 1) = true }) [1, 2, 3] (fun g => [(7, I (g.1 : Nat))]) (fun H g => H) (fun g => l.length - g.1) (⟨0, Nat.zero_le _, by omega⟩) ⟨jz, jz, jz, jz, trivial⟩ rfl ?_
  rintro ⟨k, hk, hok⟩
  refine nz ?_
  refine wz 4 ?_
  refine iz (fun c_11 c_11' => ?_) (fun c_11 c_11' => ?_)
  ·have hkL : k < l.length := by omega
   refine wz 0 ?_
   refine aw_draw 11 mo (by kernel_rfl) ?_
   refine dz 9 ?_
   refine dkz az (in9_pure _ _ _) ?_
   refine dz 1 ?_
   refine wz 0 ?_
   refine iz (fun c_24 c_24' => ?_) (fun c_24 c_24' => ?_)
   ·have hno : (l.all fun x => inn x b (s.scs.length - 1)) = false := List.all_eq_false.2 ⟨l[k], List.getElem_mem hkL, by simpa using c_24⟩
    refine wz 1 ?_
    exact rz rfl (Less.eq (congrArg B (by unfold lisOK; rw [hno]; simp)))
   have hin : inn l[k] b (s.scs.length - 1) = true := by simpa using c_24
   refine wz 3 ?_
   exact ⟨⟨k + 1, by omega, fun i hi q => (by by_cases e : i = k; (subst e; exact hin); exact hok i hi (by omega))⟩, by simp only; omega, Sub.slots ⟨jz, jz, jz, jz, trivial⟩⟩
  obtain rfl : k = l.length := by omega
  have hall : (l.all fun x => inn x b (s.scs.length - 1)) = true := List.all_eq_true.2 fun n hn => by obtain ⟨i, hi, rfl⟩ := List.getElem_of_mem hn; exact hok i hi hi
  refine wz 4 ?_
  exact rz rfl (Less.eq (congrArg B (by unfold lisOK; rw [hall, Bool.and_true, decide_eq_decide]; omega)))
theorem planned_pure (s : Sto) (n : Evg) (l : List Int) (hl : l.length ≤ 10) (hm : ∀ x ∈ l, 0 ≤ x ∧ x < s.scs.length) : APure Tryz.prog 13 [stoA s, evgA n, ints l] (plan (plnOf s n l)) := by
  refine ap (rs := [.cell 6 45]) Tryz.func13 (fun e0 he0 => ?_)
  refine vz 13 ?_
  refine sq_nil ?_
  refine aw_block ?_
  refine aw_sub (sub_token_cell 3 5 [I n.beg, I n.s0l, I n.s0h, I n.s1l, I n.s1h, I n.dl, I n.dh] [] rfl) ?_
  refine nz ?_
  refine aw_loopk (ι := { k : Nat // k ≤ l.length }) [2, 3, 6, 7] (fun g => [(8, I (g.1 : Nat))]) (fun H g => [.cells (stoC s), .cells (evgC n), .cells [I 0, I 0, I 0, I 0, I 0, I 0, I 0, .raw (.slice none 0 0)], .cells ([I n.beg, I n.s0l, I n.s0h, I n.s1l, I n.s1h, I n.dl, I n.dh] ++ [.own 4 5 ((scsOf s (l.take g.1)).map sc)]), .tok ((scsOf s (l.take g.1)).map sc).length]) (fun g => l.length - g.1) (⟨0, Nat.zero_le _⟩) ⟨jz, jz, jz, jz, jz, trivial⟩ rfl ?_
  rintro ⟨k, hk⟩
  refine nz ?_
  have hsl : (scsOf s (l.take k)).length ≤ 10 := by unfold scsOf; rw [List.length_map, List.length_take]; omega
  refine wz 4 ?_
  refine iz (fun c_20 c_20' => ?_) (fun c_20 c_20' => ?_)
  ·have hkL : k < l.length := by omega
   have hmk := hm _ (List.getElem_mem hkL)
   have eS := scs_at hkL hmk
   refine wz 0 ?_
   refine aw_drawc [8] [9] _ mo (by kernel_rfl) (HSub.refl _) ?_
   first | refine dc_ev rfl (ev_fieldAddr fo25_1.h jz) ?_ | refine dc_ev rfl (ev_fieldAddr_i fo25_1.h jz) ?_
   first | refine dc_ev rfl (ev_load jz rfl ty22.h rfl) ?_ | refine dc_ev rfl (ev_load_i jz ty22.h rfl) ?_
   first | refine dc_ev rfl (ev_mv (v := .sl _ _) jz) ?_ | refine dc_ev rfl (ev_mv (v := .own _ _ _) jz) ?_ | refine dc_ev rfl (ev_mv (v := .raw _) jz) ?_ | refine dc_ev rfl (ev_mv (v := .slx _ _) jz) ?_ | refine dc_ev rfl (ev_mv (v := .msl _ _ _ _) jz) ?_
   refine dc_ev rfl (ev_mv (v := .raw _) jz) ?_
   first | refine dc_ev rfl (ev_index_map sl31.h jz jz rfl (by omega)) ?_ | refine dc_ev rfl (ev_index sl31.h jz jz rfl rfl) ?_
   first | refine dc_ev rfl (ev_load jz rfl ty3.h rfl) ?_ | refine dc_ev rfl (ev_load_i jz ty3.h rfl) ?_
   refine dc_ev rfl (ev_index_map (k := l[k].toNat) (xs := s.scs) sl22.h jz jz (by omega) (by omega)) ?_
   first | refine dc_ev rfl (ev_load_agg jz rfl ty101.h rfl) ?_ | refine dc_ev rfl (ev_load_agg_i jz ty101.h (by exact Nat.le_of_ble_eq_true rfl)) ?_
   refine dc_alloc rfl rfl z101.h ?_
   refine dc_eff rfl rfl (eff_store rfl jz jz rfl rfl ty101.h rfl rfl) (by apply HL.sub; repeat' (first | exact HL.nil _ | apply HL.same | apply HL.tok)) ?_
   refine dc_nil ?_
   refine wz 11 ?_
   refine sq_ev rfl (ev_buildSlice (es := [[_, _, _, _, _]]) sf43.h rfl rfl rfl rfl) ?_
   first | refine sq_append rfl sf43.h Tryz.underlying43 rfl rfl jz (Nat.succ_pos _) (by simp; omega) (by simp; omega) ?_ | refine sq_append rfl sf43.h Tryz.underlying43 rfl rfl (less_slx _ _) (Nat.succ_pos _) (by simp; omega) (by simp; omega) ?_
   refine wz 5 ?_
   exact ⟨⟨k + 1, by omega⟩, by simp only; omega, sb 5 ⟨jz, jz, jz, jz, jz, trivial⟩ (hH := (pl_rows5 (c := [I n.beg, I n.s0l, I n.s0h, I n.s1l, I n.s1h, I n.dl, I n.dh]) eS.symm)) (h2 := (by simp [objsIn, AObj.inB, AV.inB, AV.inL, inE_scs]))⟩
  obtain rfl : k = l.length := by omega
  refine wz 2 ?_
  exact (show retQ Tryz.prog [.cell 6 45] _ .ret _ from retQ_res (vs := [.agg _]) rfl rfl ⟨resVar_cell rfl rfl ty45.h rfl, trivial⟩ (less_agg ⟨jz, jz, jz, jz, jz, jz, jz, (less_own _ _ _).trans (Less.eq (by rw [List.take_length] <;> rfl)), trivial⟩))
theorem rwithin_pure (x a b : Int) : APure Tryz.prog 48 [I x, .agg [I a, I b]] (B (inn x a b)) := by
  refine ap Tryz.func48 (fun e0 he0 => ?_)
  refine wz 7 ?_
  refine kz az (in3_pure _ _ _) ?_
  refine wz 1 ?_
  exact rz rfl jz
theorem rhours_yes (p : Ni.Pl) (a b c : Int) : APure Tryz.prog 15 [plan p, ints [a, b, c]] (B (inn a p.s0l p.s0h && (inn b p.s1l p.s1h && inn c p.dl p.dh))) := by
  refine ap Tryz.func15 (fun e0 he0 => ?_)
  refine wz 2 ?_
  refine aw_draw 30 mo (by kernel_rfl) ?_
  refine dz 10 ?_
  refine dky az (rwithin_pure _ _ _) ?_
  refine dz 2 ?_
  refine dsz 17 (fun g1_12 g1_12' => ?_) (fun g1_12 g1_12' => ?_)
  ·refine dz 6 ?_
   refine dky az (rwithin_pure _ _ _) ?_
   refine dz 2 ?_
   refine dsz 26 (fun g1_21 g1_21' => ?_) (fun g1_21 g1_21' => ?_)
   ·refine dz 5 ?_
    refine dky az (rwithin_pure _ _ _) ?_
    refine dz 2 ?_
    refine wz 0 ?_
    exact rz rfl (Less.eq (congrArg B (by simp_all)))
   refine dz 8 ?_
   refine wz 0 ?_
   exact rz rfl (Less.eq (congrArg B (by simp_all)))
  refine dz 17 ?_
  refine wz 0 ?_
  exact rz rfl (Less.eq (congrArg B (by simp_all)))
end Go.Proofs.YtnbjaepkbabkhaaGreat
namespace Go.Proofs.YtnbjaepkbabkhaaGreat
open Go Go.Ab Br Hd
open Ni hiding fw bw lo hi can soonB
instance en16 : EnT Tryz.prog 16 := ⟨Ent.of Tryz.func16 (by kernel_rfl) rfl⟩
instance en18 : EnT Tryz.prog 18 := ⟨Ent.of Tryz.func18 (by kernel_rfl) rfl⟩
instance sl51 : SlE Tryz.prog 51 55 1 := ⟨by kernel_rfl⟩
instance un4 : UnD Tryz.prog 4 .bool := ⟨by kernel_rfl⟩
def mOf (n : Evg) (a b c : Int) : Evg := ⟨n.beg, a, a, b, b, c, c⟩
def inW (n : Evg) (a b c : Int) : Bool := inn a n.s0l n.s0h && (inn b n.s1l n.s1h && inn c n.dl n.dh)
theorem inW_iff {n : Evg} {a b c : Int} : inW n a b c = true ↔ (n.s0l ≤ a ∧ a ≤ n.s0h) ∧ (n.s1l ≤ b ∧ b ≤ n.s1h) ∧ (n.dl ≤ c ∧ c ≤ n.dh) := by simp [inW, inn]
theorem wnd_pt {lo hi a : Int} (h : Ni.wnd lo hi = true) (h1 : lo ≤ a) (h2 : a ≤ hi) : Ni.wnd a a = true := by
  simp only [Ni.wnd, inn, Bool.and_eq_true, decide_eq_true_eq] at h ⊢
  omega
theorem plok_pt {n : Evg} {l : List Ni.Sc} {a b c : Int} (h : Ni.PlOK (evPl n l) = true) (hr : inW n a b c = true) : Ni.PlOK (evPl (mOf n a b c) l) = true := by
  obtain ⟨⟨w1, w2⟩, ⟨w3, w4⟩, w5, w6⟩ := inW_iff.1 hr
  unfold Ni.PlOK at h ⊢
  simp only [Bool.and_eq_true] at h ⊢
  obtain ⟨⟨⟨⟨⟨h1, h2⟩, h3⟩, h4⟩, h5⟩, h6⟩ := h
  exact ⟨⟨⟨⟨⟨h1, wnd_pt h2 w1 w2⟩, wnd_pt h3 w3 w4⟩, wnd_pt h4 w5 w6⟩, h5⟩, h6⟩
theorem sure_pt {n : Evg} {l : List Ni.Sc} {x : List Nat} {a b c : Int} (hs : sureP (evPl n l) x = true) (hr : inW n a b c = true) : canP (evPl (mOf n a b c) l) x = true := by
  obtain ⟨⟨w1, w2⟩, ⟨w3, w4⟩, w5, w6⟩ := inW_iff.1 hr
  unfold sureP at hs
  rw [Ni.okAll_iff] at hs
  have g0 := hs 0 (by omega)
  simp only [suBad, Bool.or_eq_false_iff, decide_eq_false_iff_not] at g0
  have g0 : ¬ (n.s0l - n.beg < Ni.pl (evPl n l) x 0) ∧ ¬ (Ni.ph (evPl n l) x 0 < n.s0h - n.beg) := g0
  have g1 := hs 1 (by omega)
  simp only [suBad, Bool.or_eq_false_iff, decide_eq_false_iff_not] at g1
  have g1 : ¬ (n.s1l - n.s0h < Ni.pl (evPl n l) x 1) ∧ ¬ (Ni.ph (evPl n l) x 1 < n.s1h - n.s0l) := g1
  have g2 := hs 2 (by omega)
  simp only [suBad, Bool.or_eq_false_iff, decide_eq_false_iff_not] at g2
  have g2 : ¬ (n.dl - n.s1h < Ni.pl (evPl n l) x 2) ∧ ¬ (Ni.ph (evPl n l) x 2 < n.dh - n.s1l) := g2
  have e0 : Ni.pl (evPl (mOf n a b c) l) x 0 = Ni.pl (evPl n l) x 0 := rfl
  have e1 : Ni.pl (evPl (mOf n a b c) l) x 1 = Ni.pl (evPl n l) x 1 := rfl
  have e2 : Ni.pl (evPl (mOf n a b c) l) x 2 = Ni.pl (evPl n l) x 2 := rfl
  have f0 : Ni.ph (evPl (mOf n a b c) l) x 0 = Ni.ph (evPl n l) x 0 := rfl
  have f1 : Ni.ph (evPl (mOf n a b c) l) x 1 = Ni.ph (evPl n l) x 1 := rfl
  have f2 : Ni.ph (evPl (mOf n a b c) l) x 2 = Ni.ph (evPl n l) x 2 := rfl
  have q0 : Ni.fw (evPl (mOf n a b c) l) x 0 = (n.beg, n.beg) := rfl
  have q1 : Ni.fw (evPl (mOf n a b c) l) x 1 = (max (n.beg + Ni.pl (evPl (mOf n a b c) l) x 0) a, min (n.beg + Ni.ph (evPl (mOf n a b c) l) x 0) a) := rfl
  have q2 : Ni.fw (evPl (mOf n a b c) l) x 2 = (max ((Ni.fw (evPl (mOf n a b c) l) x 1).1 + Ni.pl (evPl (mOf n a b c) l) x 1) b, min ((Ni.fw (evPl (mOf n a b c) l) x 1).2 + Ni.ph (evPl (mOf n a b c) l) x 1) b) := rfl
  have h1 : Ni.flt (evPl (mOf n a b c) l) x 0 = 0 := by
    show (if (Ni.fw (evPl (mOf n a b c) l) x 0).2 + Ni.ph (evPl (mOf n a b c) l) x 0 < a then (1 : Int) else if a < (Ni.fw (evPl (mOf n a b c) l) x 0).1 + Ni.pl (evPl (mOf n a b c) l) x 0 then 2 else 0) = 0
    rw [q0, e0, f0, if_neg (by simp only; omega), if_neg (by simp only; omega)]
  have h2 : Ni.flt (evPl (mOf n a b c) l) x 1 = 0 := by
    show (if (Ni.fw (evPl (mOf n a b c) l) x 1).2 + Ni.ph (evPl (mOf n a b c) l) x 1 < b then (1 : Int) else if b < (Ni.fw (evPl (mOf n a b c) l) x 1).1 + Ni.pl (evPl (mOf n a b c) l) x 1 then 2 else 0) = 0
    rw [q1, e0, f0, e1, f1, if_neg (by simp only; omega), if_neg (by simp only; omega)]
  have h3 : Ni.flt (evPl (mOf n a b c) l) x 2 = 0 := by
    show (if (Ni.fw (evPl (mOf n a b c) l) x 2).2 + Ni.ph (evPl (mOf n a b c) l) x 2 < c then (1 : Int) else if c < (Ni.fw (evPl (mOf n a b c) l) x 2).1 + Ni.pl (evPl (mOf n a b c) l) x 2 then 2 else 0) = 0
    rw [q2, q1, e0, f0, e1, f1, e2, f2, if_neg (by simp only; omega), if_neg (by simp only; omega)]
  unfold canP
  rw [Ni.ffail_none fun j hj => by
    rcases j with _ | _ | _ | j
    · exact h1
    · exact h2
    · exact h3
    · omega]
  rfl
theorem all_pt (n : Evg) (l : List Ni.Sc) (a b c : Int) : Ni.allC (evPl (mOf n a b c) l) = Ni.allC (evPl n l) := rfl
theorem sure_ch {n : Evg} {l : List Ni.Sc} {x : List Nat} {a b c : Int} (hs : surest (evPl n l) = some x) (hk : Ni.PlOK (evPl n l) = true) (hr : inW n a b c = true) : (Ni.choicesC (evPl (mOf n a b c) l)).isEmpty = false := by
  obtain ⟨gp, wp⟩ := Ni.gp_of_ok (plok_pt hk hr)
  rw [← playl_choices gp wp]
  have h1 := List.mem_of_find?_eq_some hs
  have h2 := sure_pt (List.find?_some hs) hr
  have : x ∈ playl (evPl (mOf n a b c) l) := List.mem_filter.2 ⟨by rw [all_pt]; exact h1, h2⟩
  cases hq : playl (evPl (mOf n a b c) l) with
  | nil => rw [hq] at this; cases this
  | cons y L => rfl
theorem fit_cases {s : Sto} {n : Evg} (hok : stoOK s = true) (hev : evgOK n = true) : (fitL s n = [] ∧ eveE s n = 5) ∨ ∃ l L, fitL s n = l :: L ∧ eveE s n = 0 := by
  have hb : bothOK s n = true := by unfold bothOK; rw [hok, hev]; rfl
  cases hf : fitL s n with
  | nil =>
    refine .inl ⟨rfl, ?_⟩
    rw [(eve_nil hf).2.2]
    unfold fitL at hf; rw [if_pos hb] at hf
    unfold fitE; rw [if_pos hb, hf]; rfl
  | cons l L =>
    refine .inr ⟨l, L, rfl, ?_⟩
    rw [(eve_cons hf).2.2]
    have hm := fitL_mem (show l ∈ fitL s n by rw [hf]; exact List.mem_cons_self)
    have hp : possP (plnOf s n l) = true := by
      have h := hm.2.2.2
      unfold vdc at h
      split at h
      · split at h
        · split at h
          · assumption
          · exact absurd h (by decide)
        · exact absurd h (by decide)
      · exact absurd h (by decide)
    have h := progE_poss (plnOf s n l)
    rw [hp] at h; exact of_decide_eq_true h
theorem vdc4 {s : Sto} {n : Evg} {l : List Int} : vdc s n l = 4 ↔ fmlOK s l = true ∧ Ni.PlOK (plnOf s n l) = true ∧ possP (plnOf s n l) = true := by
  unfold vdc
  constructor
  · intro h
    split at h
    · rename_i h1
      split at h
      · rename_i h2
        split at h
        · rename_i h3; exact ⟨h1, h2, h3⟩
        · exact absurd h (by decide)
      · exact absurd h (by decide)
    · exact absurd h (by decide)
  · rintro ⟨h1, h2, h3⟩
    rw [if_pos h1, if_pos h2, if_pos h3]
theorem vdc_pt {s : Sto} {n : Evg} {l : List Int} {a b c : Int} (h : vdc s n l = 4) (hr : inW n a b c = true) : decide (vdc s (mOf n a b c) l = 4) = !(Ni.choicesC (plnOf s (mOf n a b c) l)).isEmpty := by
  obtain ⟨h1, h2, _⟩ := vdc4.1 h
  have h3 := plok_pt h2 hr
  have h3 : Ni.PlOK (plnOf s (mOf n a b c) l) = true := h3
  rw [Bool.eq_iff_iff, decide_eq_true_eq, vdc4]
  unfold possP
  rw [h3, h1]
  simp
theorem x9 {s : Sto} (hs : s.scs.length ≤ 10) (hr : s.rules.length ≤ 12) (hok : stoOK s = true) : APure Tryz.prog 9 [stoA s] (.tup [hds (Br.plays s), I 0]) := by
  have q := xplays_pure s (by omega) (by omega)
  unfold plyL at q; rw [if_pos hok, if_pos hok] at q; exact q
theorem x10 {s : Sto} {n : Evg} {l : List Int} {e : Int} (hs : s.scs.length ≤ 10) (hr : s.rules.length ≤ 12) (hl : (fitL s n).headD [] = l) (he : eveE s n = e) : APure Tryz.prog 10 [stoA s, evgA n] (.tup [ints l, nats (eveC s n), ints (eveL s n), I e]) := by
  have q := evening_pure s n (by omega) (by omega)
  rw [hl, he] at q; exact q
theorem x17 {s : Sto} {n : Evg} (hs : s.scs.length ≤ 10) (hr : s.rules.length ≤ 12) (hok : stoOK s = true) (hev : evgOK n = true) : APure Tryz.prog 17 [stoA s, evgA n] (.tup [ints ((Br.plays s).map (vdc s n)), I 0]) := by
  have hb : bothOK s n = true := by unfold bothOK; rw [hok, hev]; rfl
  have q := verdicts_pure s n (by omega) (by omega)
  unfold verL at q; rw [if_pos hb, if_pos hb] at q; exact q
theorem x18 {p : Ni.Pl} (hl : p.scenes.length ≤ 1000000) (h : Ni.PlOK p = true) : APure Tryz.prog 18 [plan p] (.tup [natss (Ni.choicesC p), I 0]) := by
  have q := nChoices_pure p hl
  rw [if_pos h] at q; exact q
theorem x16s {p : Ni.Pl} {x : List Nat} (hl : p.scenes.length ≤ 1000000) (h : Ni.PlOK p = true) (hs : surest p = some x) : APure Tryz.prog 16 [plan p] (.tup [nats x, I 0]) := by
  have q := nSurest_pure p hl
  unfold surestAV at q; rw [if_pos h, hs] at q; exact q
theorem x16n {p : Ni.Pl} (hl : p.scenes.length ≤ 1000000) (h : Ni.PlOK p = true) (hs : surest p = none) : APure Tryz.prog 16 [plan p] (.tup [.sl 1 [], I 5]) := by
  have q := nSurest_pure p hl
  unfold surestAV at q; rw [if_pos h, hs] at q; exact q
theorem x11 {s : Sto} (hok : stoOK s = true) {k : Nat} (hk : k < (Br.plays s).length) : APure Tryz.prog 11 [hds (Br.plays s), ints (Br.plays s)[k]] (I (k : Int)) := by
  have q := idx_pure (Br.plays s) (Br.plays s)[k] (by have := plays_40 hok; omega) (fun l hl => by have := (play_B hok hl).1; omega) (by have := (play_B hok (List.getElem_mem hk)).1; omega)
  rwa [ixQ_at (q := fun l => decide (l = (Br.plays s)[k])) hk (by simp) (fun i hi hik => decide_eq_false fun e => by
    have hn := plays_nodup s
    exact List.pairwise_iff_getElem.1 hn i k hi hk hik e)] at q
theorem x12 {s : Sto} (hs : s.scs.length ≤ 10) (hok : stoOK s = true) {l : List Int} (hl : l ∈ Br.plays s) : APure Tryz.prog 12 [stoA s, ints l, I 0] (B true) := by
  have hb := play_B hok hl
  have q := rlist_pure s l 0 (by omega) (by omega)
  have e : lisOK s l 0 = true := by
    unfold lisOK
    rw [decide_eq_true hb.1, Bool.true_and, List.all_eq_true]
    intro x hx
    have := hb.2 x hx
    unfold inn; simp; omega
  rwa [e] at q
theorem x14 {p : Ni.Pl} (hl : p.scenes.length ≤ 1000000) (h : Ni.PlOK p = true) : APure Tryz.prog 14 [plan p] (B true) := by have q := plan_pure p hl; rwa [h] at q
theorem x6 {s : Sto} (hs : s.scs.length ≤ 10) (hr : s.rules.length ≤ 12) {b : Bool} (h : stoOK s = b) : APure Tryz.prog 6 [stoA s] (B b) := by have q := story9_pure s (by omega) (by omega); rwa [h] at q
theorem x7 {n : Evg} {b : Bool} (h : evgOK n = b) : APure Tryz.prog 7 [evgA n] (B b) := by have q := rev_pure n; rwa [h] at q
theorem x15 {p : Ni.Pl} {a b c : Int} {v : Bool} (h : (inn a p.s0l p.s0h && (inn b p.s1l p.s1h && inn c p.dl p.dh)) = v) : APure Tryz.prog 15 [plan p, ints [a, b, c]] (B v) := by have q := rhours_yes p a b c; rwa [h] at q
theorem pln_len {s : Sto} {n : Evg} {l : List Int} (h : l.length ≤ 10) : (plnOf s n l).scenes.length ≤ 1000000 := by show (scsOf s l).length ≤ _; unfold scsOf; rw [List.length_map]; omega
abbrev mK (n : Evg) (a b c : Int) (i : Nat) : List AV := [I n.beg, I (if 0 < i then a else n.s0l), I (if 0 < i then a else n.s0h), I (if 1 < i then b else n.s1l), I (if 1 < i then b else n.s1h), I n.dl, I n.dh]
theorem law3_rules (s : Sto) (n : Evg) (h : List Int) (hr : 12 < s.rules.length) : APure Tryz.prog 3 [stoA s, evgA n, ints h] (B true) := by
  refine ap Tryz.func3 (fun e0 he0 => ?_)
  refine wz 6 ?_
  refine sq_ev rfl (ev_less (ev_gtr jz jz) (Less.eq (b := B true) (by simp <;> omega))) ?_
  refine wz 22 ?_
  refine kz az (known_pure) ?_
  refine wz 1 ?_
  exact rz rfl jz
theorem law3_scs (s : Sto) (n : Evg) (h : List Int) (hr : s.rules.length ≤ 12) (hs : 10 < s.scs.length) : APure Tryz.prog 3 [stoA s, evgA n, ints h] (B true) := by
  refine ap Tryz.func3 (fun e0 he0 => ?_)
  refine wz 6 ?_
  refine sq_ev rfl (ev_less (ev_gtr jz jz) (Less.eq (b := B false) (by simp <;> omega))) ?_
  refine wz 4 ?_
  refine sq_yes rfl rfl jz rfl (ev_less (ev_gtr jz jz) (Less.eq (b := B true) (by simp <;> omega))) ?_
  refine wz 17 ?_
  refine kz az (known_pure) ?_
  refine wz 1 ?_
  exact rz rfl jz
theorem law3_sto (s : Sto) (n : Evg) (h : List Int) (hr : s.rules.length ≤ 12) (hs : s.scs.length ≤ 10) (hok : stoOK s = false) : APure Tryz.prog 3 [stoA s, evgA n, ints h] (B true) := by
  refine ap Tryz.func3 (fun e0 he0 => ?_)
  refine wz 6 ?_
  refine sq_ev rfl (ev_less (ev_gtr jz jz) (Less.eq (b := B false) (by simp <;> omega))) ?_
  refine wz 4 ?_
  refine sq_yes rfl rfl jz rfl (ev_less (ev_gtr jz jz) (Less.eq (b := B false) (by simp <;> omega))) ?_
  refine wz 3 ?_
  refine ky az (x6 hs hr hok) ?_
  refine wz 13 ?_
  refine kz az (known_pure) ?_
  refine wz 1 ?_
  exact rz rfl jz
theorem law3_evg (s : Sto) (n : Evg) (h : List Int) (hr : s.rules.length ≤ 12) (hs : s.scs.length ≤ 10) (hok : stoOK s = true) (hev : evgOK n = false) : APure Tryz.prog 3 [stoA s, evgA n, ints h] (B true) := by
  refine ap Tryz.func3 (fun e0 he0 => ?_)
  refine wz 6 ?_
  refine sq_ev rfl (ev_less (ev_gtr jz jz) (Less.eq (b := B false) (by simp <;> omega))) ?_
  refine wz 4 ?_
  refine sq_yes rfl rfl jz rfl (ev_less (ev_gtr jz jz) (Less.eq (b := B false) (by simp <;> omega))) ?_
  refine wz 3 ?_
  refine ky az (x6 hs hr hok) ?_
  refine wz 4 ?_
  refine ky az (x7 hev) ?_
  refine wz 8 ?_
  refine kz az (known_pure) ?_
  refine wz 1 ?_
  exact rz rfl jz
theorem law3_len (s : Sto) (n : Evg) (h : List Int) (hr : s.rules.length ≤ 12) (hs : s.scs.length ≤ 10) (hok : stoOK s = true) (hev : evgOK n = true) (hh : h.length ≠ 3) : APure Tryz.prog 3 [stoA s, evgA n, ints h] (B true) := by
  refine ap Tryz.func3 (fun e0 he0 => ?_)
  refine wz 6 ?_
  refine sq_ev rfl (ev_less (ev_gtr jz jz) (Less.eq (b := B false) (by simp <;> omega))) ?_
  refine wz 4 ?_
  refine sq_yes rfl rfl jz rfl (ev_less (ev_gtr jz jz) (Less.eq (b := B false) (by simp <;> omega))) ?_
  refine wz 3 ?_
  refine ky az (x6 hs hr hok) ?_
  refine wz 4 ?_
  refine ky az (x7 hev) ?_
  refine wz 5 ?_
  refine sq_yes rfl rfl jz rfl (ev_less (ev_neq jz jz) (Less.eq (b := B true) (by simp <;> omega))) ?_
  refine wz 2 ?_
  refine kz az (known_pure) ?_
  refine wz 1 ?_
  exact rz rfl jz
theorem law3_none (s : Sto) (n : Evg) (a b c : Int) (hr : s.rules.length ≤ 12) (hs : s.scs.length ≤ 10) (hok : stoOK s = true) (hev : evgOK n = true) (hf : fitL s n = []) (he : eveE s n = 5) : APure Tryz.prog 3 [stoA s, evgA n, ints [a, b, c]] (B true) := by
  refine ap Tryz.func3 (fun e0 he0 => ?_)
  refine wz 6 ?_
  refine sq_ev rfl (ev_less (ev_gtr jz jz) (Less.eq (b := B false) (by simp <;> omega))) ?_
  refine wz 4 ?_
  refine sq_yes rfl rfl jz rfl (ev_less (ev_gtr jz jz) (Less.eq (b := B false) (by simp <;> omega))) ?_
  refine wz 3 ?_
  refine ky az (x6 hs hr hok) ?_
  refine wz 4 ?_
  refine ky az (x7 hev) ?_
  refine wz 9 ?_
  refine kz az (x9 hs hr hok) ?_
  refine wz 7 ?_
  refine kz az (x10 (l := []) hs hr (by rw [hf]; rfl) he) ?_
  refine wz 22 ?_
  refine sq_yes rfl rfl jz rfl (ev_less (ev_gtr jz jz) (Less.eq (b := B false) (by have := plays_40 hok; simp <;> omega))) ?_
  refine wz 5 ?_
  refine kz az (known_pure) ?_
  refine wz 1 ?_
  exact rz rfl jz
theorem law3_out (s : Sto) (n : Evg) (a b c : Int) (hr : s.rules.length ≤ 12) (hs : s.scs.length ≤ 10) (hok : stoOK s = true) (hev : evgOK n = true) {k : Nat} (hk : k < (Br.plays s).length) (hf : (fitL s n).headD [] = (Br.plays s)[k]) (he : eveE s n = 0) (hv : vdc s n (Br.plays s)[k] = 4) (hw : inW n a b c = false) : APure Tryz.prog 3 [stoA s, evgA n, ints [a, b, c]] (B true) := by
  refine ap Tryz.func3 (fun e0 he0 => ?_)
  refine wz 6 ?_
  refine sq_ev rfl (ev_less (ev_gtr jz jz) (Less.eq (b := B false) (by simp <;> omega))) ?_
  refine wz 4 ?_
  refine sq_yes rfl rfl jz rfl (ev_less (ev_gtr jz jz) (Less.eq (b := B false) (by simp <;> omega))) ?_
  refine wz 3 ?_
  refine ky az (x6 hs hr hok) ?_
  refine wz 4 ?_
  refine ky az (x7 hev) ?_
  refine wz 9 ?_
  refine kz az (x9 hs hr hok) ?_
  refine wz 7 ?_
  refine kz az (x10 hs hr hf he) ?_
  refine wz 22 ?_
  refine sq_yes rfl rfl jz rfl (ev_less (ev_gtr jz jz) (Less.eq (b := B false) (by have := plays_40 hok; simp <;> omega))) ?_
  refine wz 7 ?_
  refine kz az (x11 hok hk) ?_
  refine wz 2 ?_
  refine sq_ev rfl (ev_less (ev_lss jz jz) (Less.eq (b := B false) (by simp <;> omega))) ?_
  refine wz 3 ?_
  refine ky az (x12 hs hok (List.getElem_mem hk)) ?_
  refine wz 6 ?_
  refine kz az (planned_pure s n (Br.plays s)[k] (play_B hok (List.getElem_mem hk)).1 (play_B hok (List.getElem_mem hk)).2) ?_
  refine wz 3 ?_
  refine kz az (x14 (pln_len (play_B hok (List.getElem_mem hk)).1) (vdc4.1 hv).2.1) ?_
  refine wz 4 ?_
  refine kz az (x15 (p := plnOf s n (Br.plays s)[k]) (a := a) (b := b) (c := c) hw) ?_
  refine wz 2 ?_
  refine kz az (known_pure) ?_
  refine wz 1 ?_
  exact rz rfl jz
theorem law3_sp (s : Sto) (n : Evg) (a b c : Int) (hr : s.rules.length ≤ 12) (hs : s.scs.length ≤ 10) (hok : stoOK s = true) (hev : evgOK n = true) {k : Nat} (hk : k < (Br.plays s).length) (hf : (fitL s n).headD [] = (Br.plays s)[k]) (he : eveE s n = 0) (hv : vdc s n (Br.plays s)[k] = 4) (hw : inW n a b c = true) {x : List Nat} (hsu : surest (plnOf s n (Br.plays s)[k]) = some x) (hpo : (Ni.choicesC (plnOf s (mOf n a b c) (Br.plays s)[k])).isEmpty = false) : APure Tryz.prog 3 [stoA s, evgA n, ints [a, b, c]] (B true) := by
  refine ap Tryz.func3 (fun e0 he0 => ?_)
  refine wz 6 ?_
  refine sq_ev rfl (ev_less (ev_gtr jz jz) (Less.eq (b := B false) (by simp <;> omega))) ?_
  refine wz 4 ?_
  refine sq_yes rfl rfl jz rfl (ev_less (ev_gtr jz jz) (Less.eq (b := B false) (by simp <;> omega))) ?_
  refine wz 3 ?_
  refine ky az (x6 hs hr hok) ?_
  refine wz 4 ?_
  refine ky az (x7 hev) ?_
  refine wz 9 ?_
  refine kz az (x9 hs hr hok) ?_
  refine wz 7 ?_
  refine kz az (x10 hs hr hf he) ?_
  refine wz 22 ?_
  refine sq_yes rfl rfl jz rfl (ev_less (ev_gtr jz jz) (Less.eq (b := B false) (by have := plays_40 hok; simp <;> omega))) ?_
  refine wz 7 ?_
  refine kz az (x11 hok hk) ?_
  refine wz 2 ?_
  refine sq_ev rfl (ev_less (ev_lss jz jz) (Less.eq (b := B false) (by simp <;> omega))) ?_
  refine wz 3 ?_
  refine ky az (x12 hs hok (List.getElem_mem hk)) ?_
  refine wz 6 ?_
  refine kz az (planned_pure s n (Br.plays s)[k] (play_B hok (List.getElem_mem hk)).1 (play_B hok (List.getElem_mem hk)).2) ?_
  refine wz 3 ?_
  refine kz az (x14 (pln_len (play_B hok (List.getElem_mem hk)).1) (vdc4.1 hv).2.1) ?_
  refine wz 4 ?_
  refine kz az (x15 (p := plnOf s n (Br.plays s)[k]) (a := a) (b := b) (c := c) hw) ?_
  refine wz 6 ?_
  refine aw_loopk (ι := { i : Nat // i ≤ 2 }) [2, 3, 7, 9, 13, 14, 15] (fun g => [(16, I (g.1 : Nat))]) (fun H g => [.cells (stoC s), .cells (evgC n), .cells (planC (plnOf s n (Br.plays s)[k])), .cells (mK n a b c g.1)]) (fun g => 2 - g.1) (⟨0, by omega⟩) ⟨jz, jz, jz, jz, jz, jz, jz, jz, trivial⟩ rfl ?_
  rintro ⟨i, hi⟩
  refine nz ?_
  refine wz 2 ?_
  refine iz (fun c_105 c_105' => ?_) (fun c_105 c_105' => ?_)
  ·have hi2 : i < 2 := by omega
   refine wz 0 ?_
   refine aw_draw 12 mo (by kernel_rfl) ?_
   refine dz 3 ?_
   refine dr_ev rfl (ev_index_map (k := i) (xs := [a, b, c]) (f := fun x => [I x]) sl31.h jz jz rfl (by simp; omega)) ?_
   refine dz 3 ?_
   refine dr_ev rfl (ev_index_map (k := i) (xs := [a, b, c]) (f := fun x => [I x]) sl31.h jz jz rfl (by simp; omega)) ?_
   refine dz 3 ?_
   refine dr_ev rfl (ev_index_box (k := i) ar28.h jz jz rfl (by omega)) ?_
   refine dr_end ?_
   refine sq_store rfl jz jz rfl rfl ty27.h rfl (by rcases i with _ | _ | i <;> first | rfl | omega) ?_
   refine wz 3 ?_
   exact ⟨⟨i + 1, by omega⟩, by simp only; omega, sb 4 ⟨jz, jz, jz, jz, jz, jz, jz, jz, trivial⟩ (hH := (by rcases i with _ | _ | i <;> first | rfl | omega))⟩
  obtain rfl : i = 2 := by omega
  refine aw_exit ?_
  refine aw_seq ?_
  refine aw_norm (H' := [.cells (stoC s), .cells (evgC n), .cells (planC (plnOf s n (Br.plays s)[k])), .cells [I n.beg, I a, I a, I b, I b, I n.dl, I n.dh]]) rfl ?_
  refine aw_draw 8 mo (by kernel_rfl) ?_
  refine dz 8 ?_
  refine wz 2 ?_
  refine kz az (x16s (pln_len (play_B hok (List.getElem_mem hk)).1) (vdc4.1 hv).2.1 hsu) ?_
  refine wz 7 ?_
  refine kz az (x17 (n := (mOf n a b c)) hs hr hok (plok_pt hev hw)) ?_
  refine wz 8 ?_
  refine kz az (planned_pure s (mOf n a b c) (Br.plays s)[k] (play_B hok (List.getElem_mem hk)).1 (play_B hok (List.getElem_mem hk)).2) ?_
  refine kz az (x18 (pln_len (play_B hok (List.getElem_mem hk)).1) (plok_pt (vdc4.1 hv).2.1 hw)) ?_
  refine wz 20 ?_
  refine sq_yes rfl rfl jz rfl (ev_less (ev_neq jz jz) (Less.eq (b := B false) (by simp))) ?_
  refine wz 11 ?_
  refine sq_yes rfl rfl jz rfl (ev_index_map (k := k) (xs := (Br.plays s).map (vdc s (mOf n a b c))) sl51.h jz jz rfl (by simpa using hk)) ?_
  refine wz 1 ?_
  refine sq_yes rfl rfl jz rfl (ev_less (ev_eql jz jz) (Less.eq (b := B true) (congrArg B (by have hq := vdc_pt hv hw; rw [hpo] at hq; simpa using hq)))) ?_
  refine wz 4 ?_
  refine sq_yes rfl rfl jz rfl (ev_index_map (k := k) (xs := (Br.plays s).map (vdc s (mOf n a b c))) sl51.h jz jz rfl (by simpa using hk)) ?_
  refine wz 1 ?_
  refine sq_yes rfl rfl jz rfl (ev_less (ev_eql jz jz) (Less.eq (b := B true) (congrArg B (by have hq := vdc_pt hv hw; rw [hpo] at hq; simpa using hq)))) ?_
  refine wz 2 ?_
  refine sq_yes rfl rfl jz rfl (ev_less (ev_gtr jz jz) (Less.eq (b := B true) (by have hz := hpo; cases hq : Ni.choicesC (plnOf s (mOf n a b c) (Br.plays s)[k]) <;> rw [hq] at hz <;> simp at hz ⊢ <;> omega))) ?_
  refine wz 3 ?_
  refine ky az (known_pure) ?_
  refine wz 2 ?_
  exact rz rfl jz
theorem law3_np (s : Sto) (n : Evg) (a b c : Int) (hr : s.rules.length ≤ 12) (hs : s.scs.length ≤ 10) (hok : stoOK s = true) (hev : evgOK n = true) {k : Nat} (hk : k < (Br.plays s).length) (hf : (fitL s n).headD [] = (Br.plays s)[k]) (he : eveE s n = 0) (hv : vdc s n (Br.plays s)[k] = 4) (hw : inW n a b c = true) (hsu : surest (plnOf s n (Br.plays s)[k]) = none) (hpo : (Ni.choicesC (plnOf s (mOf n a b c) (Br.plays s)[k])).isEmpty = false) : APure Tryz.prog 3 [stoA s, evgA n, ints [a, b, c]] (B true) := by
  refine ap Tryz.func3 (fun e0 he0 => ?_)
  refine wz 6 ?_
  refine sq_ev rfl (ev_less (ev_gtr jz jz) (Less.eq (b := B false) (by simp <;> omega))) ?_
  refine wz 4 ?_
  refine sq_yes rfl rfl jz rfl (ev_less (ev_gtr jz jz) (Less.eq (b := B false) (by simp <;> omega))) ?_
  refine wz 3 ?_
  refine ky az (x6 hs hr hok) ?_
  refine wz 4 ?_
  refine ky az (x7 hev) ?_
  refine wz 9 ?_
  refine kz az (x9 hs hr hok) ?_
  refine wz 7 ?_
  refine kz az (x10 hs hr hf he) ?_
  refine wz 22 ?_
  refine sq_yes rfl rfl jz rfl (ev_less (ev_gtr jz jz) (Less.eq (b := B false) (by have := plays_40 hok; simp <;> omega))) ?_
  refine wz 7 ?_
  refine kz az (x11 hok hk) ?_
  refine wz 2 ?_
  refine sq_ev rfl (ev_less (ev_lss jz jz) (Less.eq (b := B false) (by simp <;> omega))) ?_
  refine wz 3 ?_
  refine ky az (x12 hs hok (List.getElem_mem hk)) ?_
  refine wz 6 ?_
  refine kz az (planned_pure s n (Br.plays s)[k] (play_B hok (List.getElem_mem hk)).1 (play_B hok (List.getElem_mem hk)).2) ?_
  refine wz 3 ?_
  refine kz az (x14 (pln_len (play_B hok (List.getElem_mem hk)).1) (vdc4.1 hv).2.1) ?_
  refine wz 4 ?_
  refine kz az (x15 (p := plnOf s n (Br.plays s)[k]) (a := a) (b := b) (c := c) hw) ?_
  refine wz 6 ?_
  refine aw_loopk (ι := { i : Nat // i ≤ 2 }) [2, 3, 7, 9, 13, 14, 15] (fun g => [(16, I (g.1 : Nat))]) (fun H g => [.cells (stoC s), .cells (evgC n), .cells (planC (plnOf s n (Br.plays s)[k])), .cells (mK n a b c g.1)]) (fun g => 2 - g.1) (⟨0, by omega⟩) ⟨jz, jz, jz, jz, jz, jz, jz, jz, trivial⟩ rfl ?_
  rintro ⟨i, hi⟩
  refine nz ?_
  refine wz 2 ?_
  refine iz (fun c_105 c_105' => ?_) (fun c_105 c_105' => ?_)
  ·have hi2 : i < 2 := by omega
   refine wz 0 ?_
   refine aw_draw 12 mo (by kernel_rfl) ?_
   refine dz 3 ?_
   refine dr_ev rfl (ev_index_map (k := i) (xs := [a, b, c]) (f := fun x => [I x]) sl31.h jz jz rfl (by simp; omega)) ?_
   refine dz 3 ?_
   refine dr_ev rfl (ev_index_map (k := i) (xs := [a, b, c]) (f := fun x => [I x]) sl31.h jz jz rfl (by simp; omega)) ?_
   refine dz 3 ?_
   refine dr_ev rfl (ev_index_box (k := i) ar28.h jz jz rfl (by omega)) ?_
   refine dr_end ?_
   refine sq_store rfl jz jz rfl rfl ty27.h rfl (by rcases i with _ | _ | i <;> first | rfl | omega) ?_
   refine wz 3 ?_
   exact ⟨⟨i + 1, by omega⟩, by simp only; omega, sb 4 ⟨jz, jz, jz, jz, jz, jz, jz, jz, trivial⟩ (hH := (by rcases i with _ | _ | i <;> first | rfl | omega))⟩
  obtain rfl : i = 2 := by omega
  refine aw_exit ?_
  refine aw_seq ?_
  refine aw_norm (H' := [.cells (stoC s), .cells (evgC n), .cells (planC (plnOf s n (Br.plays s)[k])), .cells [I n.beg, I a, I a, I b, I b, I n.dl, I n.dh]]) rfl ?_
  refine aw_draw 8 mo (by kernel_rfl) ?_
  refine dz 8 ?_
  refine wz 2 ?_
  refine kz az (x16n (pln_len (play_B hok (List.getElem_mem hk)).1) (vdc4.1 hv).2.1 hsu) ?_
  refine wz 7 ?_
  refine kz az (x17 (n := (mOf n a b c)) hs hr hok (plok_pt hev hw)) ?_
  refine wz 8 ?_
  refine kz az (planned_pure s (mOf n a b c) (Br.plays s)[k] (play_B hok (List.getElem_mem hk)).1 (play_B hok (List.getElem_mem hk)).2) ?_
  refine kz az (x18 (pln_len (play_B hok (List.getElem_mem hk)).1) (plok_pt (vdc4.1 hv).2.1 hw)) ?_
  refine wz 20 ?_
  refine sq_yes rfl rfl jz rfl (ev_less (ev_neq jz jz) (Less.eq (b := B false) (by simp))) ?_
  refine wz 18 ?_
  refine sq_yes rfl rfl jz rfl (ev_index_map (k := k) (xs := (Br.plays s).map (vdc s (mOf n a b c))) sl51.h jz jz rfl (by simpa using hk)) ?_
  refine wz 1 ?_
  refine sq_yes rfl rfl jz rfl (ev_less (ev_eql jz jz) (Less.eq (b := B true) (congrArg B (by have hq := vdc_pt hv hw; rw [hpo] at hq; simpa using hq)))) ?_
  refine wz 2 ?_
  refine sq_yes rfl rfl jz rfl (ev_less (ev_gtr jz jz) (Less.eq (b := B true) (by have hz := hpo; cases hq : Ni.choicesC (plnOf s (mOf n a b c) (Br.plays s)[k]) <;> rw [hq] at hz <;> simp at hz ⊢ <;> omega))) ?_
  refine wz 3 ?_
  refine ky az (known_pure) ?_
  refine wz 2 ?_
  exact rz rfl jz
theorem law3_nn (s : Sto) (n : Evg) (a b c : Int) (hr : s.rules.length ≤ 12) (hs : s.scs.length ≤ 10) (hok : stoOK s = true) (hev : evgOK n = true) {k : Nat} (hk : k < (Br.plays s).length) (hf : (fitL s n).headD [] = (Br.plays s)[k]) (he : eveE s n = 0) (hv : vdc s n (Br.plays s)[k] = 4) (hw : inW n a b c = true) (hsu : surest (plnOf s n (Br.plays s)[k]) = none) (hpo : (Ni.choicesC (plnOf s (mOf n a b c) (Br.plays s)[k])).isEmpty = true) : APure Tryz.prog 3 [stoA s, evgA n, ints [a, b, c]] (B true) := by
  refine ap Tryz.func3 (fun e0 he0 => ?_)
  refine wz 6 ?_
  refine sq_ev rfl (ev_less (ev_gtr jz jz) (Less.eq (b := B false) (by simp <;> omega))) ?_
  refine wz 4 ?_
  refine sq_yes rfl rfl jz rfl (ev_less (ev_gtr jz jz) (Less.eq (b := B false) (by simp <;> omega))) ?_
  refine wz 3 ?_
  refine ky az (x6 hs hr hok) ?_
  refine wz 4 ?_
  refine ky az (x7 hev) ?_
  refine wz 9 ?_
  refine kz az (x9 hs hr hok) ?_
  refine wz 7 ?_
  refine kz az (x10 hs hr hf he) ?_
  refine wz 22 ?_
  refine sq_yes rfl rfl jz rfl (ev_less (ev_gtr jz jz) (Less.eq (b := B false) (by have := plays_40 hok; simp <;> omega))) ?_
  refine wz 7 ?_
  refine kz az (x11 hok hk) ?_
  refine wz 2 ?_
  refine sq_ev rfl (ev_less (ev_lss jz jz) (Less.eq (b := B false) (by simp <;> omega))) ?_
  refine wz 3 ?_
  refine ky az (x12 hs hok (List.getElem_mem hk)) ?_
  refine wz 6 ?_
  refine kz az (planned_pure s n (Br.plays s)[k] (play_B hok (List.getElem_mem hk)).1 (play_B hok (List.getElem_mem hk)).2) ?_
  refine wz 3 ?_
  refine kz az (x14 (pln_len (play_B hok (List.getElem_mem hk)).1) (vdc4.1 hv).2.1) ?_
  refine wz 4 ?_
  refine kz az (x15 (p := plnOf s n (Br.plays s)[k]) (a := a) (b := b) (c := c) hw) ?_
  refine wz 6 ?_
  refine aw_loopk (ι := { i : Nat // i ≤ 2 }) [2, 3, 7, 9, 13, 14, 15] (fun g => [(16, I (g.1 : Nat))]) (fun H g => [.cells (stoC s), .cells (evgC n), .cells (planC (plnOf s n (Br.plays s)[k])), .cells (mK n a b c g.1)]) (fun g => 2 - g.1) (⟨0, by omega⟩) ⟨jz, jz, jz, jz, jz, jz, jz, jz, trivial⟩ rfl ?_
  rintro ⟨i, hi⟩
  refine nz ?_
  refine wz 2 ?_
  refine iz (fun c_105 c_105' => ?_) (fun c_105 c_105' => ?_)
  ·have hi2 : i < 2 := by omega
   refine wz 0 ?_
   refine aw_draw 12 mo (by kernel_rfl) ?_
   refine dz 3 ?_
   refine dr_ev rfl (ev_index_map (k := i) (xs := [a, b, c]) (f := fun x => [I x]) sl31.h jz jz rfl (by simp; omega)) ?_
   refine dz 3 ?_
   refine dr_ev rfl (ev_index_map (k := i) (xs := [a, b, c]) (f := fun x => [I x]) sl31.h jz jz rfl (by simp; omega)) ?_
   refine dz 3 ?_
   refine dr_ev rfl (ev_index_box (k := i) ar28.h jz jz rfl (by omega)) ?_
   refine dr_end ?_
   refine sq_store rfl jz jz rfl rfl ty27.h rfl (by rcases i with _ | _ | i <;> first | rfl | omega) ?_
   refine wz 3 ?_
   exact ⟨⟨i + 1, by omega⟩, by simp only; omega, sb 4 ⟨jz, jz, jz, jz, jz, jz, jz, jz, trivial⟩ (hH := (by rcases i with _ | _ | i <;> first | rfl | omega))⟩
  obtain rfl : i = 2 := by omega
  refine aw_exit ?_
  refine aw_seq ?_
  refine aw_norm (H' := [.cells (stoC s), .cells (evgC n), .cells (planC (plnOf s n (Br.plays s)[k])), .cells [I n.beg, I a, I a, I b, I b, I n.dl, I n.dh]]) rfl ?_
  refine aw_draw 8 mo (by kernel_rfl) ?_
  refine dz 8 ?_
  refine wz 2 ?_
  refine kz az (x16n (pln_len (play_B hok (List.getElem_mem hk)).1) (vdc4.1 hv).2.1 hsu) ?_
  refine wz 7 ?_
  refine kz az (x17 (n := (mOf n a b c)) hs hr hok (plok_pt hev hw)) ?_
  refine wz 8 ?_
  refine kz az (planned_pure s (mOf n a b c) (Br.plays s)[k] (play_B hok (List.getElem_mem hk)).1 (play_B hok (List.getElem_mem hk)).2) ?_
  refine kz az (x18 (pln_len (play_B hok (List.getElem_mem hk)).1) (plok_pt (vdc4.1 hv).2.1 hw)) ?_
  refine wz 20 ?_
  refine sq_yes rfl rfl jz rfl (ev_less (ev_neq jz jz) (Less.eq (b := B false) (by simp))) ?_
  refine wz 18 ?_
  refine sq_yes rfl rfl jz rfl (ev_index_map (k := k) (xs := (Br.plays s).map (vdc s (mOf n a b c))) sl51.h jz jz rfl (by simpa using hk)) ?_
  refine wz 1 ?_
  refine sq_yes rfl rfl jz rfl (ev_less (ev_eql jz jz) (Less.eq (b := B false) (congrArg B (by have hq := vdc_pt hv hw; rw [hpo] at hq; simpa using hq)))) ?_
  refine wz 2 ?_
  refine sq_yes rfl rfl jz rfl (ev_less (ev_gtr jz jz) (Less.eq (b := B false) (by have hz := hpo; cases hq : Ni.choicesC (plnOf s (mOf n a b c) (Br.plays s)[k]) <;> rw [hq] at hz <;> simp at hz ⊢ <;> omega))) ?_
  refine wz 3 ?_
  refine ky az (known_pure) ?_
  refine wz 2 ?_
  exact rz rfl jz
/-- **TopHours returns true.** -/
theorem law3 (s : Sto) (n : Evg) (h : List Int) : APure Tryz.prog 3 [stoA s, evgA n, ints h] (B true) := by
  rcases Nat.lt_or_ge 12 s.rules.length with hr | hr
  · exact law3_rules s n h hr
  rcases Nat.lt_or_ge 10 s.scs.length with hs | hs
  · exact law3_scs s n h hr hs
  cases hok : stoOK s with
  | false => exact law3_sto s n h hr hs hok
  | true =>
  cases hev : evgOK n with
  | false => exact law3_evg s n h hr hs hok hev
  | true =>
  by_cases hh : h.length = 3
  · obtain ⟨a, b, c, rfl⟩ : ∃ a b c, h = [a, b, c] := by
      rcases h with _ | ⟨a, _ | ⟨b, _ | ⟨c, _ | ⟨d, h⟩⟩⟩⟩ <;> simp at hh
      exact ⟨a, b, c, rfl⟩
    rcases fit_cases hok hev with ⟨hf, he⟩ | ⟨l, L, hf, he⟩
    · exact law3_none s n a b c hr hs hok hev hf he
    · have hm := fitL_mem (show l ∈ fitL s n by rw [hf]; exact List.mem_cons_self)
      obtain ⟨k, hk, rfl⟩ := List.getElem_of_mem hm.2.2.1
      have hf2 : (fitL s n).headD [] = (Br.plays s)[k] := by rw [hf]; rfl
      cases hw : inW n a b c with
      | false => exact law3_out s n a b c hr hs hok hev hk hf2 he hm.2.2.2 hw
      | true =>
        cases hsu : surest (plnOf s n (Br.plays s)[k]) with
        | some x => exact law3_sp s n a b c hr hs hok hev hk hf2 he hm.2.2.2 hw hsu (sure_ch hsu (vdc4.1 hm.2.2.2).2.1 hw)
        | none =>
          cases hpo : (Ni.choicesC (plnOf s (mOf n a b c) (Br.plays s)[k])).isEmpty with
          | false => exact law3_np s n a b c hr hs hok hev hk hf2 he hm.2.2.2 hw hsu hpo
          | true => exact law3_nn s n a b c hr hs hok hev hk hf2 he hm.2.2.2 hw hsu hpo
  · exact law3_len s n h hr hs hok hev hh
end Go.Proofs.YtnbjaepkbabkhaaGreat
