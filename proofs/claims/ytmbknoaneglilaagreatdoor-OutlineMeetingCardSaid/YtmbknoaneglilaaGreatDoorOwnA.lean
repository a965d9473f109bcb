/-
  A part of the proof: conditions: none beyond each theorem's own.
-/
import Derived.Test.YtmbknoaneglilaaGreatDoorLogicA
import Derived.Test.YtmbknoaneglilaaGreatDoorLogicD
import Derived.Laws.Small
import Derived.Deep.Slices
import Derived.OpenShut
import Derived.Carry
import Derived.Test.YtmbknoaneglilaaGreatDoorLogicC
import Derived.Test.YtmbknoaneglilaaGreatDoorSpecA
import Derived.KernelRfl
import Derived.Lib.LaidTab
import Derived.Lib.ItoaNum
import Derived.Test.YtmbknoaneglilaaGreatDoorProg
import Derived.Test.YtmbknoaneglilaaGreatDoorLogicE
import Derived.Test.YtmbknoaneglilaaGreatDoorWalkF
import Derived.Test.YtmbknoaneglilaaGreatDoorLogicB
import Derived.Test.YtmbknoaneglilaaGreatDoorShelf
import Derived.Test.YtmbknoaneglilaaGreatDoorWalkA
import Derived.Test.YtmbknoaneglilaaGreatDoorWalkB
import Derived.Test.YtmbknoaneglilaaGreatDoorWalkC
import Derived.Test.YtmbknoaneglilaaGreatDoorWalkD
import Derived.Test.YtmbknoaneglilaaGreatDoorWalkE
import Derived.Test.YtmbknoaneglilaaGreatDoorRow
set_option linter.all false
set_option maxRecDepth 100000
set_option maxHeartbeats 8000000
namespace Go.Ab
variable [Tabs]
theorem FW_room (r : Option Nat) (n : Nat) : (FW r).room n := fun _ h => by simp [FW] at h
variable {c : Ctx} {Q : AExit → St → Prop} {s : St}
end Go.Ab
namespace Go.Ab
variable [Tabs]
section
variable {P : Program} {r : Option Nat} {H : List AObj} {ρ : Operand → AV}
variable {d : Option Tmp} {t : TypeId} {p : String} {af : Array Edge} {g : Option (Nat × Bool)} {x y : Operand}
theorem ev_bool2 {op : BinOp} {a b : Bool} {xt yt : TypeId} {v : AV} (hx : Less (ρ x) (.raw (.bool a))) (hy : Less (ρ y) (.raw (.bool b)))
    (hr : ∀ w e, ∃ u, (binOp op xt (.bool a) (.bool b)).run P w = .ok u w ∧ Rep e v u) : Ev P r ⟨d, .binOp op xt x y yt, t, p, af, g⟩ H ρ v :=
  Ev.pure (by intro c h; cases h) fun e ρc _ _ hs => by
    have e1 := rep_raw hx (hs x (by simp [Op.operands]))
    have e2 := rep_raw hy (hs y (by simp [Op.operands]))
    obtain ⟨u, h1, h2⟩ := hr e.w e
    refine ⟨u, ?_, h2⟩
    have hg : (eqGuard op xt x y (.bool a) (.bool b)).run P e.w = .ok () e.w := by
      unfold eqGuard; split <;> simp
    simp [execOp, e1, e2, hg, h1]
theorem ev_neqB {a b : Bool} {xt yt : TypeId} (ht : P.underlying xt = some .bool) (hx : Less (ρ x) (.raw (.bool a))) (hy : Less (ρ y) (.raw (.bool b))) :
    Ev P r ⟨d, .binOp .neq xt x y yt, t, p, af, g⟩ H ρ (.raw (.bool (!(a == b)))) :=
  ev_bool2 hx hy fun w e => ⟨_, run_neq_bool w xt a b ht, by rw [Rep]⟩
end
end Go.Ab
namespace Go.Ab
open Go.ChangeShapes Go.WideShapes
variable [Tabs]
theorem env0_ok {w : World} (h : Tabs.is w) (hb : ∀ b, Tabs.blk b → b < w.heap.size) : EnvOK (env0 w) :=
  ⟨fun b hb => by have hb' : w.heap.size ≤ b := hb
                  have : w.heap[b]? = none := by simpa using hb'
                  simp [env0, this], fun i o h => by simp [env0] at h, fun i j b hi => by simp [env0] at hi, fun i b hi => by simp [env0] at hi, h, fun b hk => ⟨hb b hk, fun i hi => by simp [env0] at hi⟩⟩
section
variable {H : Type} {enc : TypeId × Value → H} {P : Program} {w : World} {base : Nat} {spare : Nat → Bool} {held : Bool}
theorem trodAll_stays (hl : laidOutB P = true) {W W' : World} (hheap : ∀ b, b < W.heap.size → W'.heap[b]? = W.heap[b]?) {sp' : Nat → Bool} :
    ∀ {ts : List TypeId} {vs : List Value} {ds : List (DataW H)} {ps : List MemPlace}, (∀ t ∈ ts, P.readableRec t = true ∧ t < P.types.size) → DataW.TrodAll enc P W base (fun _ => true) true ts vs ds ps → (∀ p ∈ ps, p.block < W.heap.size) → (∀ p ∈ ps, sp' p.block = true) →
      DataW.TrodAll enc P W' base sp' true ts vs ds ps
  | [], _, _, _, _, h, _, _ => by
    obtain ⟨rfl, rfl, rfl⟩ := trodAll_nil h
    exact trodAll_mk0
  | t :: ts, _, _, _, ht, h, hlt, hs => by
    obtain ⟨v, vs1, d, ds1, a, b, rfl, rfl, rfl, h1, h2⟩ := trodAll_cons h
    refine trodAll_cons_mk (WideElems.Trod_stays hl (ht t (by simp)).1 (ht t (by simp)).2 h1 (fun p hp => ?_) (fun p hp => hs p (by simp [hp]))) (trodAll_stays hl hheap (fun u hu => ht u (List.mem_cons_of_mem _ hu)) h2 (fun p hp => hlt p (by simp [hp])) (fun p hp => hs p (by simp [hp])))
    have hb := hheap p.block (hlt p (by simp [hp]))
    cases p with
    | cell b o => exact cell?_of_heap hb
    | map b => exact hb
/-- **What a law's row asks of a call that returns true and leaves what it met.** -/
theorem post_true {f : Func} {s : ChangeSpec} {W W' : World} {args : Array Value} {ds gs : List (DataW H)} {before : List MemPlace} {tb : TypeId} (hl : laidOutB P = true) (hread : ∀ t ∈ f.params.toList, P.readableRec t = true ∧ t < P.types.size)
    (hres : f.resultTypes = #[tb]) (htb : P.underlying tb = some .bool) (hvars : s.vars = []) (hspec : (s.fn H ds).results = [.lit (.bool true)] ∧ (s.fn H ds).args = ds ∧ (s.fn H ds).vars = [])
    (hW : DataW.Whole enc P f.params.toList s.vars false W args.toList ds gs before) (hheap : ∀ b, b < W.heap.size → W'.heap[b]? = W.heap[b]?) (hst : Still W W') :
    s.post enc P f false true false false W args (.bool true) W' := by
  have hlt := hW.lt
  have hW0 := hW
  obtain ⟨p, q, h1, h2, rfl, _, _⟩ := hW
  rw [hvars] at h2
  obtain ⟨rfl, rfl⟩ := trodVars_none h2
  simp only [List.append_nil] at hlt
  obtain ⟨e1, e2, e3⟩ := hspec
  refine ⟨ds, [], p ++ [], [], p, [], hW0, ?_, ?_, ?_, ?_, fun h => by cases h⟩
  · rw [List.append_nil, e1, hres]
    exact trodAll_cons_mk (RowKit.shut_bool htb _) trodAll_mk0
  · rw [List.append_nil, e2]
    exact trodAll_stays hl hheap hread h1 hlt (fun p hp => by simpa using hlt p hp)
  · rw [List.append_nil, e3, hvars]; rfl
  · refine ⟨hst.1, hst.2, fun i hi => ?_⟩
    rw [hheap i hi]
    split <;> simp_all
theorem APure.law {f : FuncId} {args : List AV} {W : World} {vs : Array Value} (hc : APure P f args (.raw (.bool true))) (ht : Tabs.is W) (hb : ∀ b, Tabs.blk b → b < W.heap.size) (hr : RepL (env0 W) args vs.toList) :
    Calls P f vs W fun x W' => x = .returned (.bool true) ∧ (∀ b, b < W.heap.size → W'.heap[b]? = W.heap[b]?) ∧ Still W W' := by
  refine ((hc (env0 W) vs (env0_ok ht hb) hr).calls (fun k => FW_room none k)).mono ?_
  rintro x w' ⟨u, e', rfl, rfl, hx, hu⟩
  rw [Rep] at hu; subst hu
  exact ⟨rfl, hx.heap, hx.still⟩
end
end Go.Ab
namespace Go.Ab
variable [Tabs]
section ev
variable {P : Program} {r : Option Nat} {H : List AObj} {ρ : Operand → AV}
variable {d : Option Tmp} {t : TypeId} {p : String} {af : Array Edge} {g : Option (Nat × Bool)} {x q q2 : Operand}
theorem ev_cutBoth {xt : TypeId} {l : List UInt8} {lo hi : Nat} (ht : P.underlying xt = some .string) (hx : Less (ρ x) (S l)) (hq : Less (ρ q) (.raw (.int .i64 (lo : Int)))) (hq2 : Less (ρ q2) (.raw (.int .i64 (hi : Int)))) (h : lo ≤ hi) (h2 : hi ≤ l.length) :
    Ev P r ⟨d, .slice xt x (some q) (some q2) none, t, p, af, g⟩ H ρ (S ((l.take hi).drop lo)) :=
  ev_less (ev_slice_str (lo := lo) (hi := hi) ht hx hq hq2 h (by rw [bs_size]; exact h2)) (Less.eq (by rw [bs_cut]))
end ev
end Go.Ab
namespace Ol
open Ni (inn)
theorem wh_le {s : Sg} (hs : stOK s = true) : 1 ≤ s.wide * s.high ∧ s.wide * s.high ≤ 256 := by
  have hb := stOK_iff.1 hs
  have h1 := Int.mul_le_mul hb.1.2 hb.2.1.2 (by omega) (by omega)
  have h2 := Int.mul_le_mul hb.1.1 hb.2.1.1 (by omega) (by omega)
  omega
theorem cell_ch3 (c : Ca) (k m : Int) : c.cell k m = 35 ∨ c.cell k m = 43 ∨ c.cell k m = 46 := by
  unfold Ca.cell Ca.cellAt
  split
  · exact .inl rfl
  · split
    · exact .inr (.inl rfl)
    · exact .inr (.inr rfl)
end Ol
namespace Ol
open Ni (inn)
namespace Ca
def eR (c : Ca) (k : Int) : Int := (k + 1) * (c.s.far - c.p.near) + c.s.flame * c.p.near
end Ca
end Ol
namespace Ol
open Ni (inn)
def goodP (t u : Th) : Prop := t.rd.fig < u.rd.fig ∧ agree t.sh u.sh = true
def mA : Option (Nat × Nat) → Int | none => -1 | some m => m.1
def mB : Option (Nat × Nat) → Int | none => -1 | some m => m.2
def leM (M : Option (Nat × Nat)) (a b : Int) : Prop := 0 ≤ mA M ∧ (mA M < a ∨ (mA M = a ∧ mB M ≤ b))
structure MInv (R : List Th) (M : Option (Nat × Nat)) (i k : Nat) : Prop where
  real : ∀ m, M = some m → ∃ t ∈ R, ∃ u ∈ R, goodP t u ∧ t.rd.fig = m.1 ∧ u.rd.fig = m.2
  least : ∀ p q, (hp : p < R.length) → (hq : q < R.length) → (p < i ∨ (p = i ∧ q < k)) → goodP R[p] R[q] → leM M R[p].rd.fig R[q].rd.fig
theorem MInv.row {R : List Th} {M : Option (Nat × Nat)} {i : Nat} (h : MInv R M i R.length) : MInv R M (i + 1) 0 :=
  ⟨h.real, fun p q hp hq hc hg => h.least p q hp hq (by omega) hg⟩
end Ol
namespace Go.Proofs.YtmbknoaneglilaaGreatDoor
open Go Go.Ab Ni Ol
theorem rin_pure (n lo hi : Int) : APure Tryz.prog 89 [I n, I lo, I hi] (B (inn n lo hi)) := by
 refine apure_of (rs := [.tmp 6]) Tryz.func89 rfl rfl (Nat.le_of_ble_eq_true rfl) (by simp [AV.pureL, AV.pureB, AV.pureE, pureE_map]) (by first | rfl | (simp [AV.pureL, AV.pureB, AV.pureE, pureE_map])) fun e0 he0 => ?_
 refine W 5 ?_
 refine sq_split 10 J (fun g1 => ?_) (fun g1 => ?_)
 ·
  have g1' := g1
  try simp only [qq] at g1'
  refine W 5 ?_
  exact retQ_pure (v := .raw _) rfl rfl (Less.eq (by simp [inn, *]))
 have g1' := g1
 try simp only [qq] at g1'
 refine W 5 ?_
 exact retQ_pure (v := .raw _) rfl rfl (Less.eq (by simp [inn, *]))
theorem rstage_pure (s : Sg) : APure Tryz.prog 24 [stA s] (B (stOK s)) := by
 refine apure_of (rs := [.tmp 2]) Tryz.func24 rfl rfl (Nat.le_of_ble_eq_true rfl) (by simp [AV.pureL, AV.pureB, AV.pureE, pureE_map]) (by first | rfl | (simp [AV.pureL, AV.pureB, AV.pureE, pureE_map])) fun e0 he0 => ?_
 refine W 4 ?_
 refine cl A (rin_pure _ _ _) ?_
 refine W 1 ?_
 refine sq_split 6 J (fun g1 => ?_) (fun g1 => ?_)
 ·
  have g1' := g1
  try simp only [qq] at g1'
  refine W 2 ?_
  refine cy A (rin_pure _ _ _) ?_
  refine W 2 ?_
  refine sq_split 11 J (fun g2 => ?_) (fun g2 => ?_)
  ·
   have g2' := g2
   try simp only [qq] at g2'
   refine W 2 ?_
   refine cy A (rin_pure _ _ _) ?_
   refine W 2 ?_
   refine sq_split 16 J (fun g3 => ?_) (fun g3 => ?_)
   ·
    have g3' := g3
    try simp only [qq] at g3'
    refine W 2 ?_
    refine cy A (rin_pure _ _ _) ?_
    refine W 2 ?_
    refine sq_split 21 J (fun g4 => ?_) (fun g4 => ?_)
    ·
     have g4' := g4
     try simp only [qq] at g4'
     refine W 4 ?_
     refine cy A (rin_pure _ _ _) ?_
     refine W 2 ?_
     refine sq_split 28 J (fun g5 => ?_) (fun g5 => ?_)
     ·
      have g5' := g5
      try simp only [qq] at g5'
      refine W 4 ?_
      refine cy A (rin_pure _ _ _) ?_
      refine W 2 ?_
      exact retQ_pure (v := .raw _) rfl rfl (Less.eq (by simp [stOK, *]))
     have g5' := g5
     try simp only [qq] at g5'
     refine W 7 ?_
     exact retQ_pure (v := .raw _) rfl rfl (Less.eq (by simp [stOK, *]))
    have g4' := g4
    try simp only [qq] at g4'
    refine W 14 ?_
    exact retQ_pure (v := .raw _) rfl rfl (Less.eq (by simp [stOK, *]))
   have g3' := g3
   try simp only [qq] at g3'
   refine W 19 ?_
   exact retQ_pure (v := .raw _) rfl rfl (Less.eq (by simp [stOK, *]))
  have g2' := g2
  try simp only [qq] at g2'
  refine W 24 ?_
  exact retQ_pure (v := .raw _) rfl rfl (Less.eq (by simp [stOK, *]))
 have g1' := g1
 try simp only [qq] at g1'
 refine W 29 ?_
 exact retQ_pure (v := .raw _) rfl rfl (Less.eq (by simp [stOK, *]))
theorem rat_pure (x y : Int) : APure Tryz.prog 31 [I x, I y] (B (awayOK x && awayOK y)) := by
 refine apure_of (rs := [.tmp 4]) Tryz.func31 rfl rfl (Nat.le_of_ble_eq_true rfl) (by simp [AV.pureL, AV.pureB, AV.pureE, pureE_map]) (by first | rfl | (simp [AV.pureL, AV.pureB, AV.pureE, pureE_map])) fun e0 he0 => ?_
 refine W 2 ?_
 refine cl A (rin_pure _ _ _) ?_
 refine W 1 ?_
 refine sq_split 7 J (fun g1 => ?_) (fun g1 => ?_)
 ·
  have g1' := g1
  try simp only [qq] at g1'
  refine W 1 ?_
  refine cy A (rin_pure _ _ _) ?_
  refine W 2 ?_
  exact retQ_pure (v := .raw _) rfl rfl (Less.eq (by simp [awayOK, *]))
 have g1' := g1
 try simp only [qq] at g1'
 refine W 4 ?_
 exact retQ_pure (v := .raw _) rfl rfl (Less.eq (by simp [awayOK, *]))
theorem rplace_pure (s : Sg) (p : Pc) (h : 2 ≤ s.far ∧ s.far ≤ 40) : APure Tryz.prog 26 [stA s, pcA p] (B (pcOK s p)) := by
 refine apure_of (rs := [.tmp 4]) Tryz.func26 rfl rfl (Nat.le_of_ble_eq_true rfl) (by simp [AV.pureL, AV.pureB, AV.pureE, pureE_map]) (by first | rfl | (simp [AV.pureL, AV.pureB, AV.pureE, pureE_map])) fun e0 he0 => ?_
 refine W 8 ?_
 refine cl A (rin_pure _ _ _) ?_
 refine W 1 ?_
 refine sq_split 11 J (fun g1 => ?_) (fun g1 => ?_)
 ·
  have g1' := g1
  try simp only [qq] at g1'
  refine W 4 ?_
  refine cy A (rat_pure _ _) ?_
  refine W 2 ?_
  exact retQ_pure (v := .raw _) rfl rfl (Less.eq (by simp [pcOK, Bool.and_assoc, *]))
 have g1' := g1
 try simp only [qq] at g1'
 refine W 7 ?_
 exact retQ_pure (v := .raw _) rfl rfl (Less.eq (by simp [pcOK, Bool.and_assoc, *]))
end Go.Proofs.YtmbknoaneglilaaGreatDoor
namespace Go.Proofs.YtmbknoaneglilaaGreatDoor
open Go Go.Ab Ni Ol
theorem ch_ok {c : UInt8} (h : (c.toNat : Int) = 35 ∨ (c.toNat : Int) = 46) : chOK c = true := by
  unfold chOK; simp only [decide_eq_true_eq]
  exact h.imp (fun h => UInt8.toNat_inj.1 (by show c.toNat = 35; omega)) (fun h => UInt8.toNat_inj.1 (by show c.toNat = 46; omega))
theorem ch_no {c : UInt8} (h : (c.toNat : Int) ≠ 35) (k : (c.toNat : Int) ≠ 46) : chOK c = false := by
  rw [Bool.eq_false_iff]; intro ho; unfold chOK at ho; simp only [decide_eq_true_eq] at ho
  rcases ho with e | e <;> (subst e; first | exact h rfl | exact k rfl)
theorem rfigure_pure (f : Fg) : APure Tryz.prog 25 [fgA f] (B (fgOK f)) := by
  refine apure_of (rs := [.tmp 2]) Tryz.func25 rfl rfl (Nat.le_of_ble_eq_true rfl) (by simp [AV.pureL, AV.pureB, AV.pureE, pureE_map]) (by first | rfl | (simp [AV.pureL, AV.pureB, AV.pureE, pureE_map])) fun e0 he0 => ?_
  refine W 5 ?_
  refine cl A (rin_pure _ _ _) ?_
  refine W 2 ?_
  refine sq_split 11 J (fun g1_5 => ?_) (fun g1_5 => ?_)
  · skip
    have g1_5' := g1_5
    try simp only [qq] at g1_5'
    refine W 10 ?_
    exact retQ_pure (v := .raw _) rfl rfl (Less.eq (by unfold fgOK; simp_all))
  · skip
    have g1_5' := g1_5
    try simp only [qq] at g1_5'
    have h1 : inn f.length 1 6 = true := by simpa using g1_5
    have hlen : 1 ≤ f.length ∧ f.length ≤ 6 := by simp only [inn, Bool.and_eq_true, decide_eq_true_eq] at h1; omega
    have hw0 := w0_eq (f := f) (by omega)
    refine W 2 ?_
    refine sq_yes rfl rfl (less_b g1_5) rfl (ev_index_map (k := 0) sl24.h J J rfl (by omega)) ?_
    refine W 2 ?_
    refine cy A (rin_pure _ _ _) ?_
    refine W 2 ?_
    refine aw_cond J (fun c_19 => ?_) (fun c_19 => ?_)
    · skip
      have c_19' := c_19
      try simp only [qq] at c_19'
      refine W 1 ?_
      exact retQ_pure (v := .raw _) rfl rfl (Less.eq (by unfold fgOK; rw [hw0]; simp_all))
    · skip
      have c_19' := c_19
      try simp only [qq] at c_19'
      have h2 : inn (w0 f) 1 6 = true := by rw [hw0]; simpa using c_19
      refine W 2 ?_
      refine aw_loopk (ι := { k : Nat // k ≤ f.length ∧ ∀ i, (h : i < f.length) → i < k → fgRow (w0 f) f[i] = true }) [1] (fun i => [(3, B ((f.take i.1).any hasH)), (4, I i.1)]) (fun H i => H) (fun i => f.length - i.1) (⟨0, Nat.zero_le _, by omega⟩) ⟨J, J, J, trivial⟩ rfl ?_
      rintro ⟨k, hk, hok⟩
      dsimp only [keepS, St.put, sget, slotsOf, nn1, nn2, nn3, nn4, nn5, nn6, Nat.reduceBEq, Nat.reduceAdd, nn7, nn8]
      refine W 5 ?_
      refine iff (fun c_24 c_24' => ?_) (fun c_24 c_24' => ?_)
      · skip
        refine W 0 ?_
        refine aw_draw 12 mo (by kernel_rfl) ?_
        refine WD 8 ?_
        refine dr_ev rfl (ev_index_map (k := 0) sl24.h J J rfl (by omega)) ?_
        refine WD 3 ?_
        refine W 0 ?_
        refine ifn (fun c_38 c_38' => ?_) (fun c_38 c_38' => ?_)
        · skip
          refine W 1 ?_
          exact retQ_pure (v := .raw _) rfl rfl (Less.eq (by rw [fg_row_bad (k := k) (by omega) (fgRow_len (by rw [hw0]; omega))]))
        · skip
          have hlk : f[k].length ≤ 6 := by simp only [inn, Bool.and_eq_true, decide_eq_true_eq] at h2; omega
          refine W 1 ?_
          refine aw_loopk (ι := { j : Nat // j ≤ f[k].length ∧ ∀ i, (h : i < f[k].length) → i < j → chOK f[k][i] = true }) [1, 4] (fun q => [(3, B ((f.take k).any hasH || (f[k].take q.1).any fun c => decide (c = 35))), (5, I q.1)]) (fun H q => H) (fun q => f[k].length - q.1) (⟨0, Nat.zero_le _, by omega⟩) ⟨(Less.eq (by show B ((f.take k).any hasH) = _; simp)), J, J, J, trivial⟩ rfl ?_
          rintro ⟨j, hj, hoj⟩
          dsimp only [keepS, St.put, sget, slotsOf, nn1, nn2, nn3, nn4, nn5, nn6, Nat.reduceBEq, Nat.reduceAdd, nn7, nn8]
          refine W 8 ?_
          refine iff (fun c_46 c_46' => ?_) (fun c_46 c_46' => ?_)
          · skip
            have hk' : j < f[k].length := by omega
            have eC := any_take (q := fun c => decide (c = 35)) (l := f[k]) (k := j) hk'
            refine W 9 ?_
            refine sq_split 57 J (fun g12_8 => ?_) (fun g12_8 => ?_)
            · skip
              have g12_8' := g12_8
              try simp only [qq] at g12_8'
              refine W 9 ?_
              refine aw_cond J (fun c_66 => ?_) (fun c_66 => ?_)
              · skip
                have c_66' := c_66
                try simp only [qq] at c_66'
                refine W 1 ?_
                exact retQ_pure (v := .raw _) rfl rfl (Less.eq (by rw [fg_row_bad (k := k) (by omega) (fgRow_ch (j := j) hk' (ch_no g12_8' c_66'))]))
              · skip
                have c_66' := c_66
                try simp only [qq] at c_66'
                have hch : chOK f[k][j] = true := ch_ok (.inr (by simpa using c_66))
                refine W 2 ?_
                refine sq_split 68 J (fun g14_1 => ?_) (fun g14_1 => ?_)
                · skip
                  have g14_1' := g14_1
                  try simp only [qq] at g14_1'
                  have eF : B true = B ((f.take k).any hasH || (f[k].take (j + 1)).any fun c => decide (c = 35)) := by rw [eC, ← Bool.or_assoc, g14_1]; rfl
                  refine W 13 ?_
                  exact ⟨⟨j + 1, by omega, fun i h hi => (by by_cases e : i = j; (subst e; exact hch); exact hoj i h (by omega))⟩, by simp only; omega, Sub.slots ⟨(Less.eq eF), J, J, J, trivial⟩⟩
                · skip
                  have g14_1' := g14_1
                  try simp only [qq] at g14_1'
                  have eF : B (decide (((f[k][j]).toNat : Int) = 35)) = B ((f.take k).any hasH || (f[k].take (j + 1)).any fun c => decide (c = 35)) := by rw [eC, ← Bool.or_assoc, g14_1, dec35]; rfl
                  refine W 13 ?_
                  exact ⟨⟨j + 1, by omega, fun i h hi => (by by_cases e : i = j; (subst e; exact hch); exact hoj i h (by omega))⟩, by simp only; omega, Sub.slots ⟨(Less.eq eF), J, J, J, trivial⟩⟩
            · skip
              have g12_8' := g12_8
              try simp only [qq] at g12_8'
              have hch : chOK f[k][j] = true := ch_ok (.inl (by simpa using g12_8))
              refine W 12 ?_
              refine sq_split 68 J (fun g14_1 => ?_) (fun g14_1 => ?_)
              · skip
                have g14_1' := g14_1
                try simp only [qq] at g14_1'
                have eF : B true = B ((f.take k).any hasH || (f[k].take (j + 1)).any fun c => decide (c = 35)) := by rw [eC, ← Bool.or_assoc, g14_1]; rfl
                refine W 13 ?_
                exact ⟨⟨j + 1, by omega, fun i h hi => (by by_cases e : i = j; (subst e; exact hch); exact hoj i h (by omega))⟩, by simp only; omega, Sub.slots ⟨(Less.eq eF), J, J, J, trivial⟩⟩
              · skip
                have g14_1' := g14_1
                try simp only [qq] at g14_1'
                have eF : B (decide (((f[k][j]).toNat : Int) = 35)) = B ((f.take k).any hasH || (f[k].take (j + 1)).any fun c => decide (c = 35)) := by rw [eC, ← Bool.or_assoc, g14_1, dec35]; rfl
                refine W 13 ?_
                exact ⟨⟨j + 1, by omega, fun i h hi => (by by_cases e : i = j; (subst e; exact hch); exact hoj i h (by omega))⟩, by simp only; omega, Sub.slots ⟨(Less.eq eF), J, J, J, trivial⟩⟩
          · skip
            refine V 3 ?_
            refine sq_nil ?_
            have hgood : fgRow (w0 f) f[k] = true := fgRow_ok (by omega) (fun i h => hoj i h (by omega))
            have eA := any_take (q := hasH) (l := f) (k := k) (by omega)
            have eB : hasH f[k] = (f[k].take j).any (fun c => decide (c = 35)) := by unfold hasH; rw [List.take_of_length_le (by omega)]
            exact ⟨⟨k + 1, by omega, fun i h hi => (by by_cases e : i = k; (subst e; exact hgood); exact hok i h (by omega))⟩, by simp only; omega, Sub.slots ⟨(Less.eq (show B ((f.take k).any hasH || (f[k].take j).any fun c => decide (c = 35)) = _ by rw [eA, eB])), J, J, trivial⟩⟩
      · skip
        refine W 2 ?_
        exact retQ_pure (v := .raw _) rfl rfl (Less.eq (by rw [fg_end h1 h2 (fun i h => hok i h (by omega)), show k = f.length by omega, List.take_length]))
end Go.Proofs.YtmbknoaneglilaaGreatDoor
namespace Go.Proofs.YtmbknoaneglilaaGreatDoor
open Go Go.Ab Ni Ol
instance en23 : EnT Tryz.prog 23 := ⟨Ent.of Tryz.func23 (by kernel_rfl) rfl⟩
instance en24 : EnT Tryz.prog 24 := ⟨Ent.of Tryz.func24 (by kernel_rfl) rfl⟩
instance en25 : EnT Tryz.prog 25 := ⟨Ent.of Tryz.func25 (by kernel_rfl) rfl⟩
instance en26 : EnT Tryz.prog 26 := ⟨Ent.of Tryz.func26 (by kernel_rfl) rfl⟩
instance en29 : EnT Tryz.prog 29 := ⟨Ent.of Tryz.func29 (by kernel_rfl) rfl⟩
instance en37 : EnT Tryz.prog 37 := ⟨Ent.of Tryz.func37 (by kernel_rfl) rfl⟩
instance en41 : EnT Tryz.prog 41 := ⟨Ent.of Tryz.func41 (by kernel_rfl) rfl⟩
theorem allT_no {α : Type} {q : α → Bool} {l : List α} {n i : Nat} (hi : i < l.length) (hn : i < n) (h : q l[i] = false) : (l.take n).all q = false := by
  rw [List.all_eq_false]
  have hm : i < (l.take n).length := by rw [List.length_take]; omega
  exact ⟨(l.take n)[i], List.getElem_mem hm, by rw [List.getElem_take, h]; simp⟩
theorem allT_yes {α : Type} {q : α → Bool} {l : List α} {n : Nat} (h : ∀ i, (hi : i < l.length) → i < n → q l[i] = true) : (l.take n).all q = true := by
  rw [List.all_eq_true]
  intro x hx
  obtain ⟨i, hi, rfl⟩ := List.getElem_of_mem hx
  rw [List.length_take] at hi
  rw [List.getElem_take]; exact h i (by omega) (by omega)
def shortB (l : List (List UInt8)) : Bool := (l.take 20).all (fun r => decide (r.length ≤ 20)) && decide (l.length ≤ 18)
def wholeB (s : Sg) (c : List (List UInt8)) : Bool := siOK s c && decide (cnt 63 c = 0)
theorem short_pure (l : List (List UInt8)) : APure Tryz.prog 23 [strs l] (B (shortB l)) := by
  refine apure_of (rs := [.tmp 2]) Tryz.func23 rfl rfl (Nat.le_of_ble_eq_true rfl) (by simp [AV.pureL, AV.pureB, AV.pureE, pureE_map]) (by first | rfl | (simp [AV.pureL, AV.pureB, AV.pureE, pureE_map])) fun e0 he0 => ?_
  refine W 2 ?_
  refine aw_loopk (ι := { k : Nat // k ≤ l.length ∧ k ≤ 20 ∧ ∀ i, (h : i < l.length) → i < k → decide (l[i].length ≤ 20) = true }) [0] (fun g => [(3, I g.1)]) (fun H g => H) (fun g => 20 - g.1) (⟨0, Nat.zero_le _, by omega, by omega⟩) ⟨J, J, trivial⟩ rfl ?_
  rintro ⟨k, hk, hok⟩
  dsimp only [keepS, St.put, sget, slotsOf, nn1, nn2, nn3, nn4, nn5, nn6, Nat.reduceBEq, Nat.reduceAdd, nn7, nn8]
  refine W 5 ?_
  refine sq_split 8 J (fun g2_4 => ?_) (fun g2_4 => ?_)
  · skip
    have g2_4' := g2_4
    try simp only [qq] at g2_4'
    have hkL : k < l.length := by omega
    refine W 3 ?_
    refine aw_cond J (fun c_11 => ?_) (fun c_11 => ?_)
    · skip
      have c_11' := c_11
      try simp only [qq] at c_11'
      refine W 6 ?_
      refine iff (fun c_19 c_19' => ?_) (fun c_19 c_19' => ?_)
      · skip
        refine W 1 ?_
        exact retQ_pure (v := .raw _) rfl rfl (Less.eq (by rw [shortB, allT_no (i := k) (n := 20) hkL (by omega) (by simp only [decide_eq_false_iff_not]; omega)]; rfl))
      · skip
        refine V 3 ?_
        refine sq_nil ?_
        have hgood : decide (l[k].length ≤ 20) = true := by simp only [decide_eq_true_eq]; omega
        exact ⟨⟨k + 1, by omega, by omega, fun i h hi => (by by_cases e : i = k; (subst e; exact hgood); exact hok.2 i h (by omega))⟩, by simp only; omega, Sub.slots ⟨J, J, trivial⟩⟩
    · skip
      have c_11' := c_11
      try simp only [qq] at c_11'
      refine W 4 ?_
      exact retQ_pure (v := .raw _) rfl rfl (Less.eq (by rw [shortB, allT_yes (n := 20) (fun i h hi => hok.2 i h (by omega))]; simp; omega))
  · skip
    have g2_4' := g2_4
    try simp only [qq] at g2_4'
    refine W 8 ?_
    exact retQ_pure (v := .raw _) rfl rfl (Less.eq (by rw [shortB, allT_yes (n := 20) (fun i h hi => hok.2 i h (by omega))]; simp; omega))
theorem rsight_pure (s : Sg) (l : List (List UInt8)) (hs : shp l) : APure Tryz.prog 37 [stA s, strs l] (B (siOK s l)) := by
 refine apure_of (rs := [.tmp 4]) Tryz.func37 rfl rfl (Nat.le_of_ble_eq_true rfl) (by simp [AV.pureL, AV.pureB, AV.pureE, pureE_map]) (by first | rfl | (simp [AV.pureL, AV.pureB, AV.pureE, pureE_map])) fun e0 he0 => ?_
 refine W 7 ?_
 refine ifn (fun c_12 c_12' => ?_) (fun c_12 c_12' => ?_)
 ·
  refine W 1 ?_
  exact retQ_pure (v := .raw _) rfl rfl (Less.eq (by unfold siOK; rw [decide_eq_false c_12']; rfl))
 have hlen : (l.length : Int) = s.high := by omega
 refine W 1 ?_
 refine aw_loopk (ι := { m : Nat // m ≤ l.length ∧ ∀ i, (h : i < l.length) → i < m → siRow s.wide l[i] = true }) [1, 2] (fun g => [(5, I g.1)]) (fun H g => H) (fun g => l.length - g.1) (⟨0, Nat.zero_le _, by omega⟩) ⟨J, J, J, trivial⟩ rfl ?_
 rintro ⟨m, hm, hok⟩
 dsimp only [keepS, St.put, sget, slotsOf, nn1, nn2, nn3, nn4, nn5, nn6, Nat.reduceBEq, Nat.reduceAdd, nn7, nn8]
 have hs1 := hs.1
 refine W 4 ?_
 refine iff (fun c_16 c_16' => ?_) (fun c_16 c_16' => ?_)
 ·
  have hmL : m < l.length := by omega
  have hrl := hs.2 _ (List.getElem_mem hmL)
  refine W 0 ?_
  refine aw_draw 8 mo (by kernel_rfl) ?_
  refine WD 8 ?_
  refine W 0 ?_
  refine ifn (fun c_26 c_26' => ?_) (fun c_26 c_26' => ?_)
  ·
   refine W 1 ?_
   exact retQ_pure (v := .raw _) rfl rfl (Less.eq (by rw [siOK_bad hmL (by rw [siRow_eq, decide_eq_false (by simpa using c_26')]; rfl)]))
  refine W 1 ?_
  refine aw_loopk (ι := { k : Nat // k ≤ l[m].length ∧ ∀ i, (h : i < l[m].length) → i < k → sBad l[m][i] = false }) [1, 2, 5] (fun g => [(6, I g.1)]) (fun H g => H) (fun g => l[m].length - g.1) (⟨0, Nat.zero_le _, by omega⟩) ⟨J, J, J, J, trivial⟩ rfl ?_
  rintro ⟨k, hk, hok2⟩
  dsimp only [keepS, St.put, sget, slotsOf, nn1, nn2, nn3, nn4, nn5, nn6, Nat.reduceBEq, Nat.reduceAdd, nn7, nn8]
  refine W 7 ?_
  refine iff (fun c_33 c_33' => ?_) (fun c_33 c_33' => ?_)
  ·
   have hkL : k < l[m].length := by omega
   refine W 10 ?_
   refine sq_split 44 J (fun g12_2 => ?_) (fun g12_2 => ?_)
   ·
    have g12_2' := g12_2
    try simp only [qq] at g12_2'
    refine W 4 ?_
    refine sq_split 48 J (fun g12_6 => ?_) (fun g12_6 => ?_)
    ·
     have g12_6' := g12_6
     try simp only [qq] at g12_6'
     refine W 4 ?_
     refine sq_split 52 J (fun g12_10 => ?_) (fun g12_10 => ?_)
     ·
      have g12_10' := g12_10
      try simp only [qq] at g12_10'
      refine W 3 ?_
      refine aw_cond J (fun c_55 => ?_) (fun c_55 => ?_)
      ·
       have c_55' := c_55
       try simp only [qq] at c_55'
       refine W 1 ?_
       exact retQ_pure (v := .raw _) rfl rfl (Less.eq (by rw [siOK_bad hmL (by rw [siRow_eq, List.any_eq_true.2 ⟨_, List.getElem_mem hkL, by rw [sBad_eq]; simp only [dec35n, dec43n, dec46n, dec63n] at *; simp_all⟩]; simp)]))
      have c_55' := c_55
      try simp only [qq] at c_55'
      refine V 3 ?_
      refine sq_nil ?_
      have hgood2 : sBad l[m][k] = false := by rw [sBad_eq]; simp only [dec35n, dec43n, dec46n, dec63n] at *; simp_all
      exact ⟨⟨k + 1, by omega, fun i h hi => (by by_cases e : i = k; (subst e; exact hgood2); exact hok2 i h (by omega))⟩, by simp only; omega, Sub.slots ⟨J, J, J, J, trivial⟩⟩
     have g12_10' := g12_10
     try simp only [qq] at g12_10'
     refine V 7 ?_
     refine sq_nil ?_
     have hgood2 : sBad l[m][k] = false := by rw [sBad_eq]; simp only [dec35n, dec43n, dec46n, dec63n] at *; simp_all
     exact ⟨⟨k + 1, by omega, fun i h hi => (by by_cases e : i = k; (subst e; exact hgood2); exact hok2 i h (by omega))⟩, by simp only; omega, Sub.slots ⟨J, J, J, J, trivial⟩⟩
    have g12_6' := g12_6
    try simp only [qq] at g12_6'
    refine V 11 ?_
    refine sq_nil ?_
    have hgood2 : sBad l[m][k] = false := by rw [sBad_eq]; simp only [dec35n, dec43n, dec46n, dec63n] at *; simp_all
    exact ⟨⟨k + 1, by omega, fun i h hi => (by by_cases e : i = k; (subst e; exact hgood2); exact hok2 i h (by omega))⟩, by simp only; omega, Sub.slots ⟨J, J, J, J, trivial⟩⟩
   have g12_2' := g12_2
   try simp only [qq] at g12_2'
   refine V 15 ?_
   refine sq_nil ?_
   have hgood2 : sBad l[m][k] = false := by rw [sBad_eq]; simp only [dec35n, dec43n, dec46n, dec63n] at *; simp_all
   exact ⟨⟨k + 1, by omega, fun i h hi => (by by_cases e : i = k; (subst e; exact hgood2); exact hok2 i h (by omega))⟩, by simp only; omega, Sub.slots ⟨J, J, J, J, trivial⟩⟩
  refine V 3 ?_
  refine sq_nil ?_
  have hgood : siRow s.wide l[m] = true := by rw [siRow_eq, decide_eq_true (by simpa using c_26'), List.any_eq_false.2 (fun q hq => by obtain ⟨i, hi, rfl⟩ := List.getElem_of_mem hq; simp [hok2 i hi (by omega)])]; rfl
  exact ⟨⟨m + 1, by omega, fun i h hi => (by by_cases e : i = m; (subst e; exact hgood); exact hok i h (by omega))⟩, by simp only; omega, Sub.slots ⟨J, J, J, trivial⟩⟩
 refine W 1 ?_
 exact retQ_pure (v := .raw _) rfl rfl (Less.eq (by rw [siOK_end hlen (fun i hi => hok i hi (by omega))]))
end Go.Proofs.YtmbknoaneglilaaGreatDoor
namespace Go.Proofs.YtmbknoaneglilaaGreatDoor
open Go Go.Ab Ni Ol
def cntR (ch : UInt8) (r : List UInt8) (k : Nat) : Int := ((r.take k).count ch : Int)
theorem cntR_succ {ch : UInt8} {r : List UInt8} {k : Nat} (h : k < r.length) : cntR ch r (k + 1) = cntR ch r k + (if r[k] = ch then 1 else 0) := by
  unfold cntR; rw [List.take_succ_eq_append_getElem h, List.count_append]
  by_cases e : r[k] = ch
  · rw [if_pos e, e]; simp
  · rw [if_neg e]; simp [List.count_singleton, e]
theorem cntR_bd (ch : UInt8) (r : List UInt8) (k : Nat) : 0 ≤ cntR ch r k ∧ cntR ch r k ≤ k := by
  unfold cntR
  have h1 := List.count_le_length (a := ch) (l := r.take k)
  rw [List.length_take] at h1
  omega
theorem cntR_all (ch : UInt8) (r : List UInt8) : cntR ch r r.length = (r.count ch : Int) := by unfold cntR; rw [List.take_length]
theorem rcount_pure (l : List (List UInt8)) (ch : UInt8) (hl : l.length ≤ 1000) (hr : ∀ r ∈ l, r.length ≤ 1000) : APure Tryz.prog 41 [strs l, C ch] (I (cnt ch l)) := by
  refine apure_of (rs := [.tmp 4]) Tryz.func41 rfl rfl (Nat.le_of_ble_eq_true rfl) (by simp [AV.pureL, AV.pureB, AV.pureE, pureE_map]) (by first | rfl | (simp [AV.pureL, AV.pureB, AV.pureE, pureE_map])) fun e0 he0 => ?_
  refine W 3 ?_
  refine aw_loopk (ι := { m : Nat // m ≤ l.length }) [0, 1] (fun g => [(5, I (cnt ch (l.take g.1))), (6, I g.1)]) (fun H g => H) (fun g => l.length - g.1) (⟨0, Nat.zero_le _⟩) ⟨J, J, J, J, trivial⟩ rfl ?_
  rintro ⟨m, hm⟩
  dsimp only [keepS, St.put, sget, slotsOf, nn1, nn2, nn3, nn4, nn5, nn6, Nat.reduceBEq, Nat.reduceAdd, nn7, nn8]
  have hb := cnt_bd ch (l.take m) 1000 (fun r h => hr r (List.mem_of_mem_take h))
  have hb2 : ((l.take m).length : Int) * (1000 : Nat) ≤ 1000000 := by rw [List.length_take]; omega
  refine W 4 ?_
  refine iff (fun c_11 c_11' => ?_) (fun c_11 c_11' => ?_)
  · skip
    have hmL : m < l.length := by omega
    have hrl := hr _ (List.getElem_mem hmL)
    refine W 1 ?_
    refine aw_loopk (ι := { k : Nat // k ≤ l[m].length }) [0, 1, 6] (fun g => [(5, I (cnt ch (l.take m) + cntR ch l[m] g.1)), (7, I g.1)]) (fun H g => H) (fun g => l[m].length - g.1) (⟨0, Nat.zero_le _⟩) ⟨(by exact less_int (by simp [cntR])), J, J, J, J, trivial⟩ rfl ?_
    rintro ⟨k, hk⟩
    dsimp only [keepS, St.put, sget, slotsOf, nn1, nn2, nn3, nn4, nn5, nn6, Nat.reduceBEq, Nat.reduceAdd, nn7, nn8]
    have hbr := cntR_bd ch l[m] k
    refine W 7 ?_
    refine iff (fun c_20 c_20' => ?_) (fun c_20 c_20' => ?_)
    · skip
      have hkL : k < l[m].length := by omega
      refine W 8 ?_
      refine iff (fun c_30 c_30' => ?_) (fun c_30 c_30' => ?_)
      · skip
        have eR : cntR ch l[m] (k + 1) = cntR ch l[m] k + 1 := by rw [cntR_succ hkL, if_pos (UInt8.toNat_inj.1 (by omega))]
        refine W 6 ?_
        exact ⟨⟨k + 1, by omega⟩, by simp only; omega, Sub.slots ⟨(by exact less_int (by rw [eR]; omega)), J, J, J, J, trivial⟩⟩
      · skip
        have eR : cntR ch l[m] (k + 1) = cntR ch l[m] k + 0 := by rw [cntR_succ hkL, if_neg (fun h => c_30' (by rw [h]))]
        refine W 3 ?_
        exact ⟨⟨k + 1, by omega⟩, by simp only; omega, Sub.slots ⟨(by exact less_int (by rw [eR]; omega)), J, J, J, J, trivial⟩⟩
    · skip
      obtain rfl : k = l[m].length := by omega
      have eC : cnt ch (l.take m) + cntR ch l[m] l[m].length = cnt ch (l.take (m + 1)) := by rw [cntR_all, cnt_take hmL]
      refine W 3 ?_
      exact ⟨⟨m + 1, by omega⟩, by simp only; omega, Sub.slots ⟨(by exact less_int eC), J, J, J, trivial⟩⟩
  · skip
    obtain rfl : m = l.length := by omega
    refine W 2 ?_
    exact retQ_pure (v := .raw _) rfl rfl (Less.eq (by rw [List.take_length]))
theorem whole_pure (s : Sg) (c : List (List UInt8)) (hc : shp c) : APure Tryz.prog 29 [stA s, strs c] (B (wholeB s c)) := by
 refine apure_of (rs := [.tmp 4]) Tryz.func29 rfl rfl (Nat.le_of_ble_eq_true rfl) (by simp [AV.pureL, AV.pureB, AV.pureE, pureE_map]) (by first | rfl | (simp [AV.pureL, AV.pureB, AV.pureE, pureE_map])) fun e0 he0 => ?_
 refine W 4 ?_
 refine cl A (rsight_pure s c hc) ?_
 refine W 1 ?_
 refine sq_split 8 J (fun g1_3 => ?_) (fun g1_3 => ?_)
 ·
  have g1_3' := g1_3
  try simp only [qq] at g1_3'
  refine W 1 ?_
  refine cy A (rcount_pure c 63 hc.1 hc.2) ?_
  refine W 3 ?_
  exact retQ_pure (v := .raw _) rfl rfl (Less.eq (by unfold wholeB; simp [*]))
 have g1_3' := g1_3
 try simp only [qq] at g1_3'
 refine W 5 ?_
 exact retQ_pure (v := .raw _) rfl rfl (Less.eq (by unfold wholeB; simp [*]))
end Go.Proofs.YtmbknoaneglilaaGreatDoor
namespace Go.Proofs.YtmbknoaneglilaaGreatDoor
open Go Go.Ab Ni Ol
instance en27 : EnT Tryz.prog 27 := ⟨Ent.of Tryz.func27 (by kernel_rfl) rfl⟩
end Go.Proofs.YtmbknoaneglilaaGreatDoor
namespace Go.Proofs.YtmbknoaneglilaaGreatDoor
open Go Go.Ab Ni Ol
theorem clo_shp {s : Sg} {l : List (List UInt8)} (hs : stOK s = true) (h : Clo s l) : shp l := by
  have hb := stOK_iff.1 hs
  exact ⟨by rw [h.len]; omega, fun r hr => by rw [h.row r hr]; omega⟩
end Go.Proofs.YtmbknoaneglilaaGreatDoor
namespace Go.Proofs.YtmbknoaneglilaaGreatDoor
open Go Go.Ab Ni Ol
instance un4 : UnD Tryz.prog 4 .bool := ⟨by kernel_rfl⟩
end Go.Proofs.YtmbknoaneglilaaGreatDoor
namespace Go.Proofs.YtmbknoaneglilaaGreatDoor
open Go Go.Ab Ni Ol
theorem far_of {s : Sg} (h : (!stOK s) = false) : 2 ≤ s.far ∧ s.far ≤ 40 := by have := stOK_iff.1 (by simpa using h); omega
end Go.Proofs.YtmbknoaneglilaaGreatDoor
namespace Go.Proofs.YtmbknoaneglilaaGreatDoor
open Go Go.Ab Ni Ol
instance sf163 : SlS Tryz.prog 163 24 1 24 := ⟨SlFact.of (by kernel_rfl)⟩
instance sl163 : SlE Tryz.prog 163 24 1 := ⟨by kernel_rfl⟩
end Go.Proofs.YtmbknoaneglilaaGreatDoor
namespace Go.Proofs.YtmbknoaneglilaaGreatDoor
open Go Go.Ab Ni Ol
instance en84 : EnT Tryz.prog 84 := ⟨Ent.of Tryz.func84 (by kernel_rfl) rfl⟩
instance sl126 : SlE Tryz.prog 126 28 3 := ⟨by kernel_rfl⟩
def jca (s : Sg) (l : List Fg) (ps : List Pc) (i : Nat) : Ca := ⟨s, l.getD i [], ps.getD i ⟨0, 0, 0⟩⟩
def jsh (s : Sg) (l : List Fg) (ps : List Pc) (n : Nat) : List (List (List UInt8)) := (List.range n).map fun i => (jca s l ps i).shadow
def jhere (s : Sg) (l : List Fg) (ps : List Pc) (m k n : Nat) : List (List UInt8) := (List.range n).map fun i => [(jca s l ps i).cell (k : Int) (m : Int)]
def jcell (s : Sg) (l : List Fg) (ps : List Pc) (m k : Nat) : UInt8 := if 0 < cnt 35 (jhere s l ps m k l.length) then 35 else if 0 < cnt 43 (jhere s l ps m k l.length) then 43 else 46
def jrow (s : Sg) (l : List Fg) (ps : List Pc) (m k : Nat) : List UInt8 := (List.range k).map (jcell s l ps m)
def joined (s : Sg) (l : List Fg) (ps : List Pc) (h : Nat) : List (List UInt8) := (List.range h).map fun m => jrow s l ps m s.wide.toNat
def joOK (s : Sg) (l : List Fg) (ps : List Pc) : Bool := stOK s && (decide (l.length ≤ 6) && (decide (ps.length = l.length) && (List.range l.length).all fun i => caOK (jca s l ps i)))
theorem jsh_succ (s : Sg) (l : List Fg) (ps : List Pc) (n : Nat) : jsh s l ps (n + 1) = jsh s l ps n ++ [(jca s l ps n).shadow] := by unfold jsh; rw [List.range_succ, List.map_append]; rfl
theorem jsh_len (s : Sg) (l : List Fg) (ps : List Pc) (n : Nat) : (jsh s l ps n).length = n := by unfold jsh; simp
theorem jsh_get {s : Sg} {l : List Fg} {ps : List Pc} {n i : Nat} (h : i < (jsh s l ps n).length) : (jsh s l ps n)[i] = (jca s l ps i).shadow := (List.getElem_map (f := fun i => (jca s l ps i).shadow) (l := List.range n) (h := h)).trans (by rw [List.getElem_range])
theorem jhere_succ (s : Sg) (l : List Fg) (ps : List Pc) (m k n : Nat) : jhere s l ps m k (n + 1) = jhere s l ps m k n ++ [[(jca s l ps n).cell (k : Int) (m : Int)]] := by unfold jhere; rw [List.range_succ, List.map_append]; rfl
theorem jhere_len (s : Sg) (l : List Fg) (ps : List Pc) (m k n : Nat) : (jhere s l ps m k n).length = n := by unfold jhere; simp
theorem jhere_row {s : Sg} {l : List Fg} {ps : List Pc} {m k n : Nat} : ∀ r ∈ jhere s l ps m k n, r.length ≤ 1000 := fun r hr => by
  unfold jhere at hr; obtain ⟨i, _, rfl⟩ := List.mem_map.1 hr; simp
theorem jrow_succ (s : Sg) (l : List Fg) (ps : List Pc) (m k : Nat) : jrow s l ps m (k + 1) = jrow s l ps m k ++ [jcell s l ps m k] := by unfold jrow; rw [List.range_succ, List.map_append]; rfl
theorem jrow_len (s : Sg) (l : List Fg) (ps : List Pc) (m k : Nat) : (jrow s l ps m k).length = k := by unfold jrow; simp
theorem joined_succ (s : Sg) (l : List Fg) (ps : List Pc) (h : Nat) : joined s l ps (h + 1) = joined s l ps h ++ [jrow s l ps h s.wide.toNat] := by unfold joined; rw [List.range_succ, List.map_append]; rfl
theorem joined_len (s : Sg) (l : List Fg) (ps : List Pc) (h : Nat) : (joined s l ps h).length = h := by unfold joined; simp
theorem jca_get {s : Sg} {l : List Fg} {ps : List Pc} {i : Nat} (h1 : i < l.length) (h2 : i < ps.length) : jca s l ps i = ⟨s, l[i], ps[i]⟩ := by unfold jca; rw [getD_get h1, getD_get h2]
theorem jo_bad {s : Sg} {l : List Fg} {ps : List Pc} {i : Nat} (h : i < l.length) (hb : caOK (jca s l ps i) = false) : joOK s l ps = false := by
  unfold joOK
  rw [show ((List.range l.length).all fun i => caOK (jca s l ps i)) = false from List.all_eq_false.2 ⟨i, List.mem_range.2 h, by rw [hb]; simp⟩]
  simp
theorem jo_ok {s : Sg} {l : List Fg} {ps : List Pc} (h1 : stOK s = true) (h2 : l.length ≤ 6) (h3 : ps.length = l.length) (h4 : ∀ i, i < l.length → caOK (jca s l ps i) = true) : joOK s l ps = true := by
  unfold joOK
  rw [h1, decide_eq_true h2, decide_eq_true h3, show ((List.range l.length).all fun i => caOK (jca s l ps i)) = true from List.all_eq_true.2 fun i hi => h4 i (List.mem_range.1 hi)]; rfl
theorem shad_cut {c : Ca} {m k : Nat} (hm : m < c.shadow.length) (hk : k < c.s.wide.toNat) : (c.shadow[m].take (k + 1)).drop k = [c.cell (k : Int) (m : Int)] := by
  rw [shad_row hm]
  unfold Ca.srow
  rw [← List.map_take, ← List.map_drop, List.take_range, List.drop_eq_getElem_cons (by simp; omega)]
  simp [Nat.min_eq_left (show k + 1 ≤ c.s.wide.toNat by omega)]
theorem bb_in3 (n : Nat) : AV.inB 5 (bb 3 n) = true := by cases n <;> rfl
theorem bb_in36 (n : Nat) : AV.inB 6 (bb 3 n) = true := by cases n <;> rfl
theorem joined_pure (s : Sg) (l : List Fg) (ps : List Pc) (hp : ps.length ≤ 1000000) (hl : l.length ≤ 1000000) : APure Tryz.prog 84 [stA s, figs l, .sl 3 (ps.map pcC)] (.tup [strs (if joOK s l ps = true then joined s l ps s.high.toNat else []), I (er (joOK s l ps))]) := by
  refine apure_of (rs := [.tmp 6, .tmp 7]) Tryz.func84 rfl rfl (Nat.le_of_ble_eq_true rfl) (by simp [AV.pureL, AV.pureB, AV.pureE, pureE_map]) (by first | rfl | (simp [AV.pureL, AV.pureB, AV.pureE, pureE_map])) fun e0 he0 => ?_
  refine W 4 ?_
  refine cl A (isstage_pure s) ?_
  refine W 2 ?_
  refine sq_split 23 J (fun g1_3 => ?_) (fun g1_3 => ?_)
  · skip
    have g1_3' := g1_3
    try simp only [qq] at g1_3'
    have hjb : joOK s l ps = false := by unfold joOK; rw [g1_3']; rfl
    refine W 14 ?_
    exact retQ_pure (v := .tup [.raw _, .raw _]) rfl rfl (less_tup ⟨Less.trans (less_nil 1) (Less.eq (by rw [hjb]; rfl)), Less.eq (by rw [hjb]; rfl), trivial⟩)
  · skip
    have g1_3' := g1_3
    try simp only [qq] at g1_3'
    refine W 5 ?_
    refine sq_split 28 J (fun g1_8 => ?_) (fun g1_8 => ?_)
    · skip
      have g1_8' := g1_8
      try simp only [qq] at g1_8'
      have hjb : joOK s l ps = false := by unfold joOK; rw [decide_eq_false (show ¬ l.length ≤ 6 by omega)]; simp
      refine W 9 ?_
      exact retQ_pure (v := .tup [.raw _, .raw _]) rfl rfl (less_tup ⟨Less.trans (less_nil 1) (Less.eq (by rw [hjb]; rfl)), Less.eq (by rw [hjb]; rfl), trivial⟩)
    · skip
      have g1_8' := g1_8
      try simp only [qq] at g1_8'
      refine W 6 ?_
      refine aw_cond J (fun c_34 => ?_) (fun c_34 => ?_)
      · skip
        have c_34' := c_34
        try simp only [qq] at c_34'
        have hjb : joOK s l ps = false := by unfold joOK; rw [decide_eq_false (show ¬ ps.length = l.length by omega)]; simp
        refine W 2 ?_
        exact retQ_pure (v := .tup [.raw _, .raw _]) rfl rfl (less_tup ⟨Less.trans (less_nil 1) (Less.eq (by rw [hjb]; rfl)), Less.eq (by rw [hjb]; rfl), trivial⟩)
      · skip
        have c_34' := c_34
        try simp only [qq] at c_34'
        have hst : stOK s = true := by simp_all
        have hl6 : l.length ≤ 6 := by omega
        have hps : ps.length = l.length := by omega
        obtain ⟨s1, s2, s3, s4, s5, s6⟩ := stOK_iff.1 hst
        refine V 4 ?_
        refine sq_nil (aw_block ?_)
        refine aw_sub (sub_token 8 1 J) ?_
        refine aw_loopk (ι := { i : Nat // i ≤ l.length ∧ ∀ q, q < i → caOK (jca s l ps q) = true }) [2, 3, 35, 36] (fun g => [(8, .own 1 1 ((jsh s l ps g.1).map fun sh => [strs sh])), (37, I g.1)]) (fun H g => H.set 1 (.tok ((jsh s l ps g.1).map fun sh => [strs sh]).length)) (fun g => l.length - g.1) (⟨0, Nat.zero_le _, by omega⟩) ⟨J, J, J, J, J, J, trivial⟩ rfl ?_
        rintro ⟨i, hi, hok⟩
        dsimp only [keepS, St.put, sget, slotsOf, nn1, nn2, nn3, nn4, nn5, nn6, Nat.reduceBEq, Nat.reduceAdd, nn7, nn8]
        have hjl := jsh_len s l ps i
        refine W 1 ?_
        refine iff (fun c_38 c_38' => ?_) (fun c_38 c_38' => ?_)
        · skip
          have hiL : i < l.length := by omega
          have hip : i < ps.length := by omega
          have ej := jca_get (s := s) hiL hip
          have k97 : APure Tryz.prog 97 [stA s, fgA l[i], pcA ps[i]] (.tup [caA (jca s l ps i), B (caOK (jca s l ps i))]) := by rw [ej]; exact casting_pure ⟨s, l[i], ps[i]⟩
          refine W 6 ?_
          refine aw_drawc [10] [11] _ mo (by kernel_rfl) (HSub.refl _) ?_
          first | refine dc_ev rfl (ev_load_agg J rfl ty23.h rfl) ?_ | refine dc_ev rfl (ev_load_agg_i J ty23.h (by exact Nat.le_of_ble_eq_true rfl)) ?_
          first | refine dc_ev rfl (ev_load_agg J rfl ty26.h rfl) ?_ | refine dc_ev rfl (ev_load_agg_i J ty26.h (by exact Nat.le_of_ble_eq_true rfl)) ?_
          first | refine dc_ev rfl (ev_mv (v := .sl _ _) J) ?_ | refine dc_ev rfl (ev_mv (v := .own _ _ _) J) ?_ | refine dc_ev rfl (ev_mv (v := .raw _) J) ?_ | refine dc_ev rfl (ev_mv (v := .slx _ _) J) ?_ | refine dc_ev rfl (ev_mv (v := .msl _ _ _ _) J) ?_
          refine dc_ev rfl (ev_mv (v := .raw _) J) ?_
          first | refine dc_ev rfl (ev_index_map sl126.h J J rfl (by omega)) ?_ | refine dc_ev rfl (ev_index sl126.h J J rfl rfl) ?_
          first | refine dc_ev rfl (ev_load_agg J rfl ty28.h rfl) ?_ | refine dc_ev rfl (ev_load_agg_i J ty28.h (by exact Nat.le_of_ble_eq_true rfl)) ?_
          refine dc_ev rfl (ev_call en97.h J (k97) ⟨J, J, J, trivial⟩) ?_
          refine dc_ev rfl (ev_mv (v := .tup _) J) ?_
          refine dc_ev rfl (ev_extract J rfl) ?_
          refine dc_ev rfl (ev_extract J rfl) ?_
          refine dc_alloc rfl rfl z139.h ?_
          refine dc_eff rfl rfl (eff_store rfl J J rfl rfl ty139.h rfl rfl) (by apply HL.sub; repeat' (first | exact HL.nil _ | apply HL.same | apply HL.tok)) ?_
          refine dc_ev rfl (ev_as (v := .raw _) J) ?_
          refine dc_nil ?_
          refine W 2 ?_
          refine aw_cond J (fun c_53 => ?_) (fun c_53 => ?_)
          · skip
            have c_53' := c_53
            try simp only [qq] at c_53'
            have hno : caOK (jca s l ps i) = false := by simpa using c_53
            have hjb := jo_bad hiL hno
            refine W 2 ?_
            exact retQ_pure (v := .tup [.raw _, .raw _]) rfl rfl (less_tup ⟨Less.trans (less_nil 1) (Less.eq (by rw [hjb]; rfl)), Less.eq (by rw [hjb]; rfl), trivial⟩)
          · skip
            have c_53' := c_53
            try simp only [qq] at c_53'
            have hca : caOK (jca s l ps i) = true := by simpa using c_53
            have hcB := caOK_B hca
            have eS : (jsh s l ps (i + 1)).map (fun sh => [strs sh]) = (jsh s l ps i).map (fun sh => [strs sh]) ++ [[strs (jca s l ps i).shadow]] := by rw [jsh_succ, List.map_append]; rfl
            refine W 2 ?_
            refine cl A (shadow_pure hcB) ?_
            refine sq_ev rfl (ev_buildSlice (es := [[_]]) sf163.h rfl rfl rfl rfl) ?_
            first | refine sq_append rfl sf163.h Tryz.underlying163 rfl rfl J (Nat.succ_pos _) (by simp; omega) (by simp; omega) ?_ | refine sq_append rfl sf163.h Tryz.underlying163 rfl rfl (less_slx _ _) (Nat.succ_pos _) (by simp; omega) (by simp; omega) ?_
            refine W 3 ?_
            exact ⟨⟨i + 1, by omega, fun q hq => (by by_cases e : q = i; (subst e; exact hca); exact hok q (by omega))⟩, by simp only; omega, Sub.fin 2 ⟨Less.eq (b := .own 1 1 ((jsh s l ps (i + 1)).map fun sh => [strs sh])) (by rw [eS] <;> rfl), J, J, J, J, J, trivial⟩ (congrArg (fun n => [_, AObj.tok n]) (congrArg List.length eS.symm)) (by simp [slotsIn, objsIn, sget, keepS, AObj.inB, AV.inB, AV.inL, AV.inE, inE_map, bb_in3, bb_in36, inE_ints, inE_strs, inE_figs, inE_cloths, -List.map_append, -List.map_take, -List.map_map]) (by simp [slotsIn, objsIn, sget, keepS, AObj.inB, AV.inB, AV.inL, AV.inE, inE_map, bb_in3, bb_in36, inE_ints, inE_strs, inE_figs, inE_cloths, -List.map_append, -List.map_take, -List.map_map]) (by simp [he0])⟩
        · skip
          obtain rfl : i = l.length := by omega
          have hjo := jo_ok hst hl6 hps hok
          refine V 4 ?_
          refine sq_nil (aw_block ?_)
          refine aw_sub (sub_token 13 1 J) ?_
          refine aw_loopk (ι := { m : Nat // m ≤ s.high.toNat }) [3, 8, 61] (fun g => [(13, .own 2 1 ((joined s l ps g.1).map fun x => [S x])), (62, I g.1)]) (fun H g => H.set 2 (.tok ((joined s l ps g.1).map fun x => [S x]).length)) (fun g => s.high.toNat - g.1) (⟨0, Nat.zero_le _⟩) ⟨J, J, J, J, J, trivial⟩ rfl ?_
          rintro ⟨m, hm⟩
          dsimp only [keepS, St.put, sget, slotsOf, nn1, nn2, nn3, nn4, nn5, nn6, Nat.reduceBEq, Nat.reduceAdd, nn7, nn8]
          have hjq := joined_len s l ps m
          refine W 1 ?_
          refine iff (fun c_63 c_63' => ?_) (fun c_63 c_63' => ?_)
          · skip
            have hmL : m < s.high.toNat := by omega
            have eO : (joined s l ps (m + 1)).map (fun x => [S x]) = (joined s l ps m).map (fun x => [S x]) ++ [[S (jrow s l ps m s.wide.toNat)]] := by rw [joined_succ, List.map_append]; rfl
            refine W 2 ?_
            refine sq_alloc_t rfl z191.h ?_
            refine V 3 ?_
            refine sq_nil (aw_block ?_)
            refine aw_sub (sub_bld (k := 3) (bt := 191) (et := 5) (a := .raw (.pointer none)) rfl) ?_
            dsimp only [keepS, St.put, sget, slotsOf, nn1, nn2, nn3, nn4, nn5, nn6, Nat.reduceBEq, Nat.reduceAdd, nn7, nn8]
            refine aw_loopk (ι := { k : Nat // k ≤ s.wide.toNat }) [3, 8, 13, 14, 15, 61, 62, 66] (fun g => [(67, I g.1)]) (fun H g => (H.set 3 (.tcells 191 [bb 3 g.1, .ownb 4 1 5 (bys (jrow s l ps m g.1))])).set 4 (.tok (jrow s l ps m g.1).length)) (fun g => s.wide.toNat - g.1) (⟨0, Nat.zero_le _⟩) ⟨J, J, J, J, J, J, J, J, J, trivial⟩ rfl ?_
            rintro ⟨k, hk⟩
            dsimp only [keepS, St.put, sget, slotsOf, nn1, nn2, nn3, nn4, nn5, nn6, Nat.reduceBEq, Nat.reduceAdd, nn7, nn8]
            have hjr := jrow_len s l ps m k
            refine W 1 ?_
            refine iff (fun c_68 c_68' => ?_) (fun c_68 c_68' => ?_)
            · skip
              have hkL : k < s.wide.toNat := by omega
              refine V 6 ?_
              refine sq_nil (aw_block ?_)
              refine aw_sub (sub_token 17 1 J) ?_
              refine aw_loopk (ι := { q : Nat // q ≤ l.length }) [3, 8, 13, 14, 15, 16, 61, 62, 66, 67, 70, 71] (fun g => [(17, .own 5 1 ((jhere s l ps m k g.1).map fun x => [S x])), (72, I g.1)]) (fun H g => H.set 5 (.tok ((jhere s l ps m k g.1).map fun x => [S x]).length)) (fun g => l.length - g.1) (⟨0, Nat.zero_le _⟩) ⟨J, J, J, J, J, J, J, J, J, J, J, J, J, J, trivial⟩ rfl ?_
              rintro ⟨q, hq⟩
              dsimp only [keepS, St.put, sget, slotsOf, nn1, nn2, nn3, nn4, nn5, nn6, Nat.reduceBEq, Nat.reduceAdd, nn7, nn8]
              have hjh := jhere_len s l ps m k q
              refine W 1 ?_
              refine iff (fun c_73 c_73' => ?_) (fun c_73 c_73' => ?_)
              · skip
                have hqL : q < l.length := by omega
                have hqJ : q < (jsh s l ps l.length).length := by rw [jsh_len]; exact hqL
                have hsm : m < (jca s l ps q).shadow.length := by rw [shad_len]; exact hmL
                have eH : (jhere s l ps m k (q + 1)).map (fun x => [S x]) = (jhere s l ps m k q).map (fun x => [S x]) ++ [[S [(jca s l ps q).cell (k : Int) (m : Int)]]] := by rw [jhere_succ, List.map_append]; rfl
                refine W 0 ?_
                refine sq_ev rfl (ev_index_map (k := q) sl163.h (less_own _ _ _) J rfl hqJ) ?_
                refine sq_ev rfl (ev_less (ev_load_i J ty24.h rfl) (Less.eq (b := strs (jca s l ps q).shadow) (by rw [jsh_get hqJ]))) ?_
                refine W 9 ?_
                refine sq_ev rfl (ev_less (ev_cutBoth Tryz.underlying9 J J (hi := k + 1) (by exact less_int (by simp)) (by omega) (by rw [shad_row hsm, srow_len]; exact hkL)) (Less.eq (by rw [shad_cut hsm hkL]))) ?_
                refine sq_ev rfl (ev_buildSlice (es := [[_]]) sf24.h rfl rfl rfl rfl) ?_
                first | refine sq_append rfl sf24.h Tryz.underlying24 rfl rfl J (Nat.succ_pos _) (by simp; omega) (by simp; omega) ?_ | refine sq_append rfl sf24.h Tryz.underlying24 rfl rfl (less_slx _ _) (Nat.succ_pos _) (by simp; omega) (by simp; omega) ?_
                refine W 3 ?_
                exact ⟨⟨q + 1, by omega⟩, by simp only; omega, Sub.fin 6 ⟨Less.eq (b := .own 5 1 ((jhere s l ps m k (q + 1)).map fun x => [S x])) (by rw [eH] <;> rfl), J, J, J, J, J, J, J, J, J, J, J, J, J, trivial⟩ (congrArg (fun n => [_, _, _, _, _, AObj.tok n]) (congrArg List.length eH.symm)) (by simp [slotsIn, objsIn, sget, keepS, AObj.inB, AV.inB, AV.inL, AV.inE, inE_map, bb_in3, bb_in36, inE_ints, inE_strs, inE_figs, inE_cloths, -List.map_append, -List.map_take, -List.map_map]) (by simp [slotsIn, objsIn, sget, keepS, AObj.inB, AV.inB, AV.inL, AV.inE, inE_map, bb_in3, bb_in36, inE_ints, inE_strs, inE_figs, inE_cloths, -List.map_append, -List.map_take, -List.map_map]) (by simp [he0])⟩
              · skip
                obtain rfl : q = l.length := by omega
                refine W 0 ?_
                refine sq_ev rfl (ev_less (ev_mv (v := .own _ _ _) J) (less_own _ _ _)) ?_
                refine cl A (count_pure 35 (jhere s l ps m k l.length) (by rw [jhere_len]; omega) jhere_row) ?_
                refine W 2 ?_
                refine aw_cond J (fun c_89 => ?_) (fun c_89 => ?_)
                · skip
                  have c_89' := c_89
                  try simp only [qq] at c_89'
                  have eW : jrow s l ps m (k + 1) = jrow s l ps m k ++ [35] := by rw [jrow_succ, show jcell s l ps m k = 35 from by unfold jcell; rw [if_pos c_89']]
                  refine W 0 ?_
                  refine sq_call (args := [.ptr 3 0, C 35]) rfl en144.h J ⟨J, J, trivial⟩ (writebyte_call (k := 3) (j := 4) (l := jrow s l ps m k) (c := 35) (bb_or 3 k) rfl rfl (by rw [jrow_len]; omega)) ?_ (by rintro v H' ⟨h, _⟩; cases h)
                  rintro _ _ ⟨h, rfl⟩
                  cases h
                  refine W 2 ?_
                  exact ⟨⟨k + 1, by omega⟩, by simp only; omega, Sub.fin 5 ⟨J, J, J, J, J, J, J, J, J, trivial⟩ (congrArg (fun l => [_, _, _, AObj.tcells 191 [.ptr 3 0, .ownb 4 1 5 (bys l)], .tok l.length]) eW.symm) (by simp [slotsIn, objsIn, sget, keepS, AObj.inB, AV.inB, AV.inL, AV.inE, inE_map, bb_in3, bb_in36, inE_ints, inE_strs, inE_figs, inE_cloths, -List.map_append, -List.map_take, -List.map_map]) (by simp [slotsIn, objsIn, sget, keepS, AObj.inB, AV.inB, AV.inL, AV.inE, inE_map, bb_in3, bb_in36, inE_ints, inE_strs, inE_figs, inE_cloths, -List.map_append, -List.map_take, -List.map_map]) (by simp [he0])⟩
                · skip
                  have c_89' := c_89
                  try simp only [qq] at c_89'
                  refine W 0 ?_
                  refine sq_ev rfl (ev_less (ev_mv (v := .own _ _ _) J) (less_own _ _ _)) ?_
                  refine cl A (count_pure 43 (jhere s l ps m k l.length) (by rw [jhere_len]; omega) jhere_row) ?_
                  refine W 2 ?_
                  refine aw_cond J (fun c_94 => ?_) (fun c_94 => ?_)
                  · skip
                    have c_94' := c_94
                    try simp only [qq] at c_94'
                    have eW : jrow s l ps m (k + 1) = jrow s l ps m k ++ [43] := by rw [jrow_succ, show jcell s l ps m k = 43 from by unfold jcell; rw [if_neg (by omega), if_pos c_94']]
                    refine W 0 ?_
                    refine sq_call (args := [.ptr 3 0, C 43]) rfl en144.h J ⟨J, J, trivial⟩ (writebyte_call (k := 3) (j := 4) (l := jrow s l ps m k) (c := 43) (bb_or 3 k) rfl rfl (by rw [jrow_len]; omega)) ?_ (by rintro v H' ⟨h, _⟩; cases h)
                    rintro _ _ ⟨h, rfl⟩
                    cases h
                    refine W 2 ?_
                    exact ⟨⟨k + 1, by omega⟩, by simp only; omega, Sub.fin 5 ⟨J, J, J, J, J, J, J, J, J, trivial⟩ (congrArg (fun l => [_, _, _, AObj.tcells 191 [.ptr 3 0, .ownb 4 1 5 (bys l)], .tok l.length]) eW.symm) (by simp [slotsIn, objsIn, sget, keepS, AObj.inB, AV.inB, AV.inL, AV.inE, inE_map, bb_in3, bb_in36, inE_ints, inE_strs, inE_figs, inE_cloths, -List.map_append, -List.map_take, -List.map_map]) (by simp [slotsIn, objsIn, sget, keepS, AObj.inB, AV.inB, AV.inL, AV.inE, inE_map, bb_in3, bb_in36, inE_ints, inE_strs, inE_figs, inE_cloths, -List.map_append, -List.map_take, -List.map_map]) (by simp [he0])⟩
                  · skip
                    have c_94' := c_94
                    try simp only [qq] at c_94'
                    have eW : jrow s l ps m (k + 1) = jrow s l ps m k ++ [46] := by rw [jrow_succ, show jcell s l ps m k = 46 from by unfold jcell; rw [if_neg (by omega), if_neg (by omega)]]
                    refine W 0 ?_
                    refine sq_call (args := [.ptr 3 0, C 46]) rfl en144.h J ⟨J, J, trivial⟩ (writebyte_call (k := 3) (j := 4) (l := jrow s l ps m k) (c := 46) (bb_or 3 k) rfl rfl (by rw [jrow_len]; omega)) ?_ (by rintro v H' ⟨h, _⟩; cases h)
                    rintro _ _ ⟨h, rfl⟩
                    cases h
                    refine W 2 ?_
                    exact ⟨⟨k + 1, by omega⟩, by simp only; omega, Sub.fin 5 ⟨J, J, J, J, J, J, J, J, J, trivial⟩ (congrArg (fun l => [_, _, _, AObj.tcells 191 [.ptr 3 0, .ownb 4 1 5 (bys l)], .tok l.length]) eW.symm) (by simp [slotsIn, objsIn, sget, keepS, AObj.inB, AV.inB, AV.inL, AV.inE, inE_map, bb_in3, bb_in36, inE_ints, inE_strs, inE_figs, inE_cloths, -List.map_append, -List.map_take, -List.map_map]) (by simp [slotsIn, objsIn, sget, keepS, AObj.inB, AV.inB, AV.inL, AV.inE, inE_map, bb_in3, bb_in36, inE_ints, inE_strs, inE_figs, inE_cloths, -List.map_append, -List.map_take, -List.map_map]) (by simp [he0])⟩
            · skip
              obtain rfl : k = s.wide.toNat := by omega
              refine W 1 ?_
              refine sq_call (args := [.ptr 3 0]) rfl en145.h J ⟨J, trivial⟩ (bstring_call (k := 3) (j := 4) (l := jrow s l ps m s.wide.toNat) rfl rfl (by intro h; have := congrArg List.length h; rw [jrow_len] at this; simp at this; omega) (by rw [jrow_len]; omega)) ?_ (by rintro v H' ⟨h, _⟩; cases h)
              rintro _ _ ⟨h, rfl⟩
              cases h
              refine sq_ev rfl (ev_buildSlice (es := [[_]]) sf24.h rfl rfl rfl rfl) ?_
              first | refine sq_append rfl sf24.h Tryz.underlying24 rfl rfl J (Nat.succ_pos _) (by simp; omega) (by simp; omega) ?_ | refine sq_append rfl sf24.h Tryz.underlying24 rfl rfl (less_slx _ _) (Nat.succ_pos _) (by simp; omega) (by simp; omega) ?_
              refine W 3 ?_
              exact ⟨⟨m + 1, by omega⟩, by simp only; omega, Sub.fin 3 ⟨Less.eq (b := .own 2 1 ((joined s l ps (m + 1)).map fun x => [S x])) (by rw [eO] <;> rfl), J, J, J, J, trivial⟩ (congrArg (fun n => [_, _, AObj.tok n]) (congrArg List.length eO.symm)) (by simp [slotsIn, objsIn, sget, keepS, AObj.inB, AV.inB, AV.inL, AV.inE, inE_map, bb_in3, bb_in36, inE_ints, inE_strs, inE_figs, inE_cloths, -List.map_append, -List.map_take, -List.map_map]) (by simp [slotsIn, objsIn, sget, keepS, AObj.inB, AV.inB, AV.inL, AV.inE, inE_map, bb_in3, bb_in36, inE_ints, inE_strs, inE_figs, inE_cloths, -List.map_append, -List.map_take, -List.map_map]) (by simp [he0])⟩
          · skip
            obtain rfl : m = s.high.toNat := by omega
            refine W 3 ?_
            exact retQ_pure (v := .tup [.own _ _ _, .raw _]) rfl rfl (less_tup ⟨Less.trans (less_own _ _ _) (Less.eq (by rw [if_pos hjo])), Less.eq (by rw [hjo]; rfl), trivial⟩)
end Go.Proofs.YtmbknoaneglilaaGreatDoor
namespace Ol
open Ni (inn)
open Go.Proofs.YtmbknoaneglilaaGreatDoor (jcell jhere joined)
def ct (h w : Nat) (q : Nat → Nat → Bool) : Int := ((List.range h).map fun m => ((List.range w).countP (q m) : Int)).sum
theorem sum_add {α : Type} {f g p q : α → Int} : ∀ (l : List α), (∀ x ∈ l, f x + g x = p x + q x) → (l.map f).sum + (l.map g).sum = (l.map p).sum + (l.map q).sum
  | [], _ => rfl
  | x :: l, h => by
    have h1 := h x (by simp)
    have h2 := sum_add l fun y hy => h y (List.mem_cons_of_mem _ hy)
    simp only [List.map_cons, List.sum_cons]; omega
theorem countP_oa {α : Type} (q r : α → Bool) : ∀ l : List α, l.countP (fun x => q x || r x) + l.countP (fun x => q x && r x) = l.countP q + l.countP r
  | [] => rfl
  | x :: l => by
    have := countP_oa q r l
    simp only [List.countP_cons]
    cases q x <;> cases r x <;> simp <;> omega
theorem ct_oa (h w : Nat) (q r : Nat → Nat → Bool) : ct h w (fun m k => q m k || r m k) + ct h w (fun m k => q m k && r m k) = ct h w q + ct h w r :=
  sum_add _ fun m _ => by have := countP_oa (q m) (r m) (List.range w); dsimp only; omega
theorem ct_congr {h w : Nat} {q r : Nat → Nat → Bool} (e : ∀ m k, m < h → k < w → q m k = r m k) : ct h w q = ct h w r := by
  unfold ct
  congr 1
  refine List.map_congr_left fun m hm => ?_
  rw [List.countP_congr (p := q m) (q := r m) fun k hk => by rw [e m k (List.mem_range.1 hm) (List.mem_range.1 hk)]]
theorem sum_nn : ∀ (l : List Int), (∀ x ∈ l, 0 ≤ x) → 0 ≤ l.sum ∧ (0 < l.sum ↔ ∃ x ∈ l, 0 < x)
  | [], _ => by simp
  | x :: l, h => by
    obtain ⟨h1, h2⟩ := sum_nn l fun y hy => h y (List.mem_cons_of_mem _ hy)
    have h0 := h x (by simp)
    rw [List.sum_cons]
    refine ⟨by omega, ?_⟩
    constructor
    · intro k
      by_cases e : 0 < x
      · exact ⟨x, by simp, e⟩
      · obtain ⟨y, hy, k2⟩ := h2.1 (by omega); exact ⟨y, List.mem_cons_of_mem _ hy, k2⟩
    · rintro ⟨y, hy, k⟩
      rcases List.mem_cons.1 hy with rfl | hy
      · omega
      · have := h2.2 ⟨y, hy, k⟩; omega
theorem ct_nn (h w : Nat) (q : Nat → Nat → Bool) : 0 ≤ ct h w q := (sum_nn _ fun x hx => by obtain ⟨m, _, rfl⟩ := List.mem_map.1 hx; omega).1
theorem ct_pos {h w : Nat} {q : Nat → Nat → Bool} : 0 < ct h w q ↔ ∃ m k, m < h ∧ k < w ∧ q m k = true := by
  unfold ct
  rw [(sum_nn _ fun x hx => by obtain ⟨m, _, rfl⟩ := List.mem_map.1 hx; omega).2]
  constructor
  · rintro ⟨x, hx, h0⟩
    obtain ⟨m, hm, rfl⟩ := List.mem_map.1 hx
    obtain ⟨k, hk, e⟩ := List.countP_pos_iff.1 (show 0 < (List.range w).countP (q m) by omega)
    exact ⟨m, k, List.mem_range.1 hm, List.mem_range.1 hk, e⟩
  · rintro ⟨m, k, hm, hk, e⟩
    refine ⟨_, List.mem_map.2 ⟨m, List.mem_range.2 hm, rfl⟩, ?_⟩
    have : 0 < (List.range w).countP (q m) := List.countP_pos_iff.2 ⟨k, List.mem_range.2 hk, e⟩
    omega
theorem sum_le {n : Int} : ∀ (l : List Int), (∀ x ∈ l, x ≤ n) → l.sum ≤ l.length * n
  | [], _ => by simp
  | x :: l, h => by
    have h1 := sum_le l fun y hy => h y (List.mem_cons_of_mem _ hy)
    have h0 := h x (by simp)
    rw [List.sum_cons, List.length_cons, show (((l.length + 1 : Nat)) : Int) * n = l.length * n + n by rw [Int.natCast_add, Int.add_mul]; simp]
    omega
theorem ct_le (h w : Nat) (q : Nat → Nat → Bool) : ct h w q ≤ (h : Int) * w := by
  have := sum_le (n := w) ((List.range h).map fun m => ((List.range w).countP (q m) : Int)) fun x hx => by
    obtain ⟨m, _, rfl⟩ := List.mem_map.1 hx
    have := List.countP_le_length (p := q m) (l := List.range w)
    rw [List.length_range] at this; omega
  rw [List.length_map, List.length_range] at this
  exact this
theorem ct_cnt (ch : UInt8) (h w : Nat) (f : Nat → Nat → UInt8) : cnt ch ((List.range h).map fun m => (List.range w).map (f m)) = ct h w fun m k => decide (f m k = ch) := by
  unfold cnt ct
  rw [List.map_map]
  congr 1
  refine List.map_congr_left fun m _ => ?_
  simp only [Function.comp]
  rw [List.count_eq_countP, List.countP_map]
  congr 1
structure Meet2 (h w : Nat) (dark grey more pale all jg cells : Int) (one two own : Int) : Prop where
  nn : 0 ≤ dark ∧ 0 ≤ grey ∧ 0 ≤ more ∧ 0 ≤ pale
  le : dark + grey ≤ cells ∧ more + pale ≤ cells
  sym : one = two
  own3 : own = 3 ↔ 0 < dark
  own1 : own = 1 ↔ dark + grey = 0
  all1 : all ≤ dark + more ∧ dark ≤ all ∧ more ≤ all
  all2 : one = 3 ↔ all < dark + more
  gr : one = 1 → jg = grey + pale
theorem any_mall {c d : Ca} {q : Pr → Bool} : (mall c d c.s.high.toNat).any q = true ↔ ∃ m k : Nat, m < c.s.high.toNat ∧ k < c.s.wide.toNat ∧ q (c.cell k m, d.cell k m) = true := by
  unfold mall mrow
  rw [List.any_eq_true]
  constructor
  · rintro ⟨x, hx, e⟩
    obtain ⟨m, hm, hx⟩ := List.mem_flatMap.1 hx
    obtain ⟨k, hk, rfl⟩ := List.mem_map.1 hx
    exact ⟨m, k, List.mem_range.1 hm, List.mem_range.1 hk, e⟩
  · rintro ⟨m, k, hm, hk, e⟩
    exact ⟨_, List.mem_flatMap.2 ⟨m, List.mem_range.2 hm, List.mem_map.2 ⟨k, List.mem_range.2 hk, rfl⟩⟩, e⟩
theorem meC3 {c d : Ca} : meetsC c d = 3 ↔ ∃ m k : Nat, m < c.s.high.toNat ∧ k < c.s.wide.toNat ∧ c.cell k m = 35 ∧ d.cell k m = 35 := by
  have h1 := any_mall (c := c) (d := d) (q := dd)
  simp only [dd, Bool.and_eq_true, decide_eq_true_eq] at h1
  rw [← h1]
  unfold meetsC meetsP
  split
  · rename_i h; exact ⟨fun _ => h, fun _ => rfl⟩
  · rename_i h
    split
    · exact ⟨fun e => absurd e (by decide), fun e => absurd e h⟩
    · exact ⟨fun e => absurd e (by decide), fun e => absurd e h⟩
theorem meC1 {c d : Ca} : meetsC c d = 1 ↔ ∀ m k : Nat, m < c.s.high.toNat → k < c.s.wide.toNat → c.cell k m = 46 ∨ d.cell k m = 46 := by
  have h2 := any_mall (c := c) (d := d) (q := nl)
  have h1 := any_mall (c := c) (d := d) (q := dd)
  unfold meetsC meetsP
  constructor
  · intro e m k hm hk
    split at e
    · cases e
    · split at e
      · cases e
      · rename_i hn
        rw [h2] at hn
        by_cases e1 : c.cell k m = 46
        · exact .inl e1
        · by_cases e2 : d.cell k m = 46
          · exact .inr e2
          · exact absurd ⟨m, k, hm, hk, by simp [nl, e1, e2]⟩ hn
  · intro h
    rw [if_neg (by
      rw [h1]; rintro ⟨m, k, hm, hk, e⟩
      simp only [dd, Bool.and_eq_true, decide_eq_true_eq] at e
      rcases h m k hm hk with h | h
      · rw [e.1] at h; cases h
      · rw [e.2] at h; cases h), if_neg (by
      rw [h2]; rintro ⟨m, k, hm, hk, e⟩
      simp only [nl, Bool.and_eq_true, Bool.not_eq_true', decide_eq_false_iff_not] at e
      rcases h m k hm hk with h | h
      · exact e.1 h
      · exact e.2 h)]
theorem meetsC_vals (c d : Ca) : meetsC c d = 1 ∨ meetsC c d = 2 ∨ meetsC c d = 3 := by
  unfold meetsC meetsP
  split
  · simp
  · split <;> simp
theorem meetsC_comm {c d : Ca} (e : c.s = d.s) : meetsC c d = meetsC d c := by
  have a3 := meC3 (c := c) (d := d)
  have b3 := meC3 (c := d) (d := c)
  have a1 := meC1 (c := c) (d := d)
  have b1 := meC1 (c := d) (d := c)
  rw [e] at a3 a1
  have x3 : meetsC c d = 3 ↔ meetsC d c = 3 := by
    rw [a3, b3]; exact ⟨fun ⟨m, k, p, q, r, t⟩ => ⟨m, k, p, q, t, r⟩, fun ⟨m, k, p, q, r, t⟩ => ⟨m, k, p, q, t, r⟩⟩
  have x1 : meetsC c d = 1 ↔ meetsC d c = 1 := by
    rw [a1, b1]; exact ⟨fun h m k p q => (h m k p q).symm, fun h m k p q => (h m k p q).symm⟩
  rcases meetsC_vals c d with h | h | h <;> rcases meetsC_vals d c with k | k | k <;> omega
theorem jcell_two (s : Sg) (f g : Fg) (p q : Pc) (m k : Nat) : jcell s [f, g] [p, q] m k = if (Ca.mk s f p).cell k m = 35 ∨ (Ca.mk s g q).cell k m = 35 then 35 else if (Ca.mk s f p).cell k m = 43 ∨ (Ca.mk s g q).cell k m = 43 then 43 else 46 := by
  have e : jhere s [f, g] [p, q] m k 2 = [[(Ca.mk s f p).cell k m], [(Ca.mk s g q).cell k m]] := rfl
  unfold jcell
  rw [show [f, g].length = 2 from rfl, e]
  have hc : ∀ (ch a b : UInt8), (0 < cnt ch [[a], [b]]) = (a = ch ∨ b = ch) := fun ch a b => by
    unfold cnt
    simp only [List.map_cons, List.map_nil, List.sum_cons, List.sum_nil, List.count_singleton]
    by_cases h1 : a = ch <;> by_cases h2 : b = ch <;> simp [h1, h2]
  simp only [hc]
theorem meet2 {s : Sg} {f g : Fg} {p q : Pc} (hs : stOK s = true) :
    Meet2 s.high.toNat s.wide.toNat (cnt 35 (Ca.mk s f p).shadow) (cnt 43 (Ca.mk s f p).shadow) (cnt 35 (Ca.mk s g q).shadow) (cnt 43 (Ca.mk s g q).shadow)
      (cnt 35 (joined s [f, g] [p, q] s.high.toNat)) (cnt 43 (joined s [f, g] [p, q] s.high.toNat)) (s.wide * s.high) (meetsC ⟨s, f, p⟩ ⟨s, g, q⟩) (meetsC ⟨s, g, q⟩ ⟨s, f, p⟩) (meetsC ⟨s, f, p⟩ ⟨s, f, p⟩) := by
  have hb := stOK_iff.1 hs
  have ec : ∀ (ch : UInt8) (f : Fg) (p : Pc), cnt ch (Ca.mk s f p).shadow = ct s.high.toNat s.wide.toNat fun m k => decide ((Ca.mk s f p).cell k m = ch) := fun ch f p => ct_cnt ch _ _ fun m k => (Ca.mk s f p).cell k m
  have ej : ∀ (ch : UInt8), cnt ch (joined s [f, g] [p, q] s.high.toNat) = ct s.high.toNat s.wide.toNat fun m k => decide (jcell s [f, g] [p, q] m k = ch) := fun ch => ct_cnt ch _ _ fun m k => jcell s [f, g] [p, q] m k
  have size : ((s.high.toNat : Nat) : Int) * (s.wide.toNat : Nat) = s.wide * s.high := by
    rw [Int.toNat_of_nonneg (by omega), Int.toNat_of_nonneg (by omega), Int.mul_comm]
  have sum2 : ∀ (f : Fg) (p : Pc), cnt 35 (Ca.mk s f p).shadow + cnt 43 (Ca.mk s f p).shadow ≤ s.wide * s.high := fun f p => by
    rw [ec, ec, ← ct_oa, ct_congr (q := fun m k => decide ((Ca.mk s f p).cell k m = 35) && decide ((Ca.mk s f p).cell k m = 43)) (r := fun _ _ => false) fun m k _ _ => by
      by_cases h : (Ca.mk s f p).cell k m = 35 <;> simp [h]]
    have h0 : ct s.high.toNat s.wide.toNat (fun _ _ => false) = 0 := by
      have h1 := ct_nn s.high.toNat s.wide.toNat fun _ _ => false
      have h2 := ct_pos (h := s.high.toNat) (w := s.wide.toNat) (q := fun _ _ => false)
      by_cases h3 : 0 < ct s.high.toNat s.wide.toNat (fun _ _ => false)
      · obtain ⟨_, _, _, _, h⟩ := h2.1 h3; cases h
      · omega
    have := ct_le s.high.toNat s.wide.toNat fun m k => decide ((Ca.mk s f p).cell k m = 35) || decide ((Ca.mk s f p).cell k m = 43)
    rw [h0]; omega
  -- the dark cells
  have e35 : cnt 35 (joined s [f, g] [p, q] s.high.toNat) = ct s.high.toNat s.wide.toNat fun m k => decide ((Ca.mk s f p).cell k m = 35) || decide ((Ca.mk s g q).cell k m = 35) := by
    rw [ej]
    refine ct_congr fun m k _ _ => ?_
    rw [jcell_two]
    by_cases h1 : (Ca.mk s f p).cell k m = 35
    · simp [h1]
    · by_cases h2 : (Ca.mk s g q).cell k m = 35
      · simp [h2]
      · by_cases h3 : (Ca.mk s f p).cell k m = 43 ∨ (Ca.mk s g q).cell k m = 43 <;> simp [h1, h2, h3]
  have hoa := ct_oa s.high.toNat s.wide.toNat (fun m k => decide ((Ca.mk s f p).cell k m = 35)) fun m k => decide ((Ca.mk s g q).cell k m = 35)
  have habs : ∀ (u v : Nat → Nat → Bool), ct s.high.toNat s.wide.toNat u ≤ ct s.high.toNat s.wide.toNat fun m k => u m k || v m k := fun u v => by
    have h1 := ct_oa s.high.toNat s.wide.toNat u fun m k => !u m k && v m k
    have h2 : ct s.high.toNat s.wide.toNat (fun m k => u m k || (!u m k && v m k)) = ct s.high.toNat s.wide.toNat (fun m k => u m k || v m k) := ct_congr fun m k _ _ => by cases u m k <;> cases v m k <;> rfl
    have h3 := ct_nn s.high.toNat s.wide.toNat fun m k => !u m k && v m k
    have h4 : ct s.high.toNat s.wide.toNat (fun m k => u m k && (!u m k && v m k)) = ct s.high.toNat s.wide.toNat (fun _ _ => false) := ct_congr fun m k _ _ => by cases u m k <;> cases v m k <;> rfl
    have h5 : ct s.high.toNat s.wide.toNat (fun _ _ => false) ≤ 0 := by
      by_cases h3 : 0 < ct s.high.toNat s.wide.toNat (fun _ _ => false)
      · obtain ⟨_, _, _, _, h⟩ := ct_pos.1 h3; cases h
      · omega
    omega
  have both : meetsC ⟨s, f, p⟩ ⟨s, g, q⟩ = 3 ↔ 0 < ct s.high.toNat s.wide.toNat fun m k => decide ((Ca.mk s f p).cell k m = 35) && decide ((Ca.mk s g q).cell k m = 35) := by
    rw [meC3, ct_pos]; simp only [Bool.and_eq_true, decide_eq_true_eq]
  have a1 := habs (fun m k => decide ((Ca.mk s f p).cell k m = 35)) fun m k => decide ((Ca.mk s g q).cell k m = 35)
  have a2 := habs (fun m k => decide ((Ca.mk s g q).cell k m = 35)) fun m k => decide ((Ca.mk s f p).cell k m = 35)
  have a3 : ct s.high.toNat s.wide.toNat (fun m k => decide ((Ca.mk s g q).cell k m = 35) || decide ((Ca.mk s f p).cell k m = 35)) = ct s.high.toNat s.wide.toNat (fun m k => decide ((Ca.mk s f p).cell k m = 35) || decide ((Ca.mk s g q).cell k m = 35)) := ct_congr fun m k _ _ => Bool.or_comm _ _
  have n0 := ct_nn s.high.toNat s.wide.toNat fun m k => decide ((Ca.mk s f p).cell k m = 35) && decide ((Ca.mk s g q).cell k m = 35)
  refine ⟨⟨?_, ?_, ?_, ?_⟩, ⟨sum2 f p, sum2 g q⟩, meetsC_comm rfl, ?_, ?_, ⟨?_, ?_, ?_⟩, ?_, ?_⟩
  · rw [ec]; exact ct_nn _ _ _
  · rw [ec]; exact ct_nn _ _ _
  · rw [ec]; exact ct_nn _ _ _
  · rw [ec]; exact ct_nn _ _ _
  · rw [meC3, ec, ct_pos]
    simp only [decide_eq_true_eq]
    exact ⟨fun ⟨m, k, a, b, e, _⟩ => ⟨m, k, a, b, e⟩, fun ⟨m, k, a, b, e⟩ => ⟨m, k, a, b, e, e⟩⟩
  · rw [meC1]
    have h1 : 0 ≤ cnt 35 (Ca.mk s f p).shadow := by rw [ec]; exact ct_nn _ _ _
    have h2 : 0 ≤ cnt 43 (Ca.mk s f p).shadow := by rw [ec]; exact ct_nn _ _ _
    have p1 : 0 < cnt 35 (Ca.mk s f p).shadow ↔ ∃ m k : Nat, m < s.high.toNat ∧ k < s.wide.toNat ∧ decide ((Ca.mk s f p).cell k m = 35) = true := by rw [ec]; exact ct_pos
    have p2 : 0 < cnt 43 (Ca.mk s f p).shadow ↔ ∃ m k : Nat, m < s.high.toNat ∧ k < s.wide.toNat ∧ decide ((Ca.mk s f p).cell k m = 43) = true := by rw [ec]; exact ct_pos
    simp only [decide_eq_true_eq] at p1 p2
    constructor
    · intro h
      have q1 : ¬ 0 < cnt 35 (Ca.mk s f p).shadow := fun x => by
        obtain ⟨m, k, a, b, e⟩ := p1.1 x
        rcases h m k a b with h | h <;> (rw [show (Ca.mk s f p).cell k m = 35 from e] at h; cases h)
      have q2 : ¬ 0 < cnt 43 (Ca.mk s f p).shadow := fun x => by
        obtain ⟨m, k, a, b, e⟩ := p2.1 x
        rcases h m k a b with h | h <;> (rw [show (Ca.mk s f p).cell k m = 43 from e] at h; cases h)
      omega
    · intro h m k a b
      rcases cell_ch3 (Ca.mk s f p) k m with e | e | e
      · have := p1.2 ⟨m, k, a, b, e⟩; omega
      · have := p2.2 ⟨m, k, a, b, e⟩; omega
      · exact .inl e
  · rw [e35, ec, ec]; omega
  · rw [e35, ec]; omega
  · rw [e35, ec]; omega
  · rw [both, e35, ec, ec]; omega
  · intro h1
    have h1 := meC1.1 h1
    rw [ej, ec, ec, ← ct_oa]
    have z : ct s.high.toNat s.wide.toNat (fun m k => decide ((Ca.mk s f p).cell k m = 43) && decide ((Ca.mk s g q).cell k m = 43)) = 0 := by
      have h3 := ct_nn s.high.toNat s.wide.toNat fun m k => decide ((Ca.mk s f p).cell k m = 43) && decide ((Ca.mk s g q).cell k m = 43)
      by_cases h4 : 0 < ct s.high.toNat s.wide.toNat (fun m k => decide ((Ca.mk s f p).cell k m = 43) && decide ((Ca.mk s g q).cell k m = 43))
      · obtain ⟨m, k, a, b, e⟩ := ct_pos.1 h4
        simp only [Bool.and_eq_true, decide_eq_true_eq] at e
        rcases h1 m k a b with h | h
        · rw [show (Ca.mk s f p).cell k m = 43 from e.1] at h; cases h
        · rw [show (Ca.mk s g q).cell k m = 43 from e.2] at h; cases h
      · omega
    rw [z, Int.add_zero]
    refine ct_congr fun m k a b => ?_
    rw [jcell_two]
    rcases h1 m k a b with h | h
    · have h : (Ca.mk s f p).cell k m = 46 := h
      rcases cell_ch3 (Ca.mk s g q) k m with e | e | e <;> simp [h, e]
    · have h : (Ca.mk s g q).cell k m = 46 := h
      rcases cell_ch3 (Ca.mk s f p) k m with e | e | e <;> simp [h, e]
end Ol
namespace Go.Proofs.YtmbknoaneglilaaGreatDoor
open Go Go.Ab Ni Ol
instance sf126 : SlS Tryz.prog 126 28 3 24 := ⟨SlFact.of (by kernel_rfl)⟩
theorem jcell_ch (s : Sg) (l : List Fg) (ps : List Pc) (m k : Nat) : jcell s l ps m k = 35 ∨ jcell s l ps m k = 43 ∨ jcell s l ps m k = 46 := by
  unfold jcell
  split
  · exact .inl rfl
  · split
    · exact .inr (.inl rfl)
    · exact .inr (.inr rfl)
theorem joined_row {s : Sg} {l : List Fg} {ps : List Pc} {h : Nat} {r : List UInt8} (hr : r ∈ joined s l ps h) : r.length = s.wide.toNat ∧ ∀ b ∈ r, b = 35 ∨ b = 43 ∨ b = 46 := by
  unfold joined at hr
  obtain ⟨m, _, rfl⟩ := List.mem_map.1 hr
  refine ⟨jrow_len _ _ _ _ _, fun b hb => ?_⟩
  unfold jrow at hb
  obtain ⟨k, _, rfl⟩ := List.mem_map.1 hb
  exact jcell_ch s l ps m k
theorem joined_clo (s : Sg) (l : List Fg) (ps : List Pc) : Clo s (joined s l ps s.high.toNat) := ⟨joined_len _ _ _ _, fun r hr => (joined_row hr).1⟩
theorem joined_whole {s : Sg} {l : List Fg} {ps : List Pc} (hs : stOK s = true) : wholeB s (joined s l ps s.high.toNat) = true := by
  have hb := stOK_iff.1 hs
  unfold wholeB
  rw [Bool.and_eq_true]
  constructor
  · unfold siOK
    simp only [Bool.and_eq_true, decide_eq_true_eq, List.all_eq_true, siRow]
    refine ⟨by rw [(joined_clo s l ps).len]; omega, fun r hr => ?_⟩
    obtain ⟨h1, h2⟩ := joined_row hr
    refine ⟨by omega, ?_⟩
    rw [Bool.not_eq_true', List.any_eq_false]
    intro b hb'
    rcases h2 b hb' with rfl | rfl | rfl <;> decide
  · rw [decide_eq_true_eq]
    unfold Ol.cnt
    have : ∀ L : List (List UInt8), (∀ r ∈ L, ∀ b ∈ r, b = 35 ∨ b = 43 ∨ b = 46) → (L.map fun r => ((r.count 63 : Nat) : Int)).sum = 0 := fun L => by
      induction L with
      | nil => intro _; rfl
      | cons r L ih =>
        intro h
        have h1 : r.count 63 = 0 := List.count_eq_zero.2 fun hm => by rcases h r (by simp) 63 hm with h | h | h <;> cases h
        rw [List.map_cons, List.sum_cons, h1, ih fun q hq => h q (by simp [hq])]; rfl
    exact this _ fun r hr => (joined_row hr).2
theorem meeting_gate (c : Ca) (g : Fg) (q : Pc) (hg : (shortB c.f && (shortB g && (stOK c.s && (fgOK c.f && (pcOK c.s c.p && (fgOK g && pcOK c.s q)))))) = false) : APure Tryz.prog 22 [stA c.s, fgA c.f, pcA c.p, fgA g, pcA q] (B true) := by
  refine apure_of (rs := [.tmp 10]) Tryz.func22 rfl rfl (Nat.le_of_ble_eq_true rfl) (by simp [AV.pureL, AV.pureB, AV.pureE, pureE_map]) (by first | rfl | (simp [AV.pureL, AV.pureB, AV.pureE, pureE_map])) fun e0 he0 => ?_
  refine W 8 ?_
  refine cl A (short_pure c.f) ?_
  refine W 2 ?_
  refine sq_split 31 J (fun g1_4 => ?_) (fun g1_4 => ?_)
  · skip
    have g1_4' := g1_4
    try simp only [qq] at g1_4'
    refine W 33 ?_
    refine cl A (known_pure) ?_
    refine W 1 ?_
    exact retQ_pure (v := .raw _) rfl rfl J
  · skip
    have g1_4' := g1_4
    try simp only [qq] at g1_4'
    refine W 2 ?_
    refine cy A (short_pure g) ?_
    refine W 3 ?_
    refine sq_split 37 J (fun g1_10 => ?_) (fun g1_10 => ?_)
    · skip
      have g1_10' := g1_10
      try simp only [qq] at g1_10'
      refine W 27 ?_
      refine cl A (known_pure) ?_
      refine W 1 ?_
      exact retQ_pure (v := .raw _) rfl rfl J
    · skip
      have g1_10' := g1_10
      try simp only [qq] at g1_10'
      refine W 1 ?_
      refine cy A (rstage_pure c.s) ?_
      refine W 3 ?_
      refine sq_split 42 J (fun g1_15 => ?_) (fun g1_15 => ?_)
      · skip
        have g1_15' := g1_15
        try simp only [qq] at g1_15'
        refine W 22 ?_
        refine cl A (known_pure) ?_
        refine W 1 ?_
        exact retQ_pure (v := .raw _) rfl rfl J
      · skip
        have g1_15' := g1_15
        try simp only [qq] at g1_15'
        refine W 1 ?_
        refine cy A (rfigure_pure c.f) ?_
        refine W 3 ?_
        refine sq_split 47 J (fun g1_20 => ?_) (fun g1_20 => ?_)
        · skip
          have g1_20' := g1_20
          try simp only [qq] at g1_20'
          refine W 17 ?_
          refine cl A (known_pure) ?_
          refine W 1 ?_
          exact retQ_pure (v := .raw _) rfl rfl J
        · skip
          have g1_20' := g1_20
          try simp only [qq] at g1_20'
          refine W 2 ?_
          refine cy A (rplace_pure c.s c.p (far_of g1_15)) ?_
          refine W 3 ?_
          refine sq_split 53 J (fun g1_26 => ?_) (fun g1_26 => ?_)
          · skip
            have g1_26' := g1_26
            try simp only [qq] at g1_26'
            refine W 11 ?_
            refine cl A (known_pure) ?_
            refine W 1 ?_
            exact retQ_pure (v := .raw _) rfl rfl J
          · skip
            have g1_26' := g1_26
            try simp only [qq] at g1_26'
            refine W 1 ?_
            refine cy A (rfigure_pure g) ?_
            refine W 3 ?_
            refine sq_split 58 J (fun g1_31 => ?_) (fun g1_31 => ?_)
            · skip
              have g1_31' := g1_31
              try simp only [qq] at g1_31'
              refine W 6 ?_
              refine cl A (known_pure) ?_
              refine W 1 ?_
              exact retQ_pure (v := .raw _) rfl rfl J
            · skip
              have g1_31' := g1_31
              try simp only [qq] at g1_31'
              refine W 2 ?_
              refine cy A (rplace_pure c.s q (far_of g1_15)) ?_
              refine W 2 ?_
              refine aw_cond J (fun c_63 => ?_) (fun c_63 => ?_)
              · skip
                have c_63' := c_63
                try simp only [qq] at c_63'
                refine W 0 ?_
                refine cl A (known_pure) ?_
                refine W 1 ?_
                exact retQ_pure (v := .raw _) rfl rfl J
              · skip
                have c_63' := c_63
                try simp only [qq] at c_63'
                first | (exfalso; simp_all; done) | (exfalso; simp_all; omega)
theorem meeting_core {c : Ca} {g : Fg} {q : Pc} {w v own dark grey more pale all jg : Int} {jd : List (List UInt8)}
    (k23 : APure Tryz.prog 23 [strs c.f] (B true)) (k23' : APure Tryz.prog 23 [strs g] (B true)) (k24 : APure Tryz.prog 24 [stA c.s] (B true)) (k25 : APure Tryz.prog 25 [fgA c.f] (B true)) (k25' : APure Tryz.prog 25 [fgA g] (B true))
    (k26 : APure Tryz.prog 26 [stA c.s, pcA c.p] (B true)) (k26' : APure Tryz.prog 26 [stA c.s, pcA q] (B true))
    (k73 : APure Tryz.prog 73 [stA c.s, fgA c.f, pcA c.p, fgA g, pcA q] (.tup [I w, I 0])) (k73' : APure Tryz.prog 73 [stA c.s, fgA g, pcA q, fgA c.f, pcA c.p] (.tup [I v, I 0])) (k73o : APure Tryz.prog 73 [stA c.s, fgA c.f, pcA c.p, fgA c.f, pcA c.p] (.tup [I own, I 0]))
    (k33 : APure Tryz.prog 33 [stA c.s, fgA c.f, pcA c.p] (.tup [I dark, I grey, I 0])) (k33' : APure Tryz.prog 33 [stA c.s, fgA g, pcA q] (.tup [I more, I pale, I 0]))
    (k84 : APure Tryz.prog 84 [stA c.s, figs [c.f, g], .sl 3 ([c.p, q].map pcC)] (.tup [strs jd, I 0])) (k29 : APure Tryz.prog 29 [stA c.s, strs jd] (B true)) (k41 : APure Tryz.prog 41 [strs jd, C 35] (I all)) (k41' : APure Tryz.prog 41 [strs jd, C 43] (I jg))
    (hwh : 1 ≤ c.s.wide * c.s.high ∧ c.s.wide * c.s.high ≤ 256) (h0 : 0 ≤ dark ∧ 0 ≤ grey ∧ 0 ≤ more ∧ 0 ≤ pale) (hle : dark + grey ≤ c.s.wide * c.s.high ∧ more + pale ≤ c.s.wide * c.s.high) (hsym : w = v)
    (h3 : (decide (own = 3) == decide (0 < dark)) = true) (h4 : (decide (own = 1) == decide (dark + grey = 0)) = true) (hall : all ≤ dark + more ∧ dark ≤ all ∧ more ≤ all) (h5 : (decide (w = 3) == decide (all < dark + more)) = true) (h6 : w = 1 → jg = grey + pale) : APure Tryz.prog 22 [stA c.s, fgA c.f, pcA c.p, fgA g, pcA q] (B true) := by
  refine apure_of (rs := [.tmp 10]) Tryz.func22 rfl rfl (Nat.le_of_ble_eq_true rfl) (by simp [AV.pureL, AV.pureB, AV.pureE, pureE_map]) (by first | rfl | (simp [AV.pureL, AV.pureB, AV.pureE, pureE_map])) fun e0 he0 => ?_
  refine W 8 ?_
  refine cl A (k23) ?_
  refine W 4 ?_
  refine cy A (k23') ?_
  refine W 4 ?_
  refine cy A (k24) ?_
  refine W 4 ?_
  refine cy A (k25) ?_
  refine W 5 ?_
  refine cy A (k26) ?_
  refine W 4 ?_
  refine cy A (k25') ?_
  refine W 5 ?_
  refine cy A (k26') ?_
  refine W 2 ?_
  refine aw_cond J (fun c_63 => ?_) (fun c_63 => ?_)
  · skip
    have c_63' := c_63
    try simp only [qq] at c_63'
    first | exact absurd c_63 (by decide) | (exfalso; simp at c_63; done) | (exfalso; simp at c_63; omega) | (exfalso; simp_all; done) | (exfalso; simp_all; omega)
  · skip
    have c_63' := c_63
    try simp only [qq] at c_63'
    refine W 5 ?_
    refine cl A (k73) ?_
    refine W 10 ?_
    refine cl A (k73') ?_
    refine W 10 ?_
    refine cl A (k73o) ?_
    refine W 8 ?_
    refine cl A (k33) ?_
    refine W 10 ?_
    refine cl A (k33') ?_
    refine W 10 ?_
    refine sq_ev rfl (ev_buildSlice (es := [[_], [_]]) sf45.h rfl rfl rfl rfl) ?_
    refine W 2 ?_
    refine sq_ev rfl (ev_buildSlice (es := [[_, _, _], [_, _, _]]) sf126.h rfl rfl rfl rfl) ?_
    refine sq_ev rfl (ev_call en84.h J (k84) ⟨J, less_slx _ _, less_slx _ _, trivial⟩) ?_
    refine W 33 ?_
    refine sq_split 146 J (fun g9_27 => ?_) (fun g9_27 => ?_)
    · skip
      have g9_27' := g9_27
      try simp only [qq] at g9_27'
      first | exact absurd g9_27 (by decide) | (exfalso; simp at g9_27; done) | (exfalso; simp at g9_27; omega) | (exfalso; simp_all; done) | (exfalso; simp_all; omega)
    · skip
      have g9_27' := g9_27
      try simp only [qq] at g9_27'
      refine W 2 ?_
      refine cy A (k29) ?_
      refine W 2 ?_
      refine aw_cond J (fun c_151 => ?_) (fun c_151 => ?_)
      · skip
        have c_151' := c_151
        try simp only [qq] at c_151'
        first | exact absurd c_151 (by decide) | (exfalso; simp at c_151; done) | (exfalso; simp at c_151; omega) | (exfalso; simp_all; done) | (exfalso; simp_all; omega)
      · skip
        have c_151' := c_151
        try simp only [qq] at c_151'
        refine W 9 ?_
        refine sq_split 159 J (fun g12_2 => ?_) (fun g12_2 => ?_)
        · skip
          have g12_2' := g12_2
          try simp only [qq] at g12_2'
          first | exact absurd g12_2 (by decide) | (exfalso; simp at g12_2; done) | (exfalso; simp at g12_2; omega) | (exfalso; simp_all; done) | (exfalso; simp_all; omega)
        · skip
          have g12_2' := g12_2
          try simp only [qq] at g12_2'
          refine W 4 ?_
          refine sq_split 163 J (fun g12_6 => ?_) (fun g12_6 => ?_)
          · skip
            have g12_6' := g12_6
            try simp only [qq] at g12_6'
            first | exact absurd g12_6 (by decide) | (exfalso; simp at g12_6; done) | (exfalso; simp at g12_6; omega) | (exfalso; simp_all; done) | (exfalso; simp_all; omega)
          · skip
            have g12_6' := g12_6
            try simp only [qq] at g12_6'
            refine W 4 ?_
            refine sq_split 167 J (fun g12_10 => ?_) (fun g12_10 => ?_)
            · skip
              have g12_10' := g12_10
              try simp only [qq] at g12_10'
              first | exact absurd g12_10 (by decide) | (exfalso; simp at g12_10; done) | (exfalso; simp at g12_10; omega) | (exfalso; simp_all; done) | (exfalso; simp_all; omega)
            · skip
              have g12_10' := g12_10
              try simp only [qq] at g12_10'
              refine W 4 ?_
              refine sq_split 171 J (fun g12_14 => ?_) (fun g12_14 => ?_)
              · skip
                have g12_14' := g12_14
                try simp only [qq] at g12_14'
                first | exact absurd g12_14 (by decide) | (exfalso; simp at g12_14; done) | (exfalso; simp at g12_14; omega) | (exfalso; simp_all; done) | (exfalso; simp_all; omega)
              · skip
                have g12_14' := g12_14
                try simp only [qq] at g12_14'
                refine W 5 ?_
                refine sq_split 176 J (fun g12_19 => ?_) (fun g12_19 => ?_)
                · skip
                  have g12_19' := g12_19
                  try simp only [qq] at g12_19'
                  first | exact absurd g12_19 (by decide) | (exfalso; simp at g12_19; done) | (exfalso; simp at g12_19; omega) | (exfalso; simp_all; done) | (exfalso; simp_all; omega)
                · skip
                  have g12_19' := g12_19
                  try simp only [qq] at g12_19'
                  refine W 5 ?_
                  refine sq_split 181 J (fun g12_24 => ?_) (fun g12_24 => ?_)
                  · skip
                    have g12_24' := g12_24
                    try simp only [qq] at g12_24'
                    first | exact absurd g12_24 (by decide) | (exfalso; simp at g12_24; done) | (exfalso; simp at g12_24; omega) | (exfalso; simp_all; done) | (exfalso; simp_all; omega)
                  · skip
                    have g12_24' := g12_24
                    try simp only [qq] at g12_24'
                    refine W 5 ?_
                    refine sq_split 186 J (fun g12_29 => ?_) (fun g12_29 => ?_)
                    · skip
                      have g12_29' := g12_29
                      try simp only [qq] at g12_29'
                      first | exact absurd g12_29 (by decide) | (exfalso; simp at g12_29; done) | (exfalso; simp at g12_29; omega) | (exfalso; simp_all; done) | (exfalso; simp_all; omega)
                    · skip
                      have g12_29' := g12_29
                      try simp only [qq] at g12_29'
                      refine W 5 ?_
                      refine sq_split 191 J (fun g12_34 => ?_) (fun g12_34 => ?_)
                      · skip
                        have g12_34' := g12_34
                        try simp only [qq] at g12_34'
                        first | exact absurd g12_34 (by decide) | (exfalso; simp at g12_34; done) | (exfalso; simp at g12_34; omega) | (exfalso; simp_all; done) | (exfalso; simp_all; omega)
                      · skip
                        have g12_34' := g12_34
                        try simp only [qq] at g12_34'
                        refine W 7 ?_
                        refine sq_split 198 J (fun g12_41 => ?_) (fun g12_41 => ?_)
                        · skip
                          have g12_41' := g12_41
                          try simp only [qq] at g12_41'
                          first | exact absurd g12_41 (by decide) | (exfalso; simp at g12_41; done) | (exfalso; simp at g12_41; omega) | (exfalso; simp_all; done) | (exfalso; simp_all; omega)
                        · skip
                          have g12_41' := g12_41
                          try simp only [qq] at g12_41'
                          refine W 7 ?_
                          refine sq_split 205 J (fun g12_48 => ?_) (fun g12_48 => ?_)
                          · skip
                            have g12_48' := g12_48
                            try simp only [qq] at g12_48'
                            rw [h3] at g12_48; exact absurd g12_48 (by decide)
                          · skip
                            have g12_48' := g12_48
                            try simp only [qq] at g12_48'
                            refine W 8 ?_
                            refine aw_cond J (fun c_213 => ?_) (fun c_213 => ?_)
                            · skip
                              have c_213' := c_213
                              try simp only [qq] at c_213'
                              rw [h4] at c_213; exact absurd c_213 (by decide)
                            · skip
                              have c_213' := c_213
                              try simp only [qq] at c_213'
                              refine W 1 ?_
                              refine cl A (k41) ?_
                              refine W 7 ?_
                              refine sq_split 221 J (fun g15_5 => ?_) (fun g15_5 => ?_)
                              · skip
                                have g15_5' := g15_5
                                try simp only [qq] at g15_5'
                                first | exact absurd g15_5 (by decide) | (exfalso; simp at g15_5; done) | (exfalso; simp at g15_5; omega) | (exfalso; simp_all; done) | (exfalso; simp_all; omega)
                              · skip
                                have g15_5' := g15_5
                                try simp only [qq] at g15_5'
                                refine W 7 ?_
                                refine sq_split 228 J (fun g15_12 => ?_) (fun g15_12 => ?_)
                                · skip
                                  have g15_12' := g15_12
                                  try simp only [qq] at g15_12'
                                  first | exact absurd g15_12 (by decide) | (exfalso; simp at g15_12; done) | (exfalso; simp at g15_12; omega) | (exfalso; simp_all; done) | (exfalso; simp_all; omega)
                                · skip
                                  have g15_12' := g15_12
                                  try simp only [qq] at g15_12'
                                  refine W 9 ?_
                                  refine aw_cond J (fun c_237 => ?_) (fun c_237 => ?_)
                                  · skip
                                    have c_237' := c_237
                                    try simp only [qq] at c_237'
                                    rw [h5] at c_237; exact absurd c_237 (by decide)
                                  · skip
                                    have c_237' := c_237
                                    try simp only [qq] at c_237'
                                    refine W 3 ?_
                                    refine sq_split 240 J (fun g17_2 => ?_) (fun g17_2 => ?_)
                                    · skip
                                      have g17_2' := g17_2
                                      try simp only [qq] at g17_2'
                                      refine W 8 ?_
                                      refine cy A (known_pure) ?_
                                      refine W 2 ?_
                                      exact retQ_pure (v := .raw _) rfl rfl J
                                    · skip
                                      have g17_2' := g17_2
                                      try simp only [qq] at g17_2'
                                      refine W 1 ?_
                                      refine cy A (k41') ?_
                                      refine W 6 ?_
                                      refine sq_split 248 J (fun g17_10 => ?_) (fun g17_10 => ?_)
                                      · skip
                                        have g17_10' := g17_10
                                        try simp only [qq] at g17_10'
                                        refine cy A (known_pure) ?_
                                        refine W 2 ?_
                                        exact retQ_pure (v := .raw _) rfl rfl J
                                      · skip
                                        have g17_10' := g17_10
                                        try simp only [qq] at g17_10'
                                        exact absurd (h6 (by simpa using g17_2)) (by simpa using g17_10)
theorem beq_iff {p q : Prop} [Decidable p] [Decidable q] (h : p ↔ q) : (decide p == decide q) = true := by
  by_cases k : p
  · simp [k, h.1 k]
  · have kq : ¬ q := fun e => k (h.2 e)
    simp [k, kq]
/-- **OutlineMeeting.** -/
theorem law22 (s : Sg) (f : Fg) (p : Pc) (g : Fg) (q : Pc) : APure Tryz.prog 22 [stA s, fgA f, pcA p, fgA g, pcA q] (B true) := by
  obtain ⟨c, rfl, rfl, rfl⟩ : ∃ c : Ca, s = c.s ∧ f = c.f ∧ p = c.p := ⟨⟨s, f, p⟩, rfl, rfl, rfl⟩
  cases hg : (shortB c.f && (shortB g && (stOK c.s && (fgOK c.f && (pcOK c.s c.p && (fgOK g && pcOK c.s q)))))) with
  | false => exact meeting_gate c g q hg
  | true =>
    simp only [Bool.and_eq_true] at hg
    obtain ⟨h1, h2, hs3, h4, h5, h6, h7⟩ := hg
    have hs := stOK_iff.1 hs3
    have o1 : caOK c = true := by unfold caOK; rw [hs3, h4, h5]; rfl
    have o2 : caOK ⟨c.s, g, q⟩ = true := by unfold caOK; simp only [hs3, h6, h7, Bool.and_self]
    have k23 : APure Tryz.prog 23 [strs c.f] (B true) := by have := short_pure c.f; rwa [h1] at this
    have k23' : APure Tryz.prog 23 [strs g] (B true) := by have := short_pure g; rwa [h2] at this
    have k24 : APure Tryz.prog 24 [stA c.s] (B true) := by have := rstage_pure c.s; rwa [hs3] at this
    have k25 : APure Tryz.prog 25 [fgA c.f] (B true) := by have := rfigure_pure c.f; rwa [h4] at this
    have k25' : APure Tryz.prog 25 [fgA g] (B true) := by have := rfigure_pure g; rwa [h6] at this
    have k26 : APure Tryz.prog 26 [stA c.s, pcA c.p] (B true) := by have := rplace_pure c.s c.p (by omega); rwa [h5] at this
    have k26' : APure Tryz.prog 26 [stA c.s, pcA q] (B true) := by have := rplace_pure c.s q (by omega); rwa [h7] at this
    have k73 := meets_pure c g q
    have k73' := meets_pure ⟨c.s, g, q⟩ c.f c.p
    have k73o := meets_pure c c.f c.p
    have k33 := counts_pure c
    have k33' := counts_pure ⟨c.s, g, q⟩
    have ec : (⟨c.s, c.f, c.p⟩ : Ca) = c := rfl
    have hj : joOK c.s [c.f, g] [c.p, q] = true := jo_ok hs3 (by simp) rfl fun i hi => by
      rcases (show i = 0 ∨ i = 1 by simp at hi; omega) with rfl | rfl
      · exact o1
      · exact o2
    have k84 := joined_pure c.s [c.f, g] [c.p, q] (by simp) (by simp)
    simp only [ec, o1, o2, hj, if_true, Bool.true_and, Bool.and_self, show er true = 0 from rfl] at k73 k73' k73o k33 k33' k84
    have hcl := joined_clo c.s [c.f, g] [c.p, q]
    have k29 : APure Tryz.prog 29 [stA c.s, strs (joined c.s [c.f, g] [c.p, q] c.s.high.toNat)] (B true) := by
      have := whole_pure c.s _ (clo_shp hs3 hcl); rwa [joined_whole hs3] at this
    have sh := clo_shp hs3 hcl
    have M := meet2 (f := c.f) (g := g) (p := c.p) (q := q) hs3
    exact meeting_core k23 k23' k24 k25 k25' k26 k26' k73 k73' k73o k33 k33' k84 k29 (rcount_pure _ 35 sh.1 sh.2) (rcount_pure _ 43 sh.1 sh.2) (wh_le hs3) M.nn M.le M.sym (beq_iff M.own3) (beq_iff M.own1) M.all1 (beq_iff M.all2) M.gr
end Go.Proofs.YtmbknoaneglilaaGreatDoor
