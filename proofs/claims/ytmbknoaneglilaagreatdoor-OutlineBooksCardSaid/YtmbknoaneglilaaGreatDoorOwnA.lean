/-
  A part of the proof: conditions: none beyond each theorem's own.
-/
import Derived.Test.YtmbknoaneglilaaGreatDoorLogicA
import Derived.Test.YtmbknoaneglilaaGreatDoorLogicC
import Derived.Laws.StructEq
import Derived.Test.YtmbknoaneglilaaGreatDoorLogicD
import Derived.Deep.Slices
import Derived.OpenShut
import Derived.Carry
import Derived.Test.YtmbknoaneglilaaGreatDoorSpecA
import Derived.KernelRfl
import Derived.Lib.LaidTab
import Derived.Lib.ItoaNum
import Derived.Test.YtmbknoaneglilaaGreatDoorProg
import Derived.Test.YtmbknoaneglilaaGreatDoorLogicE
import Derived.Test.YtmbknoaneglilaaGreatDoorWalkE
import Derived.Test.YtmbknoaneglilaaGreatDoorWalkF
import Derived.ChangeKeysEq
import Derived.Laws.IdiomStrings
import Derived.Laws.IdiomCopy
import Derived.Test.YtmbknoaneglilaaGreatDoorLogicB
import Derived.Test.YtmbknoaneglilaaGreatDoorShelf
import Derived.Test.YtmbknoaneglilaaGreatDoorWalkA
import Derived.Test.YtmbknoaneglilaaGreatDoorWalkB
import Derived.Test.YtmbknoaneglilaaGreatDoorWalkC
import Derived.Test.YtmbknoaneglilaaGreatDoorWalkD
import Derived.Test.YtmbknoaneglilaaGreatDoorRow
set_option linter.all false
set_option maxRecDepth 100000
set_option maxHeartbeats 8000000
namespace Go.Ab
variable [Tabs]
theorem FW_room (r : Option Nat) (n : Nat) : (FW r).room n := fun _ h => by simp [FW] at h
variable {c : Ctx} {Q : AExit → St → Prop} {s : St}
end Go.Ab
namespace Go.Ab
variable [Tabs]
section ops
variable {P : Program} {r : Option Nat} {H : List AObj} {ρ : Operand → AV}
variable {d : Option Tmp} {t : TypeId} {p : String} {af : Array Edge} {g : Option (Nat × Bool)}
variable {x y z : Operand}
theorem ev_neq_agg {xt yt : TypeId} {xs ys : Array Value} {b : Bool} (hg : P.eqGuardType P.depth xt = false) (he : ∀ w, (Op.equalIn 10000 xt (.agg xs) (.agg ys)).run P w = .ok b w)
    (hx : Less (ρ x) (.raw (.agg xs))) (hy : Less (ρ y) (.raw (.agg ys))) : Ev P r ⟨d, .binOp .neq xt x y yt, t, p, af, g⟩ H ρ (.raw (.bool !b)) :=
  Ev.pure (by intro c h; cases h) fun e ρc _ _ hs => by
    have e1 := rep_raw hx (hs x (by simp [Op.operands]))
    have e2 := rep_raw hy (hs y (by simp [Op.operands]))
    exact ⟨.bool !b, by simp [execOp, e1, e2, run_eqGuard_agg _ _ _ _ _ _ _ hg, run_neq_struct, he], by rw [Rep]⟩
end ops
end Go.Ab
namespace Go.Ab
open Go.ChangeShapes Go.WideShapes
variable [Tabs]
theorem env0_ok {w : World} (h : Tabs.is w) (hb : ∀ b, Tabs.blk b → b < w.heap.size) : EnvOK (env0 w) :=
  ⟨fun b hb => by have hb' : w.heap.size ≤ b := hb
                  have : w.heap[b]? = none := by simpa using hb'
                  simp [env0, this], fun i o h => by simp [env0] at h, fun i j b hi => by simp [env0] at hi, fun i b hi => by simp [env0] at hi, h, fun b hk => ⟨hb b hk, fun i hi => by simp [env0] at hi⟩⟩
section
variable {H : Type} {enc : TypeId × Value → H} {P : Program} {w : World} {base : Nat} {spare : Nat → Bool} {held : Bool}
theorem trodAll_stays (hl : laidOutB P = true) {W W' : World} (hheap : ∀ b, b < W.heap.size → W'.heap[b]? = W.heap[b]?) {sp' : Nat → Bool} :
    ∀ {ts : List TypeId} {vs : List Value} {ds : List (DataW H)} {ps : List MemPlace}, (∀ t ∈ ts, P.readableRec t = true ∧ t < P.types.size) → DataW.TrodAll enc P W base (fun _ => true) true ts vs ds ps → (∀ p ∈ ps, p.block < W.heap.size) → (∀ p ∈ ps, sp' p.block = true) →
      DataW.TrodAll enc P W' base sp' true ts vs ds ps
  | [], _, _, _, _, h, _, _ => by
    obtain ⟨rfl, rfl, rfl⟩ := trodAll_nil h
    exact trodAll_mk0
  | t :: ts, _, _, _, ht, h, hlt, hs => by
    obtain ⟨v, vs1, d, ds1, a, b, rfl, rfl, rfl, h1, h2⟩ := trodAll_cons h
    refine trodAll_cons_mk (WideElems.Trod_stays hl (ht t (by simp)).1 (ht t (by simp)).2 h1 (fun p hp => ?_) (fun p hp => hs p (by simp [hp]))) (trodAll_stays hl hheap (fun u hu => ht u (List.mem_cons_of_mem _ hu)) h2 (fun p hp => hlt p (by simp [hp])) (fun p hp => hs p (by simp [hp])))
    have hb := hheap p.block (hlt p (by simp [hp]))
    cases p with
    | cell b o => exact cell?_of_heap hb
    | map b => exact hb
/-- **What a law's row asks of a call that returns true and leaves what it met.** -/
theorem post_true {f : Func} {s : ChangeSpec} {W W' : World} {args : Array Value} {ds gs : List (DataW H)} {before : List MemPlace} {tb : TypeId} (hl : laidOutB P = true) (hread : ∀ t ∈ f.params.toList, P.readableRec t = true ∧ t < P.types.size)
    (hres : f.resultTypes = #[tb]) (htb : P.underlying tb = some .bool) (hvars : s.vars = []) (hspec : (s.fn H ds).results = [.lit (.bool true)] ∧ (s.fn H ds).args = ds ∧ (s.fn H ds).vars = [])
    (hW : DataW.Whole enc P f.params.toList s.vars false W args.toList ds gs before) (hheap : ∀ b, b < W.heap.size → W'.heap[b]? = W.heap[b]?) (hst : Still W W') :
    s.post enc P f false true false false W args (.bool true) W' := by
  have hlt := hW.lt
  have hW0 := hW
  obtain ⟨p, q, h1, h2, rfl, _, _⟩ := hW
  rw [hvars] at h2
  obtain ⟨rfl, rfl⟩ := trodVars_none h2
  simp only [List.append_nil] at hlt
  obtain ⟨e1, e2, e3⟩ := hspec
  refine ⟨ds, [], p ++ [], [], p, [], hW0, ?_, ?_, ?_, ?_, fun h => by cases h⟩
  · rw [List.append_nil, e1, hres]
    exact trodAll_cons_mk (RowKit.shut_bool htb _) trodAll_mk0
  · rw [List.append_nil, e2]
    exact trodAll_stays hl hheap hread h1 hlt (fun p hp => by simpa using hlt p hp)
  · rw [List.append_nil, e3, hvars]; rfl
  · refine ⟨hst.1, hst.2, fun i hi => ?_⟩
    rw [hheap i hi]
    split <;> simp_all
theorem APure.law {f : FuncId} {args : List AV} {W : World} {vs : Array Value} (hc : APure P f args (.raw (.bool true))) (ht : Tabs.is W) (hb : ∀ b, Tabs.blk b → b < W.heap.size) (hr : RepL (env0 W) args vs.toList) :
    Calls P f vs W fun x W' => x = .returned (.bool true) ∧ (∀ b, b < W.heap.size → W'.heap[b]? = W.heap[b]?) ∧ Still W W' := by
  refine ((hc (env0 W) vs (env0_ok ht hb) hr).calls (fun k => FW_room none k)).mono ?_
  rintro x w' ⟨u, e', rfl, rfl, hx, hu⟩
  rw [Rep] at hu; subst hu
  exact ⟨rfl, hx.heap, hx.still⟩
end
end Go.Ab
namespace Ol
open Ni (inn)
def chF (f : Fg) (i j : Int) : UInt8 := if 0 ≤ j ∧ j < f.length ∧ 0 ≤ i ∧ i < ((f.getD j.toNat []).length : Int) then (f.getD j.toNat []).getD i.toNat 0 else 46
end Ol
namespace Go.Proofs.YtmbknoaneglilaaGreatDoor
open Go Go.Ab Ni Ol
theorem rin_pure (n lo hi : Int) : APure Tryz.prog 89 [I n, I lo, I hi] (B (inn n lo hi)) := by
 refine apure_of (rs := [.tmp 6]) Tryz.func89 rfl rfl (Nat.le_of_ble_eq_true rfl) (by simp [AV.pureL, AV.pureB, AV.pureE, pureE_map]) (by first | rfl | (simp [AV.pureL, AV.pureB, AV.pureE, pureE_map])) fun e0 he0 => ?_
 refine W 5 ?_
 refine sq_split 10 J (fun g1 => ?_) (fun g1 => ?_)
 ·
  have g1' := g1
  try simp only [qq] at g1'
  refine W 5 ?_
  exact retQ_pure (v := .raw _) rfl rfl (Less.eq (by simp [inn, *]))
 have g1' := g1
 try simp only [qq] at g1'
 refine W 5 ?_
 exact retQ_pure (v := .raw _) rfl rfl (Less.eq (by simp [inn, *]))
theorem rstage_pure (s : Sg) : APure Tryz.prog 24 [stA s] (B (stOK s)) := by
 refine apure_of (rs := [.tmp 2]) Tryz.func24 rfl rfl (Nat.le_of_ble_eq_true rfl) (by simp [AV.pureL, AV.pureB, AV.pureE, pureE_map]) (by first | rfl | (simp [AV.pureL, AV.pureB, AV.pureE, pureE_map])) fun e0 he0 => ?_
 refine W 4 ?_
 refine cl A (rin_pure _ _ _) ?_
 refine W 1 ?_
 refine sq_split 6 J (fun g1 => ?_) (fun g1 => ?_)
 ·
  have g1' := g1
  try simp only [qq] at g1'
  refine W 2 ?_
  refine cy A (rin_pure _ _ _) ?_
  refine W 2 ?_
  refine sq_split 11 J (fun g2 => ?_) (fun g2 => ?_)
  ·
   have g2' := g2
   try simp only [qq] at g2'
   refine W 2 ?_
   refine cy A (rin_pure _ _ _) ?_
   refine W 2 ?_
   refine sq_split 16 J (fun g3 => ?_) (fun g3 => ?_)
   ·
    have g3' := g3
    try simp only [qq] at g3'
    refine W 2 ?_
    refine cy A (rin_pure _ _ _) ?_
    refine W 2 ?_
    refine sq_split 21 J (fun g4 => ?_) (fun g4 => ?_)
    ·
     have g4' := g4
     try simp only [qq] at g4'
     refine W 4 ?_
     refine cy A (rin_pure _ _ _) ?_
     refine W 2 ?_
     refine sq_split 28 J (fun g5 => ?_) (fun g5 => ?_)
     ·
      have g5' := g5
      try simp only [qq] at g5'
      refine W 4 ?_
      refine cy A (rin_pure _ _ _) ?_
      refine W 2 ?_
      exact retQ_pure (v := .raw _) rfl rfl (Less.eq (by simp [stOK, *]))
     have g5' := g5
     try simp only [qq] at g5'
     refine W 7 ?_
     exact retQ_pure (v := .raw _) rfl rfl (Less.eq (by simp [stOK, *]))
    have g4' := g4
    try simp only [qq] at g4'
    refine W 14 ?_
    exact retQ_pure (v := .raw _) rfl rfl (Less.eq (by simp [stOK, *]))
   have g3' := g3
   try simp only [qq] at g3'
   refine W 19 ?_
   exact retQ_pure (v := .raw _) rfl rfl (Less.eq (by simp [stOK, *]))
  have g2' := g2
  try simp only [qq] at g2'
  refine W 24 ?_
  exact retQ_pure (v := .raw _) rfl rfl (Less.eq (by simp [stOK, *]))
 have g1' := g1
 try simp only [qq] at g1'
 refine W 29 ?_
 exact retQ_pure (v := .raw _) rfl rfl (Less.eq (by simp [stOK, *]))
end Go.Proofs.YtmbknoaneglilaaGreatDoor
namespace Go.Proofs.YtmbknoaneglilaaGreatDoor
open Go Go.Ab Ni Ol
theorem ch_ok {c : UInt8} (h : (c.toNat : Int) = 35 ∨ (c.toNat : Int) = 46) : chOK c = true := by
  unfold chOK; simp only [decide_eq_true_eq]
  exact h.imp (fun h => UInt8.toNat_inj.1 (by show c.toNat = 35; omega)) (fun h => UInt8.toNat_inj.1 (by show c.toNat = 46; omega))
theorem ch_no {c : UInt8} (h : (c.toNat : Int) ≠ 35) (k : (c.toNat : Int) ≠ 46) : chOK c = false := by
  rw [Bool.eq_false_iff]; intro ho; unfold chOK at ho; simp only [decide_eq_true_eq] at ho
  rcases ho with e | e <;> (subst e; first | exact h rfl | exact k rfl)
theorem rfigure_pure (f : Fg) : APure Tryz.prog 25 [fgA f] (B (fgOK f)) := by
  refine apure_of (rs := [.tmp 2]) Tryz.func25 rfl rfl (Nat.le_of_ble_eq_true rfl) (by simp [AV.pureL, AV.pureB, AV.pureE, pureE_map]) (by first | rfl | (simp [AV.pureL, AV.pureB, AV.pureE, pureE_map])) fun e0 he0 => ?_
  refine W 5 ?_
  refine cl A (rin_pure _ _ _) ?_
  refine W 2 ?_
  refine sq_split 11 J (fun g1_5 => ?_) (fun g1_5 => ?_)
  · skip
    have g1_5' := g1_5
    try simp only [qq] at g1_5'
    refine W 10 ?_
    exact retQ_pure (v := .raw _) rfl rfl (Less.eq (by unfold fgOK; simp_all))
  · skip
    have g1_5' := g1_5
    try simp only [qq] at g1_5'
    have h1 : inn f.length 1 6 = true := by simpa using g1_5
    have hlen : 1 ≤ f.length ∧ f.length ≤ 6 := by simp only [inn, Bool.and_eq_true, decide_eq_true_eq] at h1; omega
    have hw0 := w0_eq (f := f) (by omega)
    refine W 2 ?_
    refine sq_yes rfl rfl (less_b g1_5) rfl (ev_index_map (k := 0) sl24.h J J rfl (by omega)) ?_
    refine W 2 ?_
    refine cy A (rin_pure _ _ _) ?_
    refine W 2 ?_
    refine aw_cond J (fun c_19 => ?_) (fun c_19 => ?_)
    · skip
      have c_19' := c_19
      try simp only [qq] at c_19'
      refine W 1 ?_
      exact retQ_pure (v := .raw _) rfl rfl (Less.eq (by unfold fgOK; rw [hw0]; simp_all))
    · skip
      have c_19' := c_19
      try simp only [qq] at c_19'
      have h2 : inn (w0 f) 1 6 = true := by rw [hw0]; simpa using c_19
      refine W 2 ?_
      refine aw_loopk (ι := { k : Nat // k ≤ f.length ∧ ∀ i, (h : i < f.length) → i < k → fgRow (w0 f) f[i] = true }) [1] (fun i => [(3, B ((f.take i.1).any hasH)), (4, I i.1)]) (fun H i => H) (fun i => f.length - i.1) (⟨0, Nat.zero_le _, by omega⟩) ⟨J, J, J, trivial⟩ rfl ?_
      rintro ⟨k, hk, hok⟩
      dsimp only [keepS, St.put, sget, slotsOf, nn1, nn2, nn3, nn4, nn5, nn6, Nat.reduceBEq, Nat.reduceAdd, nn7, nn8]
      refine W 5 ?_
      refine iff (fun c_24 c_24' => ?_) (fun c_24 c_24' => ?_)
      · skip
        refine W 0 ?_
        refine aw_draw 12 mo (by kernel_rfl) ?_
        refine WD 8 ?_
        refine dr_ev rfl (ev_index_map (k := 0) sl24.h J J rfl (by omega)) ?_
        refine WD 3 ?_
        refine W 0 ?_
        refine ifn (fun c_38 c_38' => ?_) (fun c_38 c_38' => ?_)
        · skip
          refine W 1 ?_
          exact retQ_pure (v := .raw _) rfl rfl (Less.eq (by rw [fg_row_bad (k := k) (by omega) (fgRow_len (by rw [hw0]; omega))]))
        · skip
          have hlk : f[k].length ≤ 6 := by simp only [inn, Bool.and_eq_true, decide_eq_true_eq] at h2; omega
          refine W 1 ?_
          refine aw_loopk (ι := { j : Nat // j ≤ f[k].length ∧ ∀ i, (h : i < f[k].length) → i < j → chOK f[k][i] = true }) [1, 4] (fun q => [(3, B ((f.take k).any hasH || (f[k].take q.1).any fun c => decide (c = 35))), (5, I q.1)]) (fun H q => H) (fun q => f[k].length - q.1) (⟨0, Nat.zero_le _, by omega⟩) ⟨(Less.eq (by show B ((f.take k).any hasH) = _; simp)), J, J, J, trivial⟩ rfl ?_
          rintro ⟨j, hj, hoj⟩
          dsimp only [keepS, St.put, sget, slotsOf, nn1, nn2, nn3, nn4, nn5, nn6, Nat.reduceBEq, Nat.reduceAdd, nn7, nn8]
          refine W 8 ?_
          refine iff (fun c_46 c_46' => ?_) (fun c_46 c_46' => ?_)
          · skip
            have hk' : j < f[k].length := by omega
            have eC := any_take (q := fun c => decide (c = 35)) (l := f[k]) (k := j) hk'
            refine W 9 ?_
            refine sq_split 57 J (fun g12_8 => ?_) (fun g12_8 => ?_)
            · skip
              have g12_8' := g12_8
              try simp only [qq] at g12_8'
              refine W 9 ?_
              refine aw_cond J (fun c_66 => ?_) (fun c_66 => ?_)
              · skip
                have c_66' := c_66
                try simp only [qq] at c_66'
                refine W 1 ?_
                exact retQ_pure (v := .raw _) rfl rfl (Less.eq (by rw [fg_row_bad (k := k) (by omega) (fgRow_ch (j := j) hk' (ch_no g12_8' c_66'))]))
              · skip
                have c_66' := c_66
                try simp only [qq] at c_66'
                have hch : chOK f[k][j] = true := ch_ok (.inr (by simpa using c_66))
                refine W 2 ?_
                refine sq_split 68 J (fun g14_1 => ?_) (fun g14_1 => ?_)
                · skip
                  have g14_1' := g14_1
                  try simp only [qq] at g14_1'
                  have eF : B true = B ((f.take k).any hasH || (f[k].take (j + 1)).any fun c => decide (c = 35)) := by rw [eC, ← Bool.or_assoc, g14_1]; rfl
                  refine W 13 ?_
                  exact ⟨⟨j + 1, by omega, fun i h hi => (by by_cases e : i = j; (subst e; exact hch); exact hoj i h (by omega))⟩, by simp only; omega, Sub.slots ⟨(Less.eq eF), J, J, J, trivial⟩⟩
                · skip
                  have g14_1' := g14_1
                  try simp only [qq] at g14_1'
                  have eF : B (decide (((f[k][j]).toNat : Int) = 35)) = B ((f.take k).any hasH || (f[k].take (j + 1)).any fun c => decide (c = 35)) := by rw [eC, ← Bool.or_assoc, g14_1, dec35]; rfl
                  refine W 13 ?_
                  exact ⟨⟨j + 1, by omega, fun i h hi => (by by_cases e : i = j; (subst e; exact hch); exact hoj i h (by omega))⟩, by simp only; omega, Sub.slots ⟨(Less.eq eF), J, J, J, trivial⟩⟩
            · skip
              have g12_8' := g12_8
              try simp only [qq] at g12_8'
              have hch : chOK f[k][j] = true := ch_ok (.inl (by simpa using g12_8))
              refine W 12 ?_
              refine sq_split 68 J (fun g14_1 => ?_) (fun g14_1 => ?_)
              · skip
                have g14_1' := g14_1
                try simp only [qq] at g14_1'
                have eF : B true = B ((f.take k).any hasH || (f[k].take (j + 1)).any fun c => decide (c = 35)) := by rw [eC, ← Bool.or_assoc, g14_1]; rfl
                refine W 13 ?_
                exact ⟨⟨j + 1, by omega, fun i h hi => (by by_cases e : i = j; (subst e; exact hch); exact hoj i h (by omega))⟩, by simp only; omega, Sub.slots ⟨(Less.eq eF), J, J, J, trivial⟩⟩
              · skip
                have g14_1' := g14_1
                try simp only [qq] at g14_1'
                have eF : B (decide (((f[k][j]).toNat : Int) = 35)) = B ((f.take k).any hasH || (f[k].take (j + 1)).any fun c => decide (c = 35)) := by rw [eC, ← Bool.or_assoc, g14_1, dec35]; rfl
                refine W 13 ?_
                exact ⟨⟨j + 1, by omega, fun i h hi => (by by_cases e : i = j; (subst e; exact hch); exact hoj i h (by omega))⟩, by simp only; omega, Sub.slots ⟨(Less.eq eF), J, J, J, trivial⟩⟩
          · skip
            refine V 3 ?_
            refine sq_nil ?_
            have hgood : fgRow (w0 f) f[k] = true := fgRow_ok (by omega) (fun i h => hoj i h (by omega))
            have eA := any_take (q := hasH) (l := f) (k := k) (by omega)
            have eB : hasH f[k] = (f[k].take j).any (fun c => decide (c = 35)) := by unfold hasH; rw [List.take_of_length_le (by omega)]
            exact ⟨⟨k + 1, by omega, fun i h hi => (by by_cases e : i = k; (subst e; exact hgood); exact hok i h (by omega))⟩, by simp only; omega, Sub.slots ⟨(Less.eq (show B ((f.take k).any hasH || (f[k].take j).any fun c => decide (c = 35)) = _ by rw [eA, eB])), J, J, trivial⟩⟩
      · skip
        refine W 2 ?_
        exact retQ_pure (v := .raw _) rfl rfl (Less.eq (by rw [fg_end h1 h2 (fun i h => hok i h (by omega)), show k = f.length by omega, List.take_length]))
end Go.Proofs.YtmbknoaneglilaaGreatDoor
namespace Go.Proofs.YtmbknoaneglilaaGreatDoor
open Go Go.Ab Ni Ol
theorem print_pure (b : Bk) (hl : b.l.length ≤ 1000000) : APure Tryz.prog 54 [bkA b] (.tup [S (if bkOK b = true then textB b else []), I (er (bkOK b))]) := by
 refine apure_of (rs := [.tmp 2, .tmp 3]) Tryz.func54 rfl rfl (Nat.le_of_ble_eq_true rfl) (by simp [AV.pureL, AV.pureB, AV.pureE, pureE_map]) (by first | rfl | (simp [AV.pureL, AV.pureB, AV.pureE, pureE_map])) fun e0 he0 => ?_
 refine W 4 ?_
 refine cl A (isbook_pure b hl) ?_
 refine W 1 ?_
 refine aw_cond J (fun c_6 => ?_) (fun c_6 => ?_)
 ·
  have c_6' := c_6
  try simp only [qq] at c_6'
  refine W 2 ?_
  exact retQ_pure (v := .tup [.raw _, .raw _]) rfl rfl (less_tup ⟨Less.eq (by rw [show bkOK b = false by simpa using c_6]; rfl), Less.eq (by rw [show bkOK b = false by simpa using c_6]; rfl), trivial⟩)
 have c_6' := c_6
 try simp only [qq] at c_6'
 refine W 1 ?_
 refine cl A (text_pure b (smb_ok (by simpa using c_6))) ?_
 refine W 2 ?_
 exact retQ_pure (v := .tup [.raw _, .raw _]) rfl rfl (less_tup ⟨Less.eq (by rw [if_pos (show bkOK b = true by simpa using c_6)]), Less.eq (by rw [show bkOK b = true by simpa using c_6]; rfl), trivial⟩)
end Go.Proofs.YtmbknoaneglilaaGreatDoor
namespace Go.Proofs.YtmbknoaneglilaaGreatDoor
open Go Go.Ab Ni Ol
instance en111 : EnT Tryz.prog 111 := ⟨Ent.of Tryz.func111 (by kernel_rfl) rfl⟩
instance en23 : EnT Tryz.prog 23 := ⟨Ent.of Tryz.func23 (by kernel_rfl) rfl⟩
instance en24 : EnT Tryz.prog 24 := ⟨Ent.of Tryz.func24 (by kernel_rfl) rfl⟩
instance en25 : EnT Tryz.prog 25 := ⟨Ent.of Tryz.func25 (by kernel_rfl) rfl⟩
instance en77 : EnT Tryz.prog 77 := ⟨Ent.of Tryz.func77 (by kernel_rfl) rfl⟩
instance en85 : EnT Tryz.prog 85 := ⟨Ent.of Tryz.func85 (by kernel_rfl) rfl⟩
theorem allT_no {α : Type} {q : α → Bool} {l : List α} {n i : Nat} (hi : i < l.length) (hn : i < n) (h : q l[i] = false) : (l.take n).all q = false := by
  rw [List.all_eq_false]
  have hm : i < (l.take n).length := by rw [List.length_take]; omega
  exact ⟨(l.take n)[i], List.getElem_mem hm, by rw [List.getElem_take, h]; simp⟩
theorem allT_yes {α : Type} {q : α → Bool} {l : List α} {n : Nat} (h : ∀ i, (hi : i < l.length) → i < n → q l[i] = true) : (l.take n).all q = true := by
  rw [List.all_eq_true]
  intro x hx
  obtain ⟨i, hi, rfl⟩ := List.getElem_of_mem hx
  rw [List.length_take] at hi
  rw [List.getElem_take]; exact h i (by omega) (by omega)
def shortB (l : List (List UInt8)) : Bool := (l.take 20).all (fun r => decide (r.length ≤ 20)) && decide (l.length ≤ 18)
def fewB (l : List Fg) : Bool := (l.take 9).all shortB && decide (l.length ≤ 8)
theorem coOK_ref (l : List Fg) : coOK l = (decide (0 < l.length) && ((l.take 6).all fgOK && decide (l.length ≤ 6))) := by
  rw [coOK_eq, Bool.eq_iff_iff]
  simp only [Bool.and_eq_true, inn, decide_eq_true_eq, Bool.not_eq_true', List.any_eq_false, Bool.not_eq_true, Bool.not_eq_false', List.all_eq_true]
  constructor
  · rintro ⟨h1, h2⟩
    exact ⟨by omega, fun f hf => by have := h2 f (List.mem_of_mem_take hf); simpa using this, by omega⟩
  · rintro ⟨h1, h2, h3⟩
    rw [List.take_of_length_le h3] at h2
    exact ⟨by omega, fun f hf => by have := h2 f hf; simp [this]⟩
theorem short_pure (l : List (List UInt8)) : APure Tryz.prog 23 [strs l] (B (shortB l)) := by
  refine apure_of (rs := [.tmp 2]) Tryz.func23 rfl rfl (Nat.le_of_ble_eq_true rfl) (by simp [AV.pureL, AV.pureB, AV.pureE, pureE_map]) (by first | rfl | (simp [AV.pureL, AV.pureB, AV.pureE, pureE_map])) fun e0 he0 => ?_
  refine W 2 ?_
  refine aw_loopk (ι := { k : Nat // k ≤ l.length ∧ k ≤ 20 ∧ ∀ i, (h : i < l.length) → i < k → decide (l[i].length ≤ 20) = true }) [0] (fun g => [(3, I g.1)]) (fun H g => H) (fun g => 20 - g.1) (⟨0, Nat.zero_le _, by omega, by omega⟩) ⟨J, J, trivial⟩ rfl ?_
  rintro ⟨k, hk, hok⟩
  dsimp only [keepS, St.put, sget, slotsOf, nn1, nn2, nn3, nn4, nn5, nn6, Nat.reduceBEq, Nat.reduceAdd, nn7, nn8]
  refine W 5 ?_
  refine sq_split 8 J (fun g2_4 => ?_) (fun g2_4 => ?_)
  · skip
    have g2_4' := g2_4
    try simp only [qq] at g2_4'
    have hkL : k < l.length := by omega
    refine W 3 ?_
    refine aw_cond J (fun c_11 => ?_) (fun c_11 => ?_)
    · skip
      have c_11' := c_11
      try simp only [qq] at c_11'
      refine W 6 ?_
      refine iff (fun c_19 c_19' => ?_) (fun c_19 c_19' => ?_)
      · skip
        refine W 1 ?_
        exact retQ_pure (v := .raw _) rfl rfl (Less.eq (by rw [shortB, allT_no (i := k) (n := 20) hkL (by omega) (by simp only [decide_eq_false_iff_not]; omega)]; rfl))
      · skip
        refine V 3 ?_
        refine sq_nil ?_
        have hgood : decide (l[k].length ≤ 20) = true := by simp only [decide_eq_true_eq]; omega
        exact ⟨⟨k + 1, by omega, by omega, fun i h hi => (by by_cases e : i = k; (subst e; exact hgood); exact hok.2 i h (by omega))⟩, by simp only; omega, Sub.slots ⟨J, J, trivial⟩⟩
    · skip
      have c_11' := c_11
      try simp only [qq] at c_11'
      refine W 4 ?_
      exact retQ_pure (v := .raw _) rfl rfl (Less.eq (by rw [shortB, allT_yes (n := 20) (fun i h hi => hok.2 i h (by omega))]; simp; omega))
  · skip
    have g2_4' := g2_4
    try simp only [qq] at g2_4'
    refine W 8 ?_
    exact retQ_pure (v := .raw _) rfl rfl (Less.eq (by rw [shortB, allT_yes (n := 20) (fun i h hi => hok.2 i h (by omega))]; simp; omega))
theorem few_pure (l : List Fg) : APure Tryz.prog 34 [figs l] (B (fewB l)) := by
 refine apure_of (rs := [.tmp 2]) Tryz.func34 rfl rfl (Nat.le_of_ble_eq_true rfl) (by simp [AV.pureL, AV.pureB, AV.pureE, pureE_map]) (by first | rfl | (simp [AV.pureL, AV.pureB, AV.pureE, pureE_map])) fun e0 he0 => ?_
 refine W 2 ?_
 refine aw_loopk (ι := { k : Nat // k ≤ l.length ∧ k ≤ 9 ∧ ∀ i, (h : i < l.length) → i < k → shortB l[i] = true }) [0] (fun g => [(3, I g.1)]) (fun H g => H) (fun g => 9 - g.1) (⟨0, Nat.zero_le _, by omega, by omega⟩) ⟨J, J, trivial⟩ rfl ?_
 rintro ⟨k, hk, hok⟩
 dsimp only [keepS, St.put, sget, slotsOf, nn1, nn2, nn3, nn4, nn5, nn6, Nat.reduceBEq, Nat.reduceAdd, nn7, nn8]
 refine W 5 ?_
 refine sq_split 8 J (fun g2_4 => ?_) (fun g2_4 => ?_)
 ·
  have g2_4' := g2_4
  try simp only [qq] at g2_4'
  have hkL : k < l.length := by omega
  refine W 3 ?_
  refine aw_cond J (fun c_11 => ?_) (fun c_11 => ?_)
  ·
   have c_11' := c_11
   try simp only [qq] at c_11'
   refine W 5 ?_
   refine cl A (short_pure _) ?_
   refine W 1 ?_
   refine aw_cond J (fun c_20 => ?_) (fun c_20 => ?_)
   ·
    have c_20' := c_20
    try simp only [qq] at c_20'
    refine W 1 ?_
    exact retQ_pure (v := .raw _) rfl rfl (Less.eq (by rw [fewB, allT_no (i := k) (n := 9) hkL (by omega) (by simpa using c_20)]; rfl))
   have c_20' := c_20
   try simp only [qq] at c_20'
   refine V 3 ?_
   refine sq_nil ?_
   have hgood : shortB l[k] = true := by simpa using c_20
   exact ⟨⟨k + 1, by omega, by omega, fun i h hi => (by by_cases e : i = k; (subst e; exact hgood); exact hok.2 i h (by omega))⟩, by simp only; omega, Sub.slots ⟨J, J, trivial⟩⟩
  have c_11' := c_11
  try simp only [qq] at c_11'
  refine W 4 ?_
  exact retQ_pure (v := .raw _) rfl rfl (Less.eq (by rw [fewB, allT_yes (n := 9) (fun i h hi => hok.2 i h (by omega))]; simp; omega))
 have g2_4' := g2_4
 try simp only [qq] at g2_4'
 refine W 8 ?_
 exact retQ_pure (v := .raw _) rfl rfl (Less.eq (by rw [fewB, allT_yes (n := 9) (fun i h hi => hok.2 i h (by omega))]; simp; omega))
theorem rfigures_pure (l : List Fg) : APure Tryz.prog 85 [figs l] (B ((l.take 6).all fgOK && decide (l.length ≤ 6))) := by
 refine apure_of (rs := [.tmp 2]) Tryz.func85 rfl rfl (Nat.le_of_ble_eq_true rfl) (by simp [AV.pureL, AV.pureB, AV.pureE, pureE_map]) (by first | rfl | (simp [AV.pureL, AV.pureB, AV.pureE, pureE_map])) fun e0 he0 => ?_
 refine W 2 ?_
 refine aw_loopk (ι := { k : Nat // k ≤ l.length ∧ k ≤ 6 ∧ ∀ i, (h : i < l.length) → i < k → fgOK l[i] = true }) [0] (fun g => [(3, I g.1)]) (fun H g => H) (fun g => 6 - g.1) (⟨0, Nat.zero_le _, by omega, by omega⟩) ⟨J, J, trivial⟩ rfl ?_
 rintro ⟨k, hk, hok⟩
 dsimp only [keepS, St.put, sget, slotsOf, nn1, nn2, nn3, nn4, nn5, nn6, Nat.reduceBEq, Nat.reduceAdd, nn7, nn8]
 refine W 5 ?_
 refine sq_split 8 J (fun g2_4 => ?_) (fun g2_4 => ?_)
 ·
  have g2_4' := g2_4
  try simp only [qq] at g2_4'
  have hkL : k < l.length := by omega
  refine W 3 ?_
  refine aw_cond J (fun c_11 => ?_) (fun c_11 => ?_)
  ·
   have c_11' := c_11
   try simp only [qq] at c_11'
   refine W 4 ?_
   refine cl A (rfigure_pure _) ?_
   refine W 1 ?_
   refine aw_cond J (fun c_19 => ?_) (fun c_19 => ?_)
   ·
    have c_19' := c_19
    try simp only [qq] at c_19'
    refine W 1 ?_
    exact retQ_pure (v := .raw _) rfl rfl (Less.eq (by rw [allT_no (i := k) (n := 6) hkL (by omega) (by simpa using c_19)]; rfl))
   have c_19' := c_19
   try simp only [qq] at c_19'
   refine V 3 ?_
   refine sq_nil ?_
   have hgood : fgOK l[k] = true := by simpa using c_19
   exact ⟨⟨k + 1, by omega, by omega, fun i h hi => (by by_cases e : i = k; (subst e; exact hgood); exact hok.2 i h (by omega))⟩, by simp only; omega, Sub.slots ⟨J, J, trivial⟩⟩
  have c_11' := c_11
  try simp only [qq] at c_11'
  refine W 4 ?_
  exact retQ_pure (v := .raw _) rfl rfl (Less.eq (by rw [allT_yes (n := 6) (fun i h hi => hok.2 i h (by omega))]; simp; omega))
 have g2_4' := g2_4
 try simp only [qq] at g2_4'
 refine W 8 ?_
 exact retQ_pure (v := .raw _) rfl rfl (Less.eq (by rw [allT_yes (n := 6) (fun i h hi => hok.2 i h (by omega))]; simp; omega))
theorem rcompany_pure (l : List Fg) : APure Tryz.prog 111 [figs l] (B (coOK l)) := by
 refine apure_of (rs := [.tmp 2]) Tryz.func111 rfl rfl (Nat.le_of_ble_eq_true rfl) (by simp [AV.pureL, AV.pureB, AV.pureE, pureE_map]) (by first | rfl | (simp [AV.pureL, AV.pureB, AV.pureE, pureE_map])) fun e0 he0 => ?_
 refine W 5 ?_
 refine sq_split 6 J (fun g1_3 => ?_) (fun g1_3 => ?_)
 ·
  have g1_3' := g1_3
  try simp only [qq] at g1_3'
  refine W 1 ?_
  refine cy A (rfigures_pure l) ?_
  refine W 2 ?_
  exact retQ_pure (v := .raw _) rfl rfl (Less.eq (by rw [coOK_ref]; simp [*] <;> (intros; omega)))
 have g1_3' := g1_3
 try simp only [qq] at g1_3'
 refine W 4 ?_
 exact retQ_pure (v := .raw _) rfl rfl (Less.eq (by rw [coOK_ref]; simp [*] <;> (intros; omega)))
end Go.Proofs.YtmbknoaneglilaaGreatDoor
namespace Go.Proofs.YtmbknoaneglilaaGreatDoor
open Go Go.Ab Ni Ol
instance en99 : EnT Tryz.prog 99 := ⟨Ent.of Tryz.func99 (by kernel_rfl) rfl⟩
def beyE (num den : Int) : Int := if num.tdiv den * den > num then num.tdiv den - 1 else num.tdiv den
theorem ropposed_pure (a b : UInt8) : APure Tryz.prog 72 [C a, C b] (B (opp a b)) := by
 refine apure_of (rs := [.tmp 4]) Tryz.func72 rfl rfl (Nat.le_of_ble_eq_true rfl) (by simp [AV.pureL, AV.pureB, AV.pureE, pureE_map]) (by first | rfl | (simp [AV.pureL, AV.pureB, AV.pureE, pureE_map])) fun e0 he0 => ?_
 refine W 4 ?_
 refine sq_split 7 J (fun g1_2 => ?_) (fun g1_2 => ?_)
 ·
  have g1_2' := g1_2
  try simp only [qq] at g1_2'
  refine W 4 ?_
  refine sq_split 11 J (fun g1_6 => ?_) (fun g1_6 => ?_)
  ·
   have g1_6' := g1_6
   try simp only [qq] at g1_6'
   refine W 8 ?_
   exact retQ_pure (v := .raw _) rfl rfl (Less.eq (by unfold opp; simp only [dec35, dec46] at *; simp [*]))
  have g1_6' := g1_6
  try simp only [qq] at g1_6'
  refine W 3 ?_
  refine sq_split 14 J (fun g1_9 => ?_) (fun g1_9 => ?_)
  ·
   have g1_9' := g1_9
   try simp only [qq] at g1_9'
   refine W 5 ?_
   exact retQ_pure (v := .raw _) rfl rfl (Less.eq (by unfold opp; simp only [dec35, dec46] at *; simp [*]))
  have g1_9' := g1_9
  try simp only [qq] at g1_9'
  refine W 5 ?_
  exact retQ_pure (v := .raw _) rfl rfl (Less.eq (by unfold opp; simp only [dec35, dec46] at *; simp [*]))
 have g1_2' := g1_2
 try simp only [qq] at g1_2'
 refine W 7 ?_
 refine sq_split 14 J (fun g1_9 => ?_) (fun g1_9 => ?_)
 ·
  have g1_9' := g1_9
  try simp only [qq] at g1_9'
  refine W 5 ?_
  exact retQ_pure (v := .raw _) rfl rfl (Less.eq (by unfold opp; simp only [dec35, dec46] at *; simp [*]))
 have g1_9' := g1_9
 try simp only [qq] at g1_9'
 refine W 5 ?_
 exact retQ_pure (v := .raw _) rfl rfl (Less.eq (by unfold opp; simp only [dec35, dec46] at *; simp [*]))
theorem samec_pure (a b : List (List UInt8)) (ha : a.length ≤ 1000000) (hb : b.length ≤ 1000000) : APure Tryz.prog 77 [strs a, strs b] (B (decide (a = b))) := by
 refine apure_of (rs := [.tmp 4]) Tryz.func77 rfl rfl (Nat.le_of_ble_eq_true rfl) (by simp [AV.pureL, AV.pureB, AV.pureE, pureE_map]) (by first | rfl | (simp [AV.pureL, AV.pureB, AV.pureE, pureE_map])) fun e0 he0 => ?_
 refine W 6 ?_
 refine ifn (fun c_10 c_10' => ?_) (fun c_10 c_10' => ?_)
 ·
  refine W 1 ?_
  exact retQ_pure (v := .raw _) rfl rfl (Less.eq (by rw [decide_eq_false (fun h => by rw [h] at c_10'; exact c_10' rfl)]))
 have hlen : a.length = b.length := by omega
 refine W 1 ?_
 refine aw_loopk (ι := { k : Nat // k ≤ a.length ∧ ∀ i, (h1 : i < a.length) → (h2 : i < b.length) → i < k → a[i] = b[i] }) [0, 1] (fun g => [(5, I g.1)]) (fun H g => H) (fun g => a.length - g.1) (⟨0, Nat.zero_le _, by omega⟩) ⟨J, J, J, trivial⟩ rfl ?_
 rintro ⟨k, hk, hok⟩
 dsimp only [keepS, St.put, sget, slotsOf, nn1, nn2, nn3, nn4, nn5, nn6, Nat.reduceBEq, Nat.reduceAdd, nn7, nn8]
 refine W 4 ?_
 refine iff (fun c_14 c_14' => ?_) (fun c_14 c_14' => ?_)
 ·
  have hkL : k < a.length := by omega
  refine W 0 ?_
  refine aw_draw 9 mo (by kernel_rfl) ?_
  refine WD 9 ?_
  refine W 0 ?_
  refine aw_cond J (fun c_25 => ?_) (fun c_25 => ?_)
  ·
   have c_25' := c_25
   try simp only [qq] at c_25'
   refine W 1 ?_
   exact retQ_pure (v := .raw _) rfl rfl (Less.eq (by rw [decide_eq_false (fun h => by subst h; simp at c_25')]))
  have c_25' := c_25
  try simp only [qq] at c_25'
  refine W 3 ?_
  exact ⟨⟨k + 1, by omega, fun i h1 h2 h => (by by_cases e : i = k; (subst e; simpa using c_25'); exact hok i h1 h2 (by omega))⟩, by simp only; omega, Sub.slots ⟨J, J, J, trivial⟩⟩
 have heq : a = b := same_ext hlen fun i h1 h2 => hok i h1 h2 (by omega)
 refine W 1 ?_
 exact retQ_pure (v := .raw _) rfl rfl (Less.eq (by rw [decide_eq_true heq]))
theorem rbook_pure (b : Bk) : APure Tryz.prog 55 [bkA b] (B (bkOK b)) := by
 refine apure_of (rs := [.tmp 2]) Tryz.func55 rfl rfl (Nat.le_of_ble_eq_true rfl) (by simp [AV.pureL, AV.pureB, AV.pureE, pureE_map]) (by first | rfl | (simp [AV.pureL, AV.pureB, AV.pureE, pureE_map])) fun e0 he0 => ?_
 refine W 4 ?_
 refine cl A (rstage_pure b.s) ?_
 refine W 1 ?_
 refine sq_split 6 J (fun g1_3 => ?_) (fun g1_3 => ?_)
 ·
  have g1_3' := g1_3
  try simp only [qq] at g1_3'
  refine W 2 ?_
  refine cy A (rcompany_pure b.l) ?_
  refine W 2 ?_
  exact retQ_pure (v := .raw _) rfl rfl (Less.eq (by unfold bkOK; simp [*]))
 have g1_3' := g1_3
 try simp only [qq] at g1_3'
 refine W 5 ?_
 exact retQ_pure (v := .raw _) rfl rfl (Less.eq (by unfold bkOK; simp [*]))
end Go.Proofs.YtmbknoaneglilaaGreatDoor
namespace Go.Proofs.YtmbknoaneglilaaGreatDoor
open Go Go.Ab Ni Ol
instance en27 : EnT Tryz.prog 27 := ⟨Ent.of Tryz.func27 (by kernel_rfl) rfl⟩
end Go.Proofs.YtmbknoaneglilaaGreatDoor
namespace Go.Proofs.YtmbknoaneglilaaGreatDoor
open Go Go.Ab Ni Ol
theorem cut_no {c : UInt8} : ∀ {l : List UInt8}, c ∉ l → cut c l = [l]
  | [], _ => rfl
  | b :: l, h => by
    rw [cut, if_neg (fun e => h (by simp [e])), cut_no (fun k => h (List.mem_cons_of_mem _ k))]
theorem cut_app {c : UInt8} : ∀ {w r : List UInt8}, c ∉ w → cut c (w ++ c :: r) = w :: cut c r
  | [], r, _ => by simp [cut]
  | b :: w, r, h => by
    rw [List.cons_append, cut, if_neg (fun e => h (by simp [e])), cut_app (fun k => h (List.mem_cons_of_mem _ k))]
theorem cut_out {c : UInt8} : ∀ {ls : List (List UInt8)} {r : List UInt8}, (∀ l ∈ ls, c ∉ l) → cut c ((ls.map fun l => l ++ [c]).flatten ++ r) = ls ++ cut c r
  | [], r, _ => by simp
  | l :: ls, r, h => by
    have e : ((l :: ls).map fun l => l ++ [c]).flatten ++ r = l ++ c :: ((ls.map fun l => l ++ [c]).flatten ++ r) := by simp
    rw [e, cut_app (h l (by simp)), cut_out (fun y hy => h y (List.mem_cons_of_mem _ hy))]; rfl
theorem itoa_fin : ∀ n : Fin 100, numO (Lib.itoa (n.val : Int)) = some (n.val : Int) ∧ (Lib.itoa (n.val : Int)).all isD = true ∧ (Lib.itoa (n.val : Int)).length ≤ 2 := by decide +kernel
theorem itoa_two {n : Int} (h : 0 ≤ n ∧ n ≤ 99) : numO (Lib.itoa n) = some n ∧ (Lib.itoa n).all isD = true ∧ (Lib.itoa n).length ≤ 2 := by
  have := itoa_fin ⟨n.toNat, by omega⟩
  rwa [show ((⟨n.toNat, by omega⟩ : Fin 100).val : Int) = n from (by simp; omega)] at this
theorem itoa_not {n : Int} (h : 0 ≤ n ∧ n ≤ 99) {c : UInt8} (hc : isD c = false) : c ∉ Lib.itoa n := fun k => by
  have := List.all_eq_true.1 (itoa_two h).2.1 c k
  rw [hc] at this; cases this
structure TdB (b : Bk) : Prop where
  head : ∀ n ∈ stL b.s, 0 ≤ n ∧ n ≤ 99
  fig : ∀ f ∈ b.l, 0 < f.length ∧ ∀ w ∈ f, w ≠ [] ∧ (10 : UInt8) ∉ w ∧ (32 : UInt8) ∉ w
theorem line_pre (s : Sg) (r : Option Fg) : lineO s r = nameW r ++ ((rowW s r).map fun x => 32 :: x).flatten := join_eq _ _
theorem name_not (r : Option Fg) {c : UInt8} (h1 : c ∉ wStage) (h2 : c ∉ wFigure) : c ∉ nameW r := by cases r <;> assumption
theorem words_not {b : Bk} (td : TdB b) {r : Option Fg} (h : r ∈ rowsB b) {c : UInt8} (hc : isD c = false) (h2 : c = 10 ∨ c = 32) : ∀ w ∈ rowW b.s r, c ∉ w := by
  rcases rowsB_mem h with rfl | ⟨f, hf, rfl⟩
  · intro w hw
    obtain ⟨n, hn, rfl⟩ := List.mem_map.1 hw
    exact itoa_not (td.head n hn) hc
  · intro w hw
    have := (td.fig f hf).2 w hw
    rcases h2 with rfl | rfl
    · exact this.2.1
    · exact this.2.2
theorem mem_pre {c : UInt8} (hc : c ≠ 32) {ws : List (List UInt8)} {w : List UInt8} (h : c ∉ w) (k : ∀ x ∈ ws, c ∉ x) : c ∉ w ++ (ws.map fun x => 32 :: x).flatten := fun hm => by
  rcases List.mem_append.1 hm with hm | hm
  · exact h hm
  · obtain ⟨y, hy, hm⟩ := List.mem_flatten.1 hm
    obtain ⟨x, hx, rfl⟩ := List.mem_map.1 hy
    rcases List.mem_cons.1 hm with hm | hm
    · exact hc hm
    · exact k x hx hm
theorem lines_not {b : Bk} (td : TdB b) : ∀ l ∈ linesB b, (10 : UInt8) ∉ l := fun l hl => by
  obtain ⟨r, hr, rfl⟩ := List.mem_map.1 hl
  rw [line_pre]
  exact mem_pre (by decide) (name_not r (by decide) (by decide)) (words_not td hr (by decide) (.inl rfl))
theorem rowsB_eq (b : Bk) : rowsB b = none :: b.l.map some := by unfold rowsB rowsT; rw [List.take_length]
theorem linesB_eq (b : Bk) : linesB b = lineO b.s none :: b.l.map fun f => lineO b.s (some f) := by
  unfold linesB; rw [rowsB_eq, List.map_cons, List.map_map]; rfl
def endL (c : Int) : List UInt8 := [101, 110, 100, 32] ++ digs3 c
theorem end_not {c : Int} (h : 0 ≤ c ∧ c ≤ 999) : (10 : UInt8) ∉ endL c := by
  have a1 := itoa_not (n := c / 100) (by omega) (c := 10) (by decide)
  have a2 := itoa_not (n := c / 10 % 10) (by omega) (c := 10) (by decide)
  have a3 := itoa_not (n := c % 10) (by omega) (c := 10) (by decide)
  unfold endL digs3
  simp [a1, a2, a3]
theorem seal_cut {ls : List (List UInt8)} (h : ∀ l ∈ ls, (10 : UInt8) ∉ l) : cut 10 (sealB ls) = ls ++ [endL (ctT ls ls.length % 173), []] := by
  have e : sealB ls = (ls.map fun l => l ++ [10]).flatten ++ (endL (ctT ls ls.length % 173) ++ 10 :: []) := by
    unfold sealB outT endL; rw [List.take_length]; simp
  rw [e, cut_out h, cut_app (end_not (by omega))]; rfl
theorem numsO_inv : ∀ {ws : List (List UInt8)} {l : List Int}, numsO ws = some l → l.length = ws.length ∧ ∀ n ∈ l, 0 ≤ n ∧ n ≤ 99
  | [], l, h => by simp only [numsO, Option.some.injEq] at h; subst h; simp
  | w :: ws, l, h => by
    rw [numsO] at h
    split at h
    · rename_i n l h1 h2
      simp only [Option.some.injEq] at h; subst h
      obtain ⟨h3, h4⟩ := numsO_inv h2
      refine ⟨by simp [h3], fun m hm => ?_⟩
      rcases List.mem_cons.1 hm with rfl | hm
      · exact numO_bd h1
      · exact h4 m hm
    · cases h
end Go.Proofs.YtmbknoaneglilaaGreatDoor
namespace Go.Proofs.YtmbknoaneglilaaGreatDoor
open Go Go.Ab Ni Ol
instance en58 : EnT Tryz.prog 58 := ⟨Ent.of Tryz.func58 (by kernel_rfl) rfl⟩
theorem tdiv_bd {a b N : Int} (ha : -N ≤ a ∧ a ≤ N) (hb : 0 < b) : (-N ≤ a.tdiv b ∧ a.tdiv b ≤ N) ∧ (-N ≤ a.tdiv b * b ∧ a.tdiv b * b ≤ N) := by
  have key : ∀ a : Int, 0 ≤ a → 0 ≤ a.tdiv b ∧ a.tdiv b ≤ a ∧ 0 ≤ a.tdiv b * b ∧ a.tdiv b * b ≤ a := fun a h => by
    rw [Int.tdiv_eq_ediv_of_nonneg h]
    have h1 := Int.ediv_nonneg h (show 0 ≤ b by omega)
    have h2 := Int.ediv_mul_le a (show b ≠ 0 by omega)
    have h3 := Int.mul_nonneg h1 (show 0 ≤ b by omega)
    exact ⟨h1, Int.ediv_le_self _ h, h3, h2⟩
  rcases Int.le_total 0 a with h | h
  · have := key a h; omega
  · have := key (-a) (by omega)
    rw [Int.neg_tdiv, Int.neg_mul] at this; omega
theorem beyE_eq {a b : Int} (hb : 0 < b) : beyE a b = a / b := by
  unfold beyE
  rcases Int.le_total 0 a with h | h
  · rw [Int.tdiv_eq_ediv_of_nonneg h, if_neg (by have := Int.ediv_mul_le a (show b ≠ 0 by omega); omega)]
  · have h1 : a.tdiv b = -((-a) / b) := by rw [← Int.tdiv_eq_ediv_of_nonneg (show 0 ≤ -a by omega), Int.neg_tdiv, Int.neg_neg]
    have e1 := Int.ediv_mul_le (-a) (show b ≠ 0 by omega)
    have e2 := Int.lt_ediv_add_one_mul_self (-a) hb
    rw [Int.add_mul] at e2
    rw [h1, Int.neg_mul]
    by_cases hd : (-a) / b * b = -a
    · rw [if_neg (by omega)]
      have : a / b = -((-a) / b) := by
        have : a = -((-a) / b) * b := by rw [Int.neg_mul]; omega
        conv => lhs; rw [this]
        rw [Int.mul_ediv_cancel _ (by omega)]
      omega
    · rw [if_pos (by omega)]
      apply Int.le_antisymm
      · apply (Int.le_ediv_iff_mul_le hb).2
        rw [Int.sub_mul, Int.neg_mul]; omega
      · apply Int.lt_add_one_iff.1
        apply (Int.ediv_lt_iff_lt_mul hb).2
        rw [show -((-a) / b) - 1 + 1 = -((-a) / b) by omega, Int.neg_mul]; omega
theorem fieldsOf_st {P : Program} {t : TypeId} {fs : Array Field} (h : P.underlying t = some (.struct fs)) : P.fieldsOf t = fs := by unfold Program.fieldsOf; rw [h]
abbrev stVals (x : Sg) : Array Value := #[.int .i64 x.wide, .int .i64 x.high, .int .i64 x.far, .int .i64 x.flame, .int .i64 x.x, .int .i64 x.y]
theorem stEq (a b : Sg) (w : World) : (Op.equalIn 10000 23 (.agg (stVals a)) (.agg (stVals b))).run Tryz.prog w = .ok (decide (a = b)) w := by
  have h3 : Tryz.prog.underlying 3 = some (.int .i64) := Tryz.underlying3
  rw [run_equalIn_struct w 9999 23 _ _ (by rw [fieldsOf_st Tryz.underlying23]; exact Tryz.underlying23) (by kernel_rfl), fieldsOf_st Tryz.underlying23]
  have q0 : ∀ (x : Sg) (w : World), (part 3 (stVals x) 0).run Tryz.prog w = .ok (.int .i64 x.wide) w := fun x w => by simp [part, Tryz.isAgg3]
  have q1 : ∀ (x : Sg) (w : World), (part 3 (stVals x) 1).run Tryz.prog w = .ok (.int .i64 x.high) w := fun x w => by simp [part, Tryz.isAgg3]
  have q2 : ∀ (x : Sg) (w : World), (part 3 (stVals x) 2).run Tryz.prog w = .ok (.int .i64 x.far) w := fun x w => by simp [part, Tryz.isAgg3]
  have q3 : ∀ (x : Sg) (w : World), (part 3 (stVals x) 3).run Tryz.prog w = .ok (.int .i64 x.flame) w := fun x w => by simp [part, Tryz.isAgg3]
  have q4 : ∀ (x : Sg) (w : World), (part 3 (stVals x) 4).run Tryz.prog w = .ok (.int .i64 x.x) w := fun x w => by simp [part, Tryz.isAgg3]
  have q5 : ∀ (x : Sg) (w : World), (part 3 (stVals x) 5).run Tryz.prog w = .ok (.int .i64 x.y) w := fun x w => by simp [part, Tryz.isAgg3]
  simp [Op.eqFields, q0, q1, q2, q3, q4, q5, run_equalIn_int _ _ _ _ _ _ _ h3]
  obtain ⟨a1, a2, a3, a4, a5, a6⟩ := a
  obtain ⟨b1, b2, b3, b4, b5, b6⟩ := b
  simp only [Sg.mk.injEq]
  by_cases e1 : a1 = b1 <;> by_cases e2 : a2 = b2 <;> by_cases e3 : a3 = b3 <;> by_cases e4 : a4 = b4 <;> by_cases e5 : a5 = b5 <;> by_cases e6 : a6 = b6 <;> simp [e1, e2, e3, e4, e5, e6]
structure Rz where
  fig : Int
  p : Pc
  deriving DecidableEq
section
variable {r : Option Nat} {H : List AObj} {ρ : Operand → AV} {d : Option Tmp} {t : TypeId} {p : String} {af : Array Edge} {g : Option (Nat × Bool)} {x y : Operand} {yt : TypeId}
theorem ev_st_neq {a b : Sg} (hx : Less (ρ x) (stA a)) (hy : Less (ρ y) (stA b)) : Ev Tryz.prog r ⟨d, .binOp .neq 23 x y yt, t, p, af, g⟩ H ρ (B (!decide (a = b))) :=
  ev_neq_agg (by kernel_rfl) (stEq a b) (Less.trans hx (less_agg_raw (vs := [.int .i64 a.wide, .int .i64 a.high, .int .i64 a.far, .int .i64 a.flame, .int .i64 a.x, .int .i64 a.y]) rfl)) (Less.trans hy (less_agg_raw (vs := [.int .i64 b.wide, .int .i64 b.high, .int .i64 b.far, .int .i64 b.flame, .int .i64 b.x, .int .i64 b.y]) rfl))
end
theorem bk_eq {a b : Bk} : a = b ↔ a.s = b.s ∧ a.l = b.l := by cases a; cases b; simp only [Bk.mk.injEq]
theorem beyond_pure {a b : Int} (ha : -1000000000 ≤ a ∧ a ≤ 1000000000) (hb : 0 < b ∧ b ≤ 1000000) : APure Tryz.prog 99 [I a, I b] (I (a / b)) := by
  refine apure_of (rs := [.tmp 4]) Tryz.func99 rfl rfl (Nat.le_of_ble_eq_true rfl) (by simp [AV.pureL, AV.pureB, AV.pureE, pureE_map]) (by first | rfl | (simp [AV.pureL, AV.pureB, AV.pureE, pureE_map])) fun e0 he0 => ?_
  have htd := tdiv_bd ha hb.1
  refine W 3 ?_
  refine sq_ev rfl (ev_quo (q := a.tdiv b) J J (by omega) (wr (by have := (tdiv_bd ha hb.1).1; omega) (by have := (tdiv_bd ha hb.1).1; omega))) ?_
  refine W 6 ?_
  refine iff (fun c_13 c_13' => ?_) (fun c_13 c_13' => ?_)
  · skip
    refine W 5 ?_
    exact retQ_pure (v := .raw _) rfl rfl (Less.eq (by rw [← beyE_eq hb.1]; unfold beyE; rw [if_pos (by simpa using c_13)]))
  · skip
    refine W 2 ?_
    exact retQ_pure (v := .raw _) rfl rfl (Less.eq (by rw [← beyE_eq hb.1]; unfold beyE; rw [if_neg (by simpa using c_13)]))
theorem lhide_pure (f : Fg) {x y den : Int} (hx : -1000000000 ≤ x ∧ x ≤ 1000000000) (hy : -1000000000 ≤ y ∧ y ≤ 1000000000) (hd : 0 < den ∧ den ≤ 1000000) : APure Tryz.prog 30 [fgA f, I x, I y, I den] (C (chF f (x / den) (y / den))) := by
 refine apure_of (rs := [.tmp 8]) Tryz.func30 rfl rfl (Nat.le_of_ble_eq_true rfl) (by simp [AV.pureL, AV.pureB, AV.pureE, pureE_map]) (by first | rfl | (simp [AV.pureL, AV.pureB, AV.pureE, pureE_map])) fun e0 he0 => ?_
 refine W 4 ?_
 refine cl A (beyond_pure hx hd) ?_
 refine W 2 ?_
 refine cl A (beyond_pure hy hd) ?_
 refine W 5 ?_
 refine sq_split 19 J (fun g2_2 => ?_) (fun g2_2 => ?_)
 ·
  have g2_2' := g2_2
  try simp only [qq] at g2_2'
  refine W 22 ?_
  exact retQ_pure (v := .raw _) rfl rfl (Less.eq (by unfold chF; rw [if_neg (by omega)]; rfl))
 have g2_2' := g2_2
 try simp only [qq] at g2_2'
 have j0 : 0 ≤ y / den := by omega
 refine W 7 ?_
 refine sq_split 26 J (fun g2_9 => ?_) (fun g2_9 => ?_)
 ·
  have g2_9' := g2_9
  try simp only [qq] at g2_9'
  refine W 15 ?_
  exact retQ_pure (v := .raw _) rfl rfl (Less.eq (by unfold chF; rw [if_neg (by omega)]; rfl))
 have g2_9' := g2_9
 try simp only [qq] at g2_9'
 have j1 : (y / den).toNat < f.length := by first | omega | (simp_all; done) | (simp_all; omega)
 refine W 4 ?_
 refine sq_split 30 J (fun g2_13 => ?_) (fun g2_13 => ?_)
 ·
  have g2_13' := g2_13
  try simp only [qq] at g2_13'
  refine W 11 ?_
  exact retQ_pure (v := .raw _) rfl rfl (Less.eq (by unfold chF; rw [if_neg (by omega)]; rfl))
 have g2_13' := g2_13
 try simp only [qq] at g2_13'
 have i0 : 0 ≤ x / den := by first | omega | (simp_all; done) | (simp_all; omega)
 refine W 4 ?_
 refine sq_yes rfl rfl (less_b g2_13) rfl (ev_index_map (k := (y / den).toNat) sl24.h J J (by omega) (by omega)) ?_
 refine W 4 ?_
 refine aw_cond J (fun c_39 => ?_) (fun c_39 => ?_)
 ·
  have c_39' := c_39
  try simp only [qq] at c_39'
  refine W 1 ?_
  exact retQ_pure (v := .raw _) rfl rfl (Less.eq (by unfold chF; rw [if_neg (fun h => by rw [getD_get j1] at h; omega)]; rfl))
 have c_39' := c_39
 try simp only [qq] at c_39'
 have i1 : (x / den).toNat < f[(y / den).toNat].length := by first | omega | (simp_all; done) | (simp_all; omega)
 refine W 3 ?_
 refine sq_ev rfl (ev_index_map (k := (y / den).toNat) sl24.h J J (by omega) (by omega)) ?_
 refine W 2 ?_
 refine sq_ev rfl (ev_idxS (k := (x / den).toNat) Tryz.underlying9 J J (by omega) (by omega)) ?_
 refine W 1 ?_
 exact retQ_pure (v := .raw _) rfl rfl (Less.eq (by unfold chF; rw [if_pos ⟨j0, by omega, i0, by rw [getD_get j1]; omega⟩, getD_get j1, getD_get i1]))
theorem rbooks_pure (a b : Bk) (ha : a.l.length ≤ 1000000 ∧ ∀ f ∈ a.l, f.length ≤ 1000000) (hb : b.l.length ≤ 1000000 ∧ ∀ f ∈ b.l, f.length ≤ 1000000) : APure Tryz.prog 58 [bkA a, bkA b] (B (decide (a = b))) := by
 refine apure_of (rs := [.tmp 4]) Tryz.func58 rfl rfl (Nat.le_of_ble_eq_true rfl) (by simp [AV.pureL, AV.pureB, AV.pureE, pureE_map]) (by first | rfl | (simp [AV.pureL, AV.pureB, AV.pureE, pureE_map])) fun e0 he0 => ?_
 refine W 7 ?_
 refine sq_ev rfl (ev_st_neq (a := a.s) (b := b.s) J J) ?_
 refine W 1 ?_
 refine sq_split 11 J (fun g1_5 => ?_) (fun g1_5 => ?_)
 ·
  have g1_5' := g1_5
  try simp only [qq] at g1_5'
  refine W 10 ?_
  exact retQ_pure (v := .raw _) rfl rfl (Less.eq (by rw [decide_eq_false (fun h => by subst h; simp at g1_5')]))
 have g1_5' := g1_5
 try simp only [qq] at g1_5'
 have hst : a.s = b.s := by first | exact g1_5' | simpa using g1_5
 refine W 8 ?_
 refine aw_cond J (fun c_19 => ?_) (fun c_19 => ?_)
 ·
  have c_19' := c_19
  try simp only [qq] at c_19'
  refine W 1 ?_
  exact retQ_pure (v := .raw _) rfl rfl (Less.eq (by rw [decide_eq_false (fun h => by subst h; simp at c_19')]))
 have c_19' := c_19
 try simp only [qq] at c_19'
 have hlen : a.l.length = b.l.length := by omega
 refine W 1 ?_
 refine aw_loopk (ι := { k : Nat // k ≤ a.l.length ∧ ∀ i, (h1 : i < a.l.length) → (h2 : i < b.l.length) → i < k → a.l[i] = b.l[i] }) [2, 3] (fun g => [(5, I g.1)]) (fun H g => H) (fun g => a.l.length - g.1) (⟨0, Nat.zero_le _, by omega⟩) ⟨J, J, J, trivial⟩ rfl ?_
 rintro ⟨k, hk, hok⟩
 dsimp only [keepS, St.put, sget, slotsOf, nn1, nn2, nn3, nn4, nn5, nn6, Nat.reduceBEq, Nat.reduceAdd, nn7, nn8]
 refine W 5 ?_
 refine iff (fun c_24 c_24' => ?_) (fun c_24 c_24' => ?_)
 ·
  have hkL : k < a.l.length := by omega
  refine W 0 ?_
  refine aw_draw 14 mo (by kernel_rfl) ?_
  refine WD 12 ?_
  refine dcl A (samec_pure _ _ (ha.2 _ (List.getElem_mem hkL)) (hb.2 _ (List.getElem_mem (by omega)))) ?_
  refine WD 1 ?_
  refine W 0 ?_
  refine aw_cond J (fun c_40 => ?_) (fun c_40 => ?_)
  ·
   have c_40' := c_40
   try simp only [qq] at c_40'
   refine W 1 ?_
   exact retQ_pure (v := .raw _) rfl rfl (Less.eq (by rw [decide_eq_false (fun h => by subst h; simp at c_40')]))
  have c_40' := c_40
  try simp only [qq] at c_40'
  refine W 3 ?_
  exact ⟨⟨k + 1, by omega, fun i h1 h2 h => (by by_cases e : i = k; (subst e; simpa using c_40'); exact hok i h1 h2 (by omega))⟩, by simp only; omega, Sub.slots ⟨J, J, J, trivial⟩⟩
 have heq : a = b := bk_eq.2 ⟨hst, same_ext hlen fun i h1 h2 => hok i h1 h2 (by omega)⟩
 refine W 1 ?_
 exact retQ_pure (v := .raw _) rfl rfl (Less.eq (by rw [decide_eq_true heq]))
end Go.Proofs.YtmbknoaneglilaaGreatDoor
namespace Go.Proofs.YtmbknoaneglilaaGreatDoor
open Go Go.Ab Ni Ol
instance en54 : EnT Tryz.prog 54 := ⟨Ent.of Tryz.func54 (by kernel_rfl) rfl⟩
instance en55 : EnT Tryz.prog 55 := ⟨Ent.of Tryz.func55 (by kernel_rfl) rfl⟩
section
variable [Tabs]
section seq
variable {c : Ctx} {ops : Array Oper} {Q : AExit → St → Prop} {rest : List Oper} {s : St} {i : Nat}
variable {d : Option Tmp} {t : TypeId} {p : String} {af : Array Edge}
end seq
section ev
variable {P : Program} {r : Option Nat} {H : List AObj} {ρ : Operand → AV}
variable {d : Option Tmp} {t : TypeId} {p : String} {af : Array Edge} {g : Option (Nat × Bool)}
end ev
end
theorem ok_bk {b : Bk} (h : bkOK b = true) : b.l.length ≤ 1000000 ∧ ∀ f ∈ b.l, f.length ≤ 1000000 := by
  unfold bkOK at h
  rw [Bool.and_eq_true] at h
  obtain ⟨h1, h2⟩ := coOK_small h.2
  exact ⟨by omega, fun f hf => by have := (h2 f hf).1; omega⟩
end Go.Proofs.YtmbknoaneglilaaGreatDoor
namespace Go.Proofs.YtmbknoaneglilaaGreatDoor
open Go Go.Ab Ni Ol
instance en127 : EnT Tryz.prog 127 := ⟨Ent.of Tryz.func127 (by kernel_rfl) rfl⟩
instance en128 : EnT Tryz.prog 128 := ⟨Ent.of Tryz.func128 (by kernel_rfl) rfl⟩
instance en165 : EnT Tryz.prog 165 := ⟨Ent.of Tryz.func165 (by kernel_rfl) rfl⟩
theorem bs_extract (s : List UInt8) (lo hi : Nat) : (⟨s.toArray⟩ : ByteArray).extract lo hi = ⟨((s.take hi).drop lo).toArray⟩ := by
  apply ByteArray.ext
  rw [ByteArray.data_extract]
  apply Array.ext'
  simp [List.drop_take]
theorem cut_piece {c : UInt8} {s : List UInt8} {f i : Nat} (hf : f ≤ i) (hi : i < s.length) (hc : s[i] = c) (hn : ∀ j (h : j < s.length), f ≤ j → j < i → s[j] ≠ c) : cut c (s.drop f) = ((s.take i).drop f) :: cut c (s.drop (i + 1)) := by
  have e : s.drop f = (s.take i).drop f ++ c :: s.drop (i + 1) := by
    have h1 : s.take i ++ s.drop i = s := List.take_append_drop i s
    have h2 : s.drop i = c :: s.drop (i + 1) := by rw [← hc]; exact List.drop_eq_getElem_cons hi
    conv => lhs; rw [← h1, h2, List.drop_append_of_le_length (by simp; omega)]
  rw [e]
  refine cut_app fun hm => ?_
  obtain ⟨j, hj, ej⟩ := List.getElem_of_mem hm
  rw [List.length_drop, List.length_take] at hj
  rw [List.getElem_drop, List.getElem_take] at ej
  exact hn (f + j) (by omega) (by omega) (by omega) ej
theorem cut_last {c : UInt8} {s : List UInt8} {f : Nat} (hn : ∀ j (h : j < s.length), f ≤ j → s[j] ≠ c) : cut c (s.drop f) = [s.drop f] := by
  refine cut_no fun hm => ?_
  obtain ⟨j, hj, ej⟩ := List.getElem_of_mem hm
  rw [List.length_drop] at hj
  rw [List.getElem_drop] at ej
  exact hn (f + j) (by omega) (by omega) ej
theorem u8_ne {a c : UInt8} (h : ¬ (a.toNat : Int) = c.toNat) : a ≠ c := fun e => h (by rw [e])
theorem u8_eq {a c : UInt8} (h : (a.toNat : Int) = c.toNat) : a = c := UInt8.toNat_inj.1 (by omega)
def numQ (w : List UInt8) : Int × Bool := if w = [] ∨ 2 < w.length then (0, false) else if ¬ w.all isD = true then (0, false) else (valN w, decide (Lib.itoa (valN w) = w))
theorem numQ_some {w : List UInt8} {n : Int} (h : numO w = some n) : numQ w = (n, true) := by
  unfold numO at h
  split at h
  · rename_i g
    simp only [Option.some.injEq] at h; subst h
    unfold numQ
    rw [if_neg (by intro k; rcases k with k | k; exact g.2.2.1 k; omega), if_neg (by simpa using g.1), decide_eq_true g.2.2.2]
  · cases h
theorem numQ_none {w : List UInt8} (h : numO w = none) : (numQ w).2 = false := by
  unfold numO at h
  split at h
  · cases h
  · rename_i g
    unfold numQ
    split
    · rfl
    · split
      · rfl
      · rename_i g1 g2
        simp only [decide_eq_false_iff_not]
        intro e
        exact g ⟨Decidable.not_not.1 g2, by omega, fun k => g1 (.inl k), e⟩
theorem numQ_long {w : List UInt8} (h : w = [] ∨ 2 < w.length) : numQ w = (0, false) := by unfold numQ; rw [if_pos h]
theorem numQ_dig {w : List UInt8} {k : Nat} (hk : k < w.length) (h : isD w[k] = false) : numQ w = (0, false) := by
  unfold numQ
  split
  · rfl
  · rw [if_pos (by intro g; have := List.all_eq_true.1 g _ (List.getElem_mem hk); rw [h] at this; cases this)]
theorem numQ_end {w : List UInt8} (h : ¬ (w = [] ∨ 2 < w.length)) (hd : ∀ i, (h : i < w.length) → isD w[i] = true) : numQ w = (valN w, decide (Lib.itoa (valN w) = w)) := by
  unfold numQ
  rw [if_neg h, if_neg (by
    simp only [Decidable.not_not, List.all_eq_true]
    intro x hx
    obtain ⟨i, hi, rfl⟩ := List.getElem_of_mem hx
    exact hd i hi)]
def numsV (ws : List (List UInt8)) : List Int := (numsO ws).getD []
theorem rsplit_pure (s : List UInt8) (c : UInt8) (hs : s.length ≤ 1000000) : APure Tryz.prog 127 [S s, .raw (.int .u8 c.toNat)] (.sl 1 ((cut c s).map fun p => [S p])) := by
  refine apure_of (rs := [.tmp 4]) Tryz.func127 rfl rfl (Nat.le_of_ble_eq_true rfl) (by simp [AV.pureL, AV.pureB, AV.pureE, pureE_map]) (by simp [AV.pureL, AV.pureB, AV.pureE, pureE_map]) fun e0 he0 => ?_
  refine V 4 ?_
  refine sq_nil (aw_block ?_)
  refine aw_sub (sub_token 5 1 J) ?_
  refine aw_loopk (ι := { x : Nat × Nat × List (List UInt8) // (x.1 ≤ s.length ∧ x.2.1 ≤ x.1) ∧ (∀ j, (h : j < s.length) → x.2.1 ≤ j → j < x.1 → s[j] ≠ c) ∧ x.2.2 ++ cut c (s.drop x.2.1) = cut c s }) [0, 1] (fun x => [(7, I x.1.1), (6, I x.1.2.1), (5, .own 0 1 ((x.1.2.2).map (fun p => [S p])))]) (fun H x => [.tok (x.1.2.2.map (fun p => [S p])).length]) (fun x => s.length - x.1.1) (⟨(0, 0, []), ⟨Nat.zero_le _, Nat.le_refl _⟩, fun j _ _ h => by simp at h, by simp⟩) ⟨J, J, J, J, J, trivial⟩ rfl ?_
  rintro ⟨⟨i, f, out⟩, ⟨hi, hfi⟩, hno, hcut⟩
  dsimp only [keepS, St.put, sget, slotsOf, nn1, nn2, nn3, nn4, nn5, nn6, Nat.reduceBEq, Nat.reduceAdd, nn7, nn8]
  simp only at hi hfi hno hcut
  have hcl := cut_len c s
  have hol : out.length ≤ s.length + 1 := by have := congrArg List.length hcut; rw [List.length_append] at this; omega
  refine W 4 ?_
  refine iff (fun c1 c1' => ?_) (fun c1 c1' => ?_)
  · skip
    have hi' : i < s.length := by omega
    refine W 4 ?_
    refine sq_ev rfl (ev_eql (k := .u8) J J) ?_
    refine W 0 ?_
    refine aw_cond J (fun c2 => ?_) (fun c2 => ?_)
    · skip
      have c2' := c2
      try simp only [qq] at c2'
      refine W 4 ?_
      refine sq_ev rfl (ev_less (ev_slice_str (s := ⟨s.toArray⟩) (lo := f) (hi := i) Tryz.underlying9 J J J hfi (by rw [bs_size]; omega)) (Less.eq (b := S ((s.take i).drop f)) (by rw [bs_extract]))) ?_
      refine sq_ev rfl (ev_buildSlice (es := [[_]]) sf24.h rfl rfl rfl rfl) ?_
      first | refine sq_append rfl sf24.h Tryz.underlying24 rfl rfl J (Nat.succ_pos _) (by simp; omega) (by simp; omega) ?_ | refine sq_append rfl sf24.h Tryz.underlying24 rfl rfl (less_slx _ _) (Nat.succ_pos _) (by simp; omega) (by simp; omega) ?_
      refine W 7 ?_
      exact ⟨⟨(i + 1, i + 1, out ++ [(s.take i).drop f]), ⟨by simp only; omega, Nat.le_refl _⟩, fun j _ h1 h2 => by simp only at h1 h2; omega, by simp only; rw [← hcut, cut_piece hfi hi' (u8_eq c2') (fun j h h1 h2 => hno j h h1 h2)]; simp⟩, by simp only; omega, Sub.fin 1 ⟨J, J, Less.eq (b := .own 0 1 ((out ++ [(s.take i).drop f]).map (fun p => [S p]))) (by rw [List.map_append] <;> rfl), J, J, trivial⟩ (congrArg (fun n => [AObj.tok n]) (by simp)) (by simp [slotsIn, objsIn, sget, keepS, AObj.inB, AV.inB, AV.inL, AV.inE, inE_map, inE_ints, inE_strs, inE_figs, inE_cloths, -List.map_append, -List.map_take, -List.map_map]) (by simp [slotsIn, objsIn, sget, keepS, AObj.inB, AV.inB, AV.inL, AV.inE, inE_map, inE_ints, inE_strs, inE_figs, inE_cloths, -List.map_append, -List.map_take, -List.map_map]) (by simp [he0])⟩
    · skip
      have c2' := c2
      try simp only [qq] at c2'
      refine W 3 ?_
      exact ⟨⟨(i + 1, f, out), ⟨by simp only; omega, by simp only; omega⟩, fun j h h1 h2 => by
              simp only at h1 h2
              by_cases e : j = i
              · subst e; exact u8_ne c2'
              · exact hno j h h1 (by omega), hcut⟩, by simp only; omega, Sub.fin 1 ⟨J, J, J, J, J, trivial⟩ rfl (by simp [slotsIn, objsIn, sget, keepS, AObj.inB, AV.inB, AV.inL, AV.inE, inE_map, inE_ints, inE_strs, inE_figs, inE_cloths, -List.map_append, -List.map_take, -List.map_map]) (by simp [slotsIn, objsIn, sget, keepS, AObj.inB, AV.inB, AV.inL, AV.inE, inE_map, inE_ints, inE_strs, inE_figs, inE_cloths, -List.map_append, -List.map_take, -List.map_map]) (by simp [he0])⟩
  · skip
    obtain rfl : i = s.length := by omega
    have hlast := cut_last (c := c) (s := s) (f := f) (fun j h h2 => hno j h h2 (by omega))
    rw [hlast] at hcut
    refine W 3 ?_
    refine sq_ev rfl (ev_less (ev_slice_str (s := ⟨s.toArray⟩) (lo := f) (hi := s.length) Tryz.underlying9 J J (by rw [bs_size]) (by omega) (by rw [bs_size]; omega)) (Less.eq (b := S (s.drop f)) (by rw [bs_extract, List.take_length]))) ?_
    refine sq_ev rfl (ev_buildSlice (es := [[_]]) sf24.h rfl rfl rfl rfl) ?_
    first | refine sq_append rfl sf24.h Tryz.underlying24 rfl rfl J (Nat.succ_pos _) (by simp; omega) (by simp; omega) ?_ | refine sq_append rfl sf24.h Tryz.underlying24 rfl rfl (less_slx _ _) (Nat.succ_pos _) (by simp; omega) (by simp; omega) ?_
    refine W 1 ?_
    exact retQ_pure (v := .own _ _ _) rfl rfl (Less.trans (less_own _ _ _) (Less.eq (by rw [← hcut]; simp)))
theorem rnumber_pure (w : List UInt8) (hw : w.length ≤ 1000000) : APure Tryz.prog 165 [S w, I 2] (.tup [I (numQ w).1, B (numQ w).2]) := by
 refine apure_of (rs := [.tmp 4, .tmp 5]) Tryz.func165 rfl rfl (Nat.le_of_ble_eq_true rfl) (by simp [AV.pureL, AV.pureB, AV.pureE, pureE_map]) (by first | rfl | (simp [AV.pureL, AV.pureB, AV.pureE, pureE_map])) fun e0 he0 => ?_
 refine W 6 ?_
 refine sq_split 11 J (fun g1 => ?_) (fun g1 => ?_)
 ·
  have g1' := g1
  try simp only [qq] at g1'
  have hwe : w = [] := List.length_eq_zero_iff.1 (by omega)
  refine W 8 ?_
  exact retQ_pure (v := .tup [.raw _, .raw _]) rfl rfl (Less.eq (by rw [numQ_long (.inl hwe)]))
 have g1' := g1
 try simp only [qq] at g1'
 have hw0 : w ≠ [] := fun e => by subst e; simp at g1
 refine W 5 ?_
 refine aw_cond J (fun c2 => ?_) (fun c2 => ?_)
 ·
  have c2' := c2
  try simp only [qq] at c2'
  refine W 2 ?_
  exact retQ_pure (v := .tup [.raw _, .raw _]) rfl rfl (Less.eq (by rw [numQ_long (.inr (by omega))]))
 have c2' := c2
 try simp only [qq] at c2'
 have hlen : ¬ (w = [] ∨ 2 < w.length) := by rintro (h | h); exact hw0 h; omega
 have hl3 : w.length ≤ 2 := by omega
 refine W 2 ?_
 refine aw_loopk (ι := { k : Nat // k ≤ w.length ∧ ∀ i, (h : i < w.length) → i < k → isD w[i] = true }) [0] (fun k => [(7, I k.1), (6, I (valN (w.take k.1)))]) (fun H k => H) (fun k => w.length - k.1) (⟨0, Nat.zero_le _, by omega⟩) ⟨J, (by exact less_int (by simp [valN])), J, trivial⟩ rfl ?_
 rintro ⟨k, hk, hds⟩
 dsimp only [keepS, St.put, sget, slotsOf, nn1, nn2, nn3, nn4, nn5, nn6, Nat.reduceBEq, Nat.reduceAdd, nn7, nn8]
 have hv := valN_999 hk (by omega) hds
 refine W 4 ?_
 refine iff (fun c3 c3' => ?_) (fun c3 c3' => ?_)
 ·
  have hk' : k < w.length := by omega
  have hb8 : (w[k]).toNat < 256 := UInt8.toNat_lt _
  refine W 5 ?_
  refine sq_split 27 J (fun g4 => ?_) (fun g4 => ?_)
  ·
   have g4' := g4
   try simp only [qq] at g4'
   refine W 8 ?_
   exact retQ_pure (v := .tup [.raw _, .raw _]) rfl rfl (Less.eq (by rw [numQ_dig hk' (show isD w[k] = false from by rw [← Bool.not_eq_true, isD_iff]; omega)]))
  have g4' := g4
  try simp only [qq] at g4'
  refine W 5 ?_
  refine aw_cond J (fun c5 => ?_) (fun c5 => ?_)
  ·
   have c5' := c5
   try simp only [qq] at c5'
   refine W 2 ?_
   exact retQ_pure (v := .tup [.raw _, .raw _]) rfl rfl (Less.eq (by rw [numQ_dig hk' (show isD w[k] = false from by rw [← Bool.not_eq_true, isD_iff]; omega)]))
  have c5' := c5
  try simp only [qq] at c5'
  have hdk : isD w[k] = true := (isD_iff _).2 (by omega)
  refine W 12 ?_
  exact ⟨⟨k + 1, by omega, fun i h hi => (by by_cases e : i = k; (subst e; exact hdk); exact hds i h (by omega))⟩, by simp only; omega, Sub.slots ⟨J, (by exact less_int (valN_take hk').symm), J, trivial⟩⟩
 obtain rfl : k = w.length := by omega
 have htk : w.take w.length = w := List.take_length
 have hv1 := hv
 rw [htk] at hv
 refine W 2 ?_
 refine cl A (rdecimal_pure _ (by omega)) ?_
 refine W 4 ?_
 exact retQ_pure (v := .tup [.raw _, .raw _]) rfl rfl (Less.eq (by rw [numQ_end hlen (fun i h => hds i h h)]; simp [htk]))
theorem rnumbers_pure (ws : List (List UInt8)) (hw : ws.length ≤ 1000000) (hb : ∀ w ∈ ws, w.length ≤ 1000000) : APure Tryz.prog 128 [.sl 1 (ws.map fun p => [S p]), I 2] (.tup [ints (numsV ws), B (numsO ws).isSome]) := by
 refine apure_of (rs := [.tmp 4, .tmp 5]) Tryz.func128 rfl rfl (Nat.le_of_ble_eq_true rfl) (by simp [AV.pureL, AV.pureB, AV.pureE, pureE_map]) (by simp [AV.pureL, AV.pureB, AV.pureE, pureE_map]) fun e0 he0 => ?_
 refine V 4 ?_
 refine sq_nil (aw_block ?_)
 refine aw_sub (sub_token 6 1 J) ?_
 refine aw_loopk (ι := { k : Nat // k ≤ ws.length ∧ ∀ i, (h : i < ws.length) → i < k → numO ws[i] = some (valN ws[i]) }) [0, 1] (fun i => [(7, I i.1), (6, .own 0 1 (((ws.take i.1).map valN).map fun x => [I x]))]) (fun H i => H.set 0 (.tok (((ws.take i.1).map valN).map fun x => [I x]).length)) (fun i => ws.length - i.1) (⟨0, Nat.zero_le _, by omega⟩) ⟨J, J, J, J, trivial⟩ rfl ?_
 rintro ⟨k, hk, hok⟩
 dsimp only [keepS, St.put, sget, slotsOf, nn1, nn2, nn3, nn4, nn5, nn6, Nat.reduceBEq, Nat.reduceAdd, nn7, nn8]
 refine W 4 ?_
 refine iff (fun c1 c1' => ?_) (fun c1 c1' => ?_)
 ·
  have hk' : k < ws.length := by omega
  refine W 5 ?_
  refine cl A (rnumber_pure ws[k] (hb _ (List.getElem_mem hk'))) ?_
  refine W 7 ?_
  refine aw_cond J (fun c2 => ?_) (fun c2 => ?_)
  ·
   have c2' := c2
   try simp only [qq] at c2'
   have hnn : numO ws[k] = none := by
     cases h : numO ws[k] with
     | none => rfl
     | some n => rw [numQ_some h] at c2'; cases c2'
   have hns : numsO ws = none := numsO_bad hk' hnn
   refine W 2 ?_
   exact retQ_pure (v := .tup [.raw _, .raw _]) rfl rfl (Less.trans (b := .tup [.sl 1 [], B false]) (less_tup ⟨less_nil 1, J, trivial⟩) (Less.eq (by simp [numsV, hns])))
  have c2' := c2
  try simp only [qq] at c2'
  have hnk : numO ws[k] = some (valN ws[k]) := by
    cases h : numO ws[k] with
    | none => rw [numQ_none h] at c2'; cases c2'
    | some n => rw [← numO_val h]
  have eS : ((ws.take (k + 1)).map valN).map (fun x => [I x]) = ((ws.take k).map valN).map (fun x => [I x]) ++ [[I (numQ ws[k]).1]] := by rw [map_take_succ _ hk', List.map_append, numQ_some hnk]; rfl
  refine W 2 ?_
  refine sq_ev rfl (ev_buildSlice (es := [[_]]) sf64.h rfl rfl rfl rfl) ?_
  first | refine sq_append rfl sf64.h Tryz.underlying64 rfl rfl J (Nat.succ_pos _) (by simp; omega) (by simp; omega) ?_ | refine sq_append rfl sf64.h Tryz.underlying64 rfl rfl (less_slx _ _) (Nat.succ_pos _) (by simp; omega) (by simp; omega) ?_
  refine W 4 ?_
  exact ⟨⟨k + 1, by omega, fun i h hi => (by by_cases e : i = k; (subst e; exact hnk); exact hok i h (by omega))⟩, by simp only; omega, Sub.fin 1 ⟨J, Less.eq (b := .own 0 1 (((ws.take (k + 1)).map valN).map fun x => [I x])) (by rw [eS] <;> rfl), J, J, trivial⟩ (congrArg (fun n => [AObj.tok n]) (congrArg List.length eS.symm)) (by simp [slotsIn, objsIn, sget, keepS, AObj.inB, AV.inB, AV.inL, AV.inE, inE_map, inE_ints, inE_strs, inE_figs, inE_cloths, -List.map_append, -List.map_take, -List.map_map]) (by simp [slotsIn, objsIn, sget, keepS, AObj.inB, AV.inB, AV.inL, AV.inE, inE_map, inE_ints, inE_strs, inE_figs, inE_cloths, -List.map_append, -List.map_take, -List.map_map]) (by simp [he0])⟩
 obtain rfl : k = ws.length := by omega
 have hns : numsO ws = some (ws.map valN) := numsO_ok (fun i h => hok i h h)
 refine W 3 ?_
 exact retQ_pure (v := .tup [.own _ _ _, .raw _]) rfl rfl (Less.trans (b := .tup [ints (ws.map valN), B true]) (less_tup ⟨Less.trans (less_own _ _ _) (Less.eq (by simp)), J, trivial⟩) (Less.eq (by simp [numsV, hns])))
end Go.Proofs.YtmbknoaneglilaaGreatDoor
namespace Go.Proofs.YtmbknoaneglilaaGreatDoor
open Go Go.Ab Ni Ol
instance en59 : EnT Tryz.prog 59 := ⟨Ent.of Tryz.func59 (by kernel_rfl) rfl⟩
abbrev I6 := Int × Int × Int × Int × Int × Int
def l6 (a : I6) : List Int := [a.1, a.2.1, a.2.2.1, a.2.2.2.1, a.2.2.2.2.1, a.2.2.2.2.2]
def bk6 (a : I6) (q : List Fg) : Bk := ⟨⟨a.1, a.2.1, a.2.2.1, a.2.2.2.1, a.2.2.2.2.1, a.2.2.2.2.2⟩, q⟩
def RdInv (r0 : List UInt8) (rs : List (List UInt8)) (i : Nat) (a : I6) (q : List Fg) : Prop :=
  (i = 0 ∧ a = (0, 0, 0, 0, 0, 0) ∧ q = []) ∨ (i = q.length + 1 ∧ 2 ≤ rs.length ∧ (∃ w0 ws, cut 32 r0 = w0 :: ws ∧ ws.length = 6 ∧ numsO ws = some (l6 a)) ∧ q.length ≤ (rs.take (rs.length - 2)).length ∧
    ∀ j, (h : j < q.length) → (h2 : j < (rs.take (rs.length - 2)).length) → rowO (rs.take (rs.length - 2))[j] = some q[j])
theorem sum_itoa : ∀ {l : List Int}, (∀ n ∈ l, 0 ≤ n ∧ n ≤ 99) → sumL (l.map Lib.itoa) ≤ 3 * l.length
  | [], _ => by simp [sumL]
  | n :: l, h => by
    have h1 := (itoa_two (h n (by simp))).2.2
    have h2 := sum_itoa (l := l) fun m hm => h m (List.mem_cons_of_mem _ hm)
    simp only [sumL, List.map_cons, List.sum_cons, List.length_cons] at h2 ⊢
    omega
theorem smb_gen {b : Bk} (hb : ∀ n ∈ stL b.s, 0 ≤ n ∧ n ≤ 99) (hq : b.l.length ≤ 1000) (hs : ∀ f ∈ b.l, sumL f ≤ 900 ∧ f.length ≤ 100000) : SmB b := by
  refine ⟨fun n hn => by have := hb n hn; omega, fun f hf => (hs f hf).2, fun r hr => ?_, hq⟩
  rcases rowsB_mem hr with rfl | ⟨f, hh, rfl⟩
  · unfold lineO nameW rowW
    rw [join_len]
    have := sum_itoa hb
    have e : (stL b.s).length = 6 := rfl
    rw [e] at this
    have e2 : wStage.length = 5 := rfl
    simp only; omega
  · unfold lineO nameW rowW
    rw [join_len]
    have := (hs f hh).1
    have e2 : wFigure.length = 6 := rfl
    simp only; omega
theorem rd_sm {r0 : List UInt8} {rs : List (List UInt8)} {i : Nat} {a : I6} {q : List Fg} (hr : rs.length ≤ 900) (hm : ∀ r ∈ rs, r.length ≤ 900) (h : RdInv r0 rs i a q) : SmB (bk6 a q) ∧ ∀ n ∈ stL (bk6 a q).s, 0 ≤ n ∧ n ≤ 99 := by
  rcases h with ⟨_, rfl, rfl⟩ | ⟨_, _, ⟨w0, ws, _, _, hn⟩, hl, hok⟩
  · have hb : ∀ n ∈ stL (bk6 (0, 0, 0, 0, 0, 0) []).s, 0 ≤ n ∧ n ≤ 99 := fun n hn => by
      simp only [stL, bk6, List.mem_cons, List.not_mem_nil, or_false] at hn; omega
    exact ⟨smb_gen hb (by simp [bk6]) (fun f hf => by simp [bk6] at hf), hb⟩
  · have hb : ∀ n ∈ stL (bk6 a q).s, 0 ≤ n ∧ n ≤ 99 := fun n h => (numsO_inv hn).2 n h
    refine ⟨smb_gen hb (by rw [List.length_take] at hl; show q.length ≤ 1000; omega) (fun f hf => ?_), hb⟩
    obtain ⟨j, hj, rfl⟩ := List.getElem_of_mem (show f ∈ q from hf)
    have h2 : j < (rs.take (rs.length - 2)).length := by omega
    have h1 := rowO_len (hok j hj h2)
    have h3 := hm _ (List.mem_of_mem_take (List.getElem_mem h2))
    omega
theorem none_of {α : Type} {o : Option α} (h : o.isSome = false) : o = none := by cases o <;> simp_all
theorem rsplit10 (s : List UInt8) (hs : s.length ≤ 1000000) : APure Tryz.prog 127 [S s, .raw (.int .u8 10)] (.sl 1 ((cut 10 s).map fun p => [S p])) := rsplit_pure s 10 hs
theorem rsplit32 (s : List UInt8) (hs : s.length ≤ 1000000) : APure Tryz.prog 127 [S s, .raw (.int .u8 32)] (.sl 1 ((cut 32 s).map fun p => [S p])) := rsplit_pure s 32 hs
def refAV (s : List UInt8) : AV := match parseB s with | some b => .tup [bkA b, B true] | none => .tup [bkA bk0, B false]
theorem refAV_pure (s : List UInt8) : (refAV s).pureB = true := by unfold refAV; split <;> simp [AV.pureL, AV.pureB, AV.pureE, pureE_map]
theorem ref_no {s : List UInt8} (h : parseB s = none) : refAV s = .tup [bkA bk0, B false] := by unfold refAV; rw [h]
theorem ref_yes {s : List UInt8} {b : Bk} (h : parseB s = some b) : refAV s = .tup [bkA b, B true] := by unfold refAV; rw [h]
theorem td0 : TdB (bk6 (0, 0, 0, 0, 0, 0) []) := ⟨fun n hn => by simp only [stL, bk6, List.mem_cons, List.not_mem_nil, or_false] at hn; omega, fun f hf => by simp [bk6] at hf⟩
theorem rd_end {s r0 : List UInt8} {rs : List (List UInt8)} {i : Nat} {a : I6} {q : List Fg} (hR : cut 10 s = r0 :: rs) (h : RdInv r0 rs i a q) (hi : ¬ (i : Int) < ((r0 :: rs).length : Int) - 2) :
    parseB s = if textB (bk6 a q) = s then some (bk6 a q) else none := by
  rw [List.length_cons] at hi
  rcases h with ⟨h0, rfl, rfl⟩ | ⟨h1, h2, ⟨w0, ws, hW, h7, hn⟩, hl, hok⟩
  · rw [parse_rows hR (by omega)]
    split
    · rename_i e
      exfalso
      have hc : cut 10 (textB (bk6 (0, 0, 0, 0, 0, 0) [])) = _ := seal_cut (lines_not td0)
      rw [e, hR] at hc
      have := congrArg List.length hc
      rw [linesB_eq] at this
      simp at this
      omega
    · rfl
  · have hqe : q.length = (rs.take (rs.length - 2)).length := by rw [List.length_take] at hl ⊢; omega
    have hsc : rowsO (rs.take (rs.length - 2)) = some q := rowsO_ok hqe fun j hj h2 => hok j hj h2
    have hp := parse_all hR (by omega) hW h7 hn hsc
    have e : (⟨sgOf (l6 a), q⟩ : Bk) = bk6 a q := rfl
    rw [e] at hp
    unfold parseB; rw [hp]
theorem rread_pure (s : List UInt8) (hs : s.length ≤ 800) : APure Tryz.prog 59 [S s] (refAV s) := by
  refine apure_of (rs := [.cell 2 81, .tmp 3]) Tryz.func59 rfl rfl (Nat.le_of_ble_eq_true rfl) (by simp [AV.pureL, AV.pureB, AV.pureE, pureE_map]) (refAV_pure s) fun e0 he0 => ?_
  refine W 4 ?_
  refine cl A (rsplit10 s (by omega)) ?_
  refine V 1 ?_
  refine sq_nil (aw_seq (aw_seq ?_))
  generalize hR : cut 10 s = R
  have hRl := cut_len 10 s
  have hRm := cut_mem 10 s
  rw [hR] at hRl hRm
  obtain ⟨r0, rs, rfl⟩ : ∃ r0 rs, R = r0 :: rs := by cases R with | nil => simp at hRl | cons a l => exact ⟨a, l, rfl⟩
  have hrs9 : rs.length ≤ s.length := by have h := hRl.1; rw [List.length_cons] at h; omega
  refine V 1 ?_
  refine sq_nil (aw_block ?_)
  refine aw_sub (sub_token_cell 1 1 [I 0, I 0, I 0, I 0, I 0, I 0] [] rfl) ?_
  refine aw_loopk (ι := { x : Nat × I6 × List Fg // x.1 ≤ rs.length + 1 ∧ RdInv r0 rs x.1 x.2.1 x.2.2 }) [0, 2, 4, 5] (fun x => [(6, I x.1.1)]) (fun H x => (H.set 1 (.cells [I x.1.2.1.1, I x.1.2.1.2.1, I x.1.2.1.2.2.1, I x.1.2.1.2.2.2.1, I x.1.2.1.2.2.2.2.1, I x.1.2.1.2.2.2.2.2, .own 2 1 (x.1.2.2.map fun f => [strs f])])).set 2 (.tok (x.1.2.2.map fun f => [strs f]).length)) (fun x => rs.length + 1 - x.1.1) (⟨(0, (0, 0, 0, 0, 0, 0), []), Nat.zero_le _, .inl ⟨rfl, rfl, rfl⟩⟩) ⟨J, J, J, J, J, trivial⟩ rfl ?_
  rintro ⟨⟨i, ⟨a1, a2, a3, a4, a5, a6⟩, q⟩, hi, hinv⟩
  dsimp only [keepS, St.put, sget, slotsOf, List.map_cons, List.map_nil, List.cons_append, List.nil_append, List.length_cons, List.length_nil, Nat.reduceBEq, Nat.reduceAdd, cond_true, cond_false]
  simp only at hi hinv
  have hql : q.length ≤ rs.length := by
      rcases hinv with ⟨_, _, h⟩ | ⟨_, _, _, h, _⟩
      · subst h; simp
      · rw [List.length_take] at h; omega
  refine W 5 ?_
  refine iff (fun c_17 c_17' => ?_) (fun c_17 c_17' => ?_)
  · skip
    refine aw_skip (aw_seq (aw_block (aw_seq ?_)))
    have hir : i < (r0 :: rs).length := by omega
    have hi2 : i + 1 < rs.length := by have := c_17'; rw [List.length_cons] at this; omega
    refine W 4 ?_
    refine cl A (rsplit32 (r0 :: rs)[i] (by have := hRm _ (List.getElem_mem hir); omega)) ?_
    refine V 1 ?_
    refine sq_nil (aw_seq (aw_seq ?_))
    generalize hW : cut 32 (r0 :: rs)[i] = W9
    have hwl := cut_mem 32 (r0 :: rs)[i]
    have hwl2 := (cut_len 32 (r0 :: rs)[i]).1
    have hwl3 := (cut_len 32 (r0 :: rs)[i]).2
    rw [hW] at hwl hwl2 hwl3
    have hrm := hRm _ (List.getElem_mem hir)
    obtain ⟨w0, ws, rfl⟩ : ∃ w0 ws, W9 = w0 :: ws := by cases W9 with | nil => simp at hwl3 | cons a l => exact ⟨a, l, rfl⟩
    have hLc : (w0 :: ws).length = ws.length + 1 := rfl
    refine W 2 ?_
    refine iff (fun c_26 c_26' => ?_) (fun c_26 c_26' => ?_)
    · skip
      refine aw_seq (aw_seq ?_)
      obtain ⟨hiq, hrs2, hex, hql2, hok⟩ := hinv.resolve_left (by omega)
      have hk : q.length < (rs.take (rs.length - 2)).length := by rw [List.length_take]; omega
      have hr : (rs.take (rs.length - 2))[q.length] = (r0 :: rs)[i] := by subst hiq; simp [List.getElem_take]
      have hdr : (cut 32 (r0 :: rs)[i]).drop 1 = ws := by rw [hW]; rfl
      refine W 3 ?_
      refine iff (fun c_29 c_29' => ?_) (fun c_29 c_29' => ?_)
      · skip
        have hpn : parseB s = none := parse_figs hR (rowsO_bad hk (hr ▸ rowO_0 (by rw [hdr]; rw [List.length_cons] at c_29'; omega)))
        refine W 3 ?_
        exact retQ_res (vs := [.agg _, .raw _]) rfl rfl ⟨resVar_cell rfl rfl ty81.h rfl, resVar_tmp _ _ _, trivial⟩ (Less.trans (b := .tup [bkA bk0, B false]) (less_tup ⟨less_bk0, J, trivial⟩) (Less.eq (ref_no hpn).symm))
      · skip
        have hws1 : 0 < ws.length := by rw [List.length_cons] at c_29'; omega
        refine W 1 ?_
        refine aw_loopk (ι := { j : Nat // 1 ≤ j ∧ j ≤ (w0 :: ws).length ∧ ∀ k, (h : k < (w0 :: ws).length) → 1 ≤ k → k < j → (w0 :: ws)[k] ≠ [] }) [0, 2, 4, 5, 6, 7] (fun j => [(8, I j.1)]) (fun H j => H) (fun j => (w0 :: ws).length - j.1) (⟨1, Nat.le_refl _, by omega, fun k _ h1 h2 => by omega⟩) ⟨(by exact less_int rfl), J, J, J, J, J, J, trivial⟩ rfl ?_
        rintro ⟨j, hj1, hjl, hne⟩
        dsimp only [keepS, St.put, sget, slotsOf, List.map_cons, List.map_nil, List.cons_append, List.nil_append, List.length_cons, List.length_nil, Nat.reduceBEq, Nat.reduceAdd, cond_true, cond_false]
        refine W 4 ?_
        refine iff (fun c_34 c_34' => ?_) (fun c_34 c_34' => ?_)
        · skip
          have hjL : j < (w0 :: ws).length := by omega
          refine W 5 ?_
          refine aw_cond J (fun c_41 => ?_) (fun c_41 => ?_)
          · skip
            have c_41' := c_41
            try simp only [qq] at c_41'
            have hpn : parseB s = none := parse_figs hR (rowsO_bad hk (hr ▸ rowO_1 (by rw [hdr]; obtain ⟨m, rfl⟩ : ∃ m, j = m + 1 := ⟨j - 1, by omega⟩; rw [List.getElem_cons_succ] at c_41'; exact c_41' ▸ List.getElem_mem _)))
            refine W 3 ?_
            exact retQ_res (vs := [.agg _, .raw _]) rfl rfl ⟨resVar_cell rfl rfl ty81.h rfl, resVar_tmp _ _ _, trivial⟩ (Less.trans (b := .tup [bkA bk0, B false]) (less_tup ⟨less_bk0, J, trivial⟩) (Less.eq (ref_no hpn).symm))
          · skip
            have c_41' := c_41
            try simp only [qq] at c_41'
            have hjn : (w0 :: ws)[j] ≠ [] := by simpa using c_41'
            refine W 3 ?_
            exact ⟨⟨j + 1, by omega, by omega, fun k h h1 h2 => (by by_cases e : k = j; (subst e; exact hjn); exact hne k h h1 (by omega))⟩, by simp only; omega, Sub.slots ⟨J, J, J, J, J, J, J, trivial⟩⟩
        · skip
          have hjE : j = (w0 :: ws).length := by omega
          subst hjE
          refine aw_exit (aw_seq ?_)
          dsimp only [List.append, List.set, List.length, List.take, List.drop, List.cons_append, List.nil_append, List.append_nil, Nat.zero_add, Nat.add_zero]
          have hx : rowO (r0 :: rs)[i] = some ws := by rw [rowO_2 (by rw [hdr]; omega) (by rw [hdr]; intro hm; obtain ⟨k, hk, e⟩ := List.getElem_of_mem hm; exact hne (k + 1) (by simp; omega) (by omega) (by simp at hjl; omega) (by rw [List.getElem_cons_succ]; exact e)), hdr]
          have eS : (q ++ [ws]).map (fun f => [strs f]) = q.map (fun f => [strs f]) ++ [[strs ws]] := by rw [List.map_append]; rfl
          refine aw_draw 6 mo (by kernel_rfl) ?_
          refine WD 3 ?_
          refine dr_ev rfl (ev_less (ev_slice (lo := 1) sl24.h J J rfl (by simp) (by simp)) (Less.eq (b := strs ws) (by rw [List.take_of_length_le (by simp)]; simp [strs]))) ?_
          refine WD 1 ?_
          refine dr_ev rfl (ev_buildSlice (es := [[_]]) sf45.h rfl rfl rfl rfl) ?_
          refine dr_end ?_
          first | refine sq_append rfl sf45.h Tryz.underlying45 rfl rfl J (Nat.succ_pos _) (by simp; omega) (by simp; omega) ?_ | refine sq_append rfl sf45.h Tryz.underlying45 rfl rfl (less_slx _ _) (Nat.succ_pos _) (by simp; omega) (by simp; omega) ?_
          refine W 5 ?_
          exact ⟨⟨(i + 1, (a1, a2, a3, a4, a5, a6), q ++ [ws]), by simp only; omega, .inr ⟨by simp [hiq], hrs2, hex, by simp; omega, rowsO_q (hk := hk) hok hr hx⟩⟩, by simp only; omega, Sub.fin 3 ⟨J, J, J, J, J, trivial⟩ (congrArg (fun L => [_, AObj.cells ([I a1, I a2, I a3, I a4, I a5, I a6] ++ [AV.own 2 1 L]), AObj.tok L.length]) eS.symm) (by simp [slotsIn, objsIn, sget, keepS, AObj.inB, AV.inB, AV.inL, AV.inE, inE_map, inE_ints, inE_strs, inE_figs, inE_cloths, -List.map_append, -List.map_take, -List.map_map]) (by simp [slotsIn, objsIn, sget, keepS, AObj.inB, AV.inB, AV.inL, AV.inE, inE_map, inE_ints, inE_strs, inE_figs, inE_cloths, -List.map_append, -List.map_take, -List.map_map]) (by simp [he0])⟩
    · skip
      refine aw_skip (aw_seq ?_)
      obtain rfl : i = 0 := by omega
      obtain ⟨ha, hq⟩ : ((a1, a2, a3, a4, a5, a6) : I6) = (0, 0, 0, 0, 0, 0) ∧ q = [] := by
        rcases hinv with ⟨_, h1, h2⟩ | ⟨h1, _⟩
        · exact ⟨h1, h2⟩
        · omega
      simp only [Prod.mk.injEq] at ha
      obtain ⟨rfl, rfl, rfl, rfl, rfl, rfl⟩ := ha
      subst hq
      have hW0 : cut 32 r0 = w0 :: ws := hW
      refine W 1 ?_
      refine sq_ev rfl (ev_less (ev_slice sl24.h J J rfl (by simp) (by simp)) (Less.eq (b := .sl 1 (ws.map fun p => [S p])) (by simp [List.take_of_length_le]))) ?_
      refine cl A (rnumbers_pure ws (by have := hwl2; simp only [List.length_cons] at this; omega) (fun w hw => by have := hwl w (List.mem_cons_of_mem _ hw); omega)) ?_
      refine W 8 ?_
      refine sq_split 59 J (fun g17_2 => ?_) (fun g17_2 => ?_)
      · skip
        have g17_2' := g17_2
        try simp only [qq] at g17_2'
        have hpn : parseB s = none := parse_nums hR hW0 (none_of (by simpa using g17_2))
        refine W 8 ?_
        exact retQ_res (vs := [.agg _, .raw _]) rfl rfl ⟨resVar_cell rfl rfl ty81.h rfl, resVar_tmp _ _ _, trivial⟩ (Less.trans (b := .tup [bkA bk0, B false]) (less_tup ⟨less_bk0, J, trivial⟩) (Less.eq (ref_no hpn).symm))
      · skip
        have g17_2' := g17_2
        try simp only [qq] at g17_2'
        obtain ⟨ns, hns⟩ := Option.isSome_iff_exists.1 (show (numsO ws).isSome = true by simpa using g17_2)
        have hnv : numsV ws = ns := by simp [numsV, hns]
        have hnl := (numsO_inv hns).1
        rw [hnv]
        refine W 4 ?_
        refine aw_cond J (fun c_63 => ?_) (fun c_63 => ?_)
        · skip
          have c_63' := c_63
          try simp only [qq] at c_63'
          have hpn : parseB s = none := parse_head hR (by rw [hW0, List.length_cons]; omega)
          refine W 3 ?_
          exact retQ_res (vs := [.agg _, .raw _]) rfl rfl ⟨resVar_cell rfl rfl ty81.h rfl, resVar_tmp _ _ _, trivial⟩ (Less.trans (b := .tup [bkA bk0, B false]) (less_tup ⟨less_bk0, J, trivial⟩) (Less.eq (ref_no hpn).symm))
        · skip
          have c_63' := c_63
          try simp only [qq] at c_63'
          obtain ⟨b1, b2, b3, b4, b5, b6, rfl⟩ := six (l := ns) (by omega)
          refine W 0 ?_
          refine aw_draw 20 mo (by kernel_rfl) ?_
          refine WD 1 ?_
          refine dr_ev rfl (ev_index_map (k := 0) sl64.h J J rfl (by simp)) ?_
          refine WD 2 ?_
          refine dr_ev rfl (ev_index_map (k := 1) sl64.h J J rfl (by simp)) ?_
          refine WD 2 ?_
          refine dr_ev rfl (ev_index_map (k := 2) sl64.h J J rfl (by simp)) ?_
          refine WD 2 ?_
          refine dr_ev rfl (ev_index_map (k := 3) sl64.h J J rfl (by simp)) ?_
          refine WD 2 ?_
          refine dr_ev rfl (ev_index_map (k := 4) sl64.h J J rfl (by simp)) ?_
          refine WD 2 ?_
          refine dr_ev rfl (ev_index_map (k := 5) sl64.h J J rfl (by simp)) ?_
          refine WD 3 ?_
          refine W 4 ?_
          exact ⟨⟨(1, (b1, b2, b3, b4, b5, b6), []), by simp only; omega, .inr ⟨rfl, by omega, ⟨w0, ws, hW0, by simpa using hnl.symm, hns⟩, by simp, fun j h => by simp at h⟩⟩, by simp only; omega, Sub.fin 3 ⟨J, J, J, J, J, trivial⟩ rfl (by simp [slotsIn, objsIn, sget, keepS, AObj.inB, AV.inB, AV.inL, AV.inE, inE_map, inE_ints, inE_strs, inE_figs, inE_cloths, -List.map_append, -List.map_take, -List.map_map]) (by simp [slotsIn, objsIn, sget, keepS, AObj.inB, AV.inB, AV.inL, AV.inE, inE_map, inE_ints, inE_strs, inE_figs, inE_cloths, -List.map_append, -List.map_take, -List.map_map]) (by simp [he0])⟩
  · skip
    refine aw_exit (aw_seq (aw_seq ?_))
    have sm := rd_sm (by omega) (fun r hr => by have := hRm r (List.mem_cons_of_mem _ hr); omega) hinv
    have hend := rd_end hR hinv c_17'
    have hL : Less (.agg ([I a1, I a2, I a3, I a4, I a5, I a6] ++ [.own 2 1 (q.map fun f => [strs f])])) (bkA (bk6 (a1, a2, a3, a4, a5, a6) q)) := less_agg ⟨J, J, J, J, J, J, less_own _ _ _, trivial⟩
    refine W 1 ?_
    refine sq_ev rfl (ev_call en57.h J (rprint_pure (bk6 (a1, a2, a3, a4, a5, a6) q) sm.1 (fun n hn => (sm.2 n hn).1)) ⟨hL, trivial⟩) ?_
    refine W 2 ?_
    refine aw_cond J (fun c_88 => ?_) (fun c_88 => ?_)
    · skip
      have c_88' := c_88
      try simp only [qq] at c_88'
      have hpn : parseB s = none := by rw [hend, if_neg (fun e => c_88' e)]
      refine W 3 ?_
      exact retQ_res (vs := [.agg _, .raw _]) rfl rfl ⟨resVar_cell rfl rfl ty81.h rfl, resVar_tmp _ _ _, trivial⟩ (Less.trans (b := .tup [bkA bk0, B false]) (less_tup ⟨less_bk0, J, trivial⟩) (Less.eq (ref_no hpn).symm))
    · skip
      have c_88' := c_88
      try simp only [qq] at c_88'
      have hpy : parseB s = some (bk6 (a1, a2, a3, a4, a5, a6) q) := by rw [hend, if_pos (by simpa using c_88')]
      refine W 3 ?_
      exact retQ_res (vs := [.agg _, .raw _]) rfl rfl ⟨resVar_cell rfl rfl ty81.h rfl, resVar_tmp _ _ _, trivial⟩ (Less.trans (b := .tup [bkA (bk6 (a1, a2, a3, a4, a5, a6) q), B true]) (less_tup ⟨hL, J, trivial⟩) (Less.eq (ref_yes hpy).symm))
end Go.Proofs.YtmbknoaneglilaaGreatDoor
namespace Go.Proofs.YtmbknoaneglilaaGreatDoor
open Go Go.Ab Ni Ol
theorem parseB_text {s : List UInt8} {b : Bk} (h : parseB s = some b) : textB b = s := by
  unfold parseB at h
  split at h
  · split at h
    · rename_i e; simp only [Option.some.injEq] at h; subst h; exact e
    · cases h
  · cases h
theorem bk0_small : bk0.l.length ≤ 1000000 ∧ ∀ f ∈ bk0.l, f.length ≤ 1000000 := ⟨by simp, fun f hf => by simp at hf⟩
theorem books_long (s : List UInt8) (hs : 500 < s.length) : APure Tryz.prog 11 [S s] (B true) := by
  refine apure_of (rs := [.tmp 2]) Tryz.func11 rfl rfl (Nat.le_of_ble_eq_true rfl) (by simp [AV.pureL, AV.pureB, AV.pureE, pureE_map]) (by first | rfl | (simp [AV.pureL, AV.pureB, AV.pureE, pureE_map])) fun e0 he0 => ?_
  refine W 4 ?_
  refine iff (fun c_12 c_12' => ?_) (fun c_12 c_12' => ?_)
  · skip
    refine W 0 ?_
    refine cl A (known_pure) ?_
    refine W 1 ?_
    exact retQ_pure (v := .raw _) rfl rfl J
  · skip
    first | exact absurd c_12 (by decide) | (exfalso; simp at c_12; done) | (exfalso; simp at c_12; omega) | (exfalso; simp_all; done) | (exfalso; simp_all; omega)
theorem books_big {s : List UInt8} {x : Bk} {b : Bool} (hs : ¬ 500 < s.length) (h4 : 400 < s.length) (k56 : APure Tryz.prog 56 [S s] (.tup [bkA bk0, I 3])) (k59 : APure Tryz.prog 59 [S s] (.tup [bkA x, B b])) (k58 : APure Tryz.prog 58 [bkA bk0, bkA bk0] (B true)) : APure Tryz.prog 11 [S s] (B true) := by
  refine apure_of (rs := [.tmp 2]) Tryz.func11 rfl rfl (Nat.le_of_ble_eq_true rfl) (by simp [AV.pureL, AV.pureB, AV.pureE, pureE_map]) (by first | rfl | (simp [AV.pureL, AV.pureB, AV.pureE, pureE_map])) fun e0 he0 => ?_
  refine W 4 ?_
  refine iff (fun c_12 c_12' => ?_) (fun c_12 c_12' => ?_)
  · skip
    first | exact absurd c_12 (by decide) | (exfalso; simp at c_12; done) | (exfalso; simp at c_12; omega) | (exfalso; simp_all; done) | (exfalso; simp_all; omega)
  · skip
    refine W 1 ?_
    refine cl A (k56) ?_
    refine W 7 ?_
    refine cl A (k59) ?_
    refine W 10 ?_
    refine iff (fun c_26 c_26' => ?_) (fun c_26 c_26' => ?_)
    · skip
      refine W 3 ?_
      refine ifn (fun c_33 c_33' => ?_) (fun c_33 c_33' => ?_)
      · skip
        refine W 6 ?_
        refine sq_yes rfl rfl J rfl (ev_call en58.h J (k58) ⟨J, less_bk0, trivial⟩) ?_
        refine W 2 ?_
        refine cy A (known_pure) ?_
        refine W 2 ?_
        exact retQ_pure (v := .raw _) rfl rfl J
      · skip
        first | exact absurd c_33 (by decide) | (exfalso; simp at c_33; done) | (exfalso; simp at c_33; omega) | (exfalso; simp_all; done) | (exfalso; simp_all; omega)
    · skip
      first | exact absurd c_26 (by decide) | (exfalso; simp at c_26; done) | (exfalso; simp at c_26; omega) | (exfalso; simp_all; done) | (exfalso; simp_all; omega)
theorem books_none {s : List UInt8} (hs : ¬ 500 < s.length) (h4 : ¬ 400 < s.length) (k56 : APure Tryz.prog 56 [S s] (.tup [bkA bk0, I 4])) (k59 : APure Tryz.prog 59 [S s] (.tup [bkA bk0, B false])) (k58 : APure Tryz.prog 58 [bkA bk0, bkA bk0] (B true)) : APure Tryz.prog 11 [S s] (B true) := by
  refine apure_of (rs := [.tmp 2]) Tryz.func11 rfl rfl (Nat.le_of_ble_eq_true rfl) (by simp [AV.pureL, AV.pureB, AV.pureE, pureE_map]) (by first | rfl | (simp [AV.pureL, AV.pureB, AV.pureE, pureE_map])) fun e0 he0 => ?_
  refine W 4 ?_
  refine iff (fun c_12 c_12' => ?_) (fun c_12 c_12' => ?_)
  · skip
    first | exact absurd c_12 (by decide) | (exfalso; simp at c_12; done) | (exfalso; simp at c_12; omega) | (exfalso; simp_all; done) | (exfalso; simp_all; omega)
  · skip
    refine W 1 ?_
    refine cl A (k56) ?_
    refine W 7 ?_
    refine cl A (k59) ?_
    refine W 10 ?_
    refine iff (fun c_26 c_26' => ?_) (fun c_26 c_26' => ?_)
    · skip
      first | exact absurd c_26 (by decide) | (exfalso; simp at c_26; done) | (exfalso; simp at c_26; omega) | (exfalso; simp_all; done) | (exfalso; simp_all; omega)
    · skip
      refine W 2 ?_
      refine aw_cond J (fun c_28 => ?_) (fun c_28 => ?_)
      · skip
        have c_28' := c_28
        try simp only [qq] at c_28'
        refine W 3 ?_
        refine ifn (fun c_33 c_33' => ?_) (fun c_33 c_33' => ?_)
        · skip
          refine W 6 ?_
          refine sq_yes rfl rfl J rfl (ev_call en58.h J (k58) ⟨J, less_bk0, trivial⟩) ?_
          refine W 2 ?_
          refine cy A (known_pure) ?_
          refine W 2 ?_
          exact retQ_pure (v := .raw _) rfl rfl J
        · skip
          first | exact absurd c_33 (by decide) | (exfalso; simp at c_33; done) | (exfalso; simp at c_33; omega) | (exfalso; simp_all; done) | (exfalso; simp_all; omega)
      · skip
        have c_28' := c_28
        try simp only [qq] at c_28'
        first | exact absurd c_28 (by decide) | (exfalso; simp at c_28; done) | (exfalso; simp at c_28; omega) | (exfalso; simp_all; done) | (exfalso; simp_all; omega)
theorem books_bad {s : List UInt8} {b : Bk} (hs : ¬ 500 < s.length) (h4 : ¬ 400 < s.length) (k56 : APure Tryz.prog 56 [S s] (.tup [bkA bk0, I 2])) (k59 : APure Tryz.prog 59 [S s] (.tup [bkA b, B true])) (k55 : APure Tryz.prog 55 [bkA b] (B false)) (k58 : APure Tryz.prog 58 [bkA bk0, bkA bk0] (B true)) : APure Tryz.prog 11 [S s] (B true) := by
  refine apure_of (rs := [.tmp 2]) Tryz.func11 rfl rfl (Nat.le_of_ble_eq_true rfl) (by simp [AV.pureL, AV.pureB, AV.pureE, pureE_map]) (by first | rfl | (simp [AV.pureL, AV.pureB, AV.pureE, pureE_map])) fun e0 he0 => ?_
  refine W 4 ?_
  refine iff (fun c_12 c_12' => ?_) (fun c_12 c_12' => ?_)
  · skip
    first | exact absurd c_12 (by decide) | (exfalso; simp at c_12; done) | (exfalso; simp at c_12; omega) | (exfalso; simp_all; done) | (exfalso; simp_all; omega)
  · skip
    refine W 1 ?_
    refine cl A (k56) ?_
    refine W 7 ?_
    refine cl A (k59) ?_
    refine W 10 ?_
    refine iff (fun c_26 c_26' => ?_) (fun c_26 c_26' => ?_)
    · skip
      first | exact absurd c_26 (by decide) | (exfalso; simp at c_26; done) | (exfalso; simp at c_26; omega) | (exfalso; simp_all; done) | (exfalso; simp_all; omega)
    · skip
      refine W 2 ?_
      refine aw_cond J (fun c_28 => ?_) (fun c_28 => ?_)
      · skip
        have c_28' := c_28
        try simp only [qq] at c_28'
        first | exact absurd c_28 (by decide) | (exfalso; simp at c_28; done) | (exfalso; simp at c_28; omega) | (exfalso; simp_all; done) | (exfalso; simp_all; omega)
      · skip
        have c_28' := c_28
        try simp only [qq] at c_28'
        refine W 1 ?_
        refine cl A (k55) ?_
        refine W 1 ?_
        refine aw_cond J (fun c_31 => ?_) (fun c_31 => ?_)
        · skip
          have c_31' := c_31
          try simp only [qq] at c_31'
          refine W 3 ?_
          refine ifn (fun c_33 c_33' => ?_) (fun c_33 c_33' => ?_)
          · skip
            refine W 6 ?_
            refine sq_yes rfl rfl J rfl (ev_call en58.h J (k58) ⟨J, less_bk0, trivial⟩) ?_
            refine W 2 ?_
            refine cy A (known_pure) ?_
            refine W 2 ?_
            exact retQ_pure (v := .raw _) rfl rfl J
          · skip
            first | exact absurd c_33 (by decide) | (exfalso; simp at c_33; done) | (exfalso; simp at c_33; omega) | (exfalso; simp_all; done) | (exfalso; simp_all; omega)
        · skip
          have c_31' := c_31
          try simp only [qq] at c_31'
          first | exact absurd c_31 (by decide) | (exfalso; simp at c_31; done) | (exfalso; simp at c_31; omega) | (exfalso; simp_all; done) | (exfalso; simp_all; omega)
theorem books_ok {s : List UInt8} {b : Bk} (hs : ¬ 500 < s.length) (h4 : ¬ 400 < s.length) (k56 : APure Tryz.prog 56 [S s] (.tup [bkA b, I 0])) (k59 : APure Tryz.prog 59 [S s] (.tup [bkA b, B true])) (k55 : APure Tryz.prog 55 [bkA b] (B true)) (k58 : APure Tryz.prog 58 [bkA b, bkA b] (B true)) (k54 : APure Tryz.prog 54 [bkA b] (.tup [S s, I 0])) : APure Tryz.prog 11 [S s] (B true) := by
  refine apure_of (rs := [.tmp 2]) Tryz.func11 rfl rfl (Nat.le_of_ble_eq_true rfl) (by simp [AV.pureL, AV.pureB, AV.pureE, pureE_map]) (by first | rfl | (simp [AV.pureL, AV.pureB, AV.pureE, pureE_map])) fun e0 he0 => ?_
  refine W 4 ?_
  refine iff (fun c_12 c_12' => ?_) (fun c_12 c_12' => ?_)
  · skip
    first | exact absurd c_12 (by decide) | (exfalso; simp at c_12; done) | (exfalso; simp at c_12; omega) | (exfalso; simp_all; done) | (exfalso; simp_all; omega)
  · skip
    refine W 1 ?_
    refine cl A (k56) ?_
    refine W 7 ?_
    refine cl A (k59) ?_
    refine W 10 ?_
    refine iff (fun c_26 c_26' => ?_) (fun c_26 c_26' => ?_)
    · skip
      first | exact absurd c_26 (by decide) | (exfalso; simp at c_26; done) | (exfalso; simp at c_26; omega) | (exfalso; simp_all; done) | (exfalso; simp_all; omega)
    · skip
      refine W 2 ?_
      refine aw_cond J (fun c_28 => ?_) (fun c_28 => ?_)
      · skip
        have c_28' := c_28
        try simp only [qq] at c_28'
        first | exact absurd c_28 (by decide) | (exfalso; simp at c_28; done) | (exfalso; simp at c_28; omega) | (exfalso; simp_all; done) | (exfalso; simp_all; omega)
      · skip
        have c_28' := c_28
        try simp only [qq] at c_28'
        refine W 1 ?_
        refine cl A (k55) ?_
        refine W 1 ?_
        refine aw_cond J (fun c_31 => ?_) (fun c_31 => ?_)
        · skip
          have c_31' := c_31
          try simp only [qq] at c_31'
          first | exact absurd c_31 (by decide) | (exfalso; simp at c_31; done) | (exfalso; simp at c_31; omega) | (exfalso; simp_all; done) | (exfalso; simp_all; omega)
        · skip
          have c_31' := c_31
          try simp only [qq] at c_31'
          refine W 2 ?_
          refine ifn (fun c_33 c_33' => ?_) (fun c_33 c_33' => ?_)
          · skip
            first | exact absurd c_33 (by decide) | (exfalso; simp at c_33; done) | (exfalso; simp at c_33; omega) | (exfalso; simp_all; done) | (exfalso; simp_all; omega)
          · skip
            refine W 1 ?_
            refine cl A (k54) ?_
            refine W 10 ?_
            refine cy A (k58) ?_
            refine W 11 ?_
            refine sq_split 66 J (fun g15_16 => ?_) (fun g15_16 => ?_)
            · skip
              have g15_16' := g15_16
              try simp only [qq] at g15_16'
              refine cy A (known_pure) ?_
              refine W 2 ?_
              exact retQ_pure (v := .raw _) rfl rfl J
            · skip
              have g15_16' := g15_16
              try simp only [qq] at g15_16'
              first | exact absurd g15_16 (by decide) | (exfalso; simp at g15_16; done) | (exfalso; simp at g15_16; omega) | (exfalso; simp_all; done) | (exfalso; simp_all; omega)
/-- **OutlineBooks.** -/
theorem law11 (s : List UInt8) : APure Tryz.prog 11 [S s] (B true) := by
  by_cases h5 : 500 < s.length
  · exact books_long s h5
  · have k56 := read_pure s
    have k59 := rread_pure s (by omega)
    have k0 := rbooks_pure bk0 bk0 bk0_small bk0_small
    rw [decide_eq_true rfl] at k0
    unfold readAV at k56
    by_cases h4 : 400 < s.length
    · rw [readE_long h4] at k56
      cases hp : parseB s with
      | none => rw [ref_no hp] at k59; exact books_big h5 h4 k56 k59 k0
      | some b => rw [ref_yes hp] at k59; exact books_big h5 h4 k56 k59 k0
    · cases hp : parseB s with
      | none => rw [readE_none h4 hp] at k56; rw [ref_no hp] at k59; exact books_none h5 h4 k56 k59 k0
      | some b =>
        rw [ref_yes hp] at k59
        have k55 := rbook_pure b
        cases hk : bkOK b with
        | false => rw [hk] at k55; rw [readE_bad h4 hp hk] at k56; exact books_bad h5 h4 k56 k59 k55 k0
        | true =>
          rw [hk] at k55; rw [readE_ok h4 hp hk] at k56
          have k58 := rbooks_pure b b (ok_bk hk) (ok_bk hk)
          rw [decide_eq_true rfl] at k58
          have k54 := print_pure b (ok_bk hk).1
          rw [hk, if_pos rfl, parseB_text hp] at k54
          exact books_ok h5 h4 k56 k59 k55 k58 k54
end Go.Proofs.YtmbknoaneglilaaGreatDoor
