/-
  A part of the proof: conditions: none beyond each theorem's own.
-/
import Derived.Test.YtfmpabgblbbcdaaGreatDoorLogicA
import Derived.Test.YtfmpabgblbbcdaaGreatDoorLogicC
import Derived.Deep.Slices
import Derived.OpenShut
import Derived.Carry
import Derived.Test.YtfmpabgblbbcdaaGreatDoorSpecA
import Derived.Test.YtfmpabgblbbcdaaGreatDoorLogicD
import Derived.Test.YtfmpabgblbbcdaaGreatDoorProg
import Derived.KernelRfl
import Derived.Lib.LaidTab
import Derived.Lib.ItoaNum
import Derived.Test.YtfmpabgblbbcdaaGreatDoorWalkB
import Derived.Test.YtfmpabgblbbcdaaGreatDoorWalkD
import Derived.Test.YtfmpabgblbbcdaaGreatDoorWalkG
import Derived.Laws.IdiomStrings
import Derived.Laws.IdiomCopy
import Derived.Test.YtfmpabgblbbcdaaGreatDoorLogicE
import Derived.Test.YtfmpabgblbbcdaaGreatDoorLogicB
import Derived.Test.YtfmpabgblbbcdaaGreatDoorShelf
import Derived.Test.YtfmpabgblbbcdaaGreatDoorWalkA
import Derived.Test.YtfmpabgblbbcdaaGreatDoorWalkC
import Derived.Test.YtfmpabgblbbcdaaGreatDoorWalkE
import Derived.Test.YtfmpabgblbbcdaaGreatDoorWalkF
import Derived.Test.YtfmpabgblbbcdaaGreatDoorRow
set_option linter.all false
set_option maxRecDepth 100000
set_option maxHeartbeats 8000000
namespace Go.Ab
variable [Tabs]
theorem FW_room (r : Option Nat) (n : Nat) : (FW r).room n := fun _ h => by simp [FW] at h
variable {c : Ctx} {Q : AExit → St → Prop} {s : St}
end Go.Ab
namespace Go.Ab
open Go.ChangeShapes Go.WideShapes
variable [Tabs]
theorem env0_ok {w : World} (h : Tabs.is w) (hb : ∀ b, Tabs.blk b → b < w.heap.size) : EnvOK (env0 w) :=
  ⟨fun b hb => by have hb' : w.heap.size ≤ b := hb
                  have : w.heap[b]? = none := by simpa using hb'
                  simp [env0, this], fun i o h => by simp [env0] at h, fun i j b hi => by simp [env0] at hi, fun i b hi => by simp [env0] at hi, h, fun b hk => ⟨hb b hk, fun i hi => by simp [env0] at hi⟩⟩
section
variable {H : Type} {enc : TypeId × Value → H} {P : Program} {w : World} {base : Nat} {spare : Nat → Bool} {held : Bool}
theorem trodAll_stays (hl : laidOutB P = true) {W W' : World} (hheap : ∀ b, b < W.heap.size → W'.heap[b]? = W.heap[b]?) {sp' : Nat → Bool} :
    ∀ {ts : List TypeId} {vs : List Value} {ds : List (DataW H)} {ps : List MemPlace}, (∀ t ∈ ts, P.readableRec t = true ∧ t < P.types.size) → DataW.TrodAll enc P W base (fun _ => true) true ts vs ds ps → (∀ p ∈ ps, p.block < W.heap.size) → (∀ p ∈ ps, sp' p.block = true) →
      DataW.TrodAll enc P W' base sp' true ts vs ds ps
  | [], _, _, _, _, h, _, _ => by
    obtain ⟨rfl, rfl, rfl⟩ := trodAll_nil h
    exact trodAll_mk0
  | t :: ts, _, _, _, ht, h, hlt, hs => by
    obtain ⟨v, vs1, d, ds1, a, b, rfl, rfl, rfl, h1, h2⟩ := trodAll_cons h
    refine trodAll_cons_mk (WideElems.Trod_stays hl (ht t (by simp)).1 (ht t (by simp)).2 h1 (fun p hp => ?_) (fun p hp => hs p (by simp [hp]))) (trodAll_stays hl hheap (fun u hu => ht u (List.mem_cons_of_mem _ hu)) h2 (fun p hp => hlt p (by simp [hp])) (fun p hp => hs p (by simp [hp])))
    have hb := hheap p.block (hlt p (by simp [hp]))
    cases p with
    | cell b o => exact cell?_of_heap hb
    | map b => exact hb
/-- **What a law's row asks of a call that returns true and leaves what it met.** -/
theorem post_true {f : Func} {s : ChangeSpec} {W W' : World} {args : Array Value} {ds gs : List (DataW H)} {before : List MemPlace} {tb : TypeId} (hl : laidOutB P = true) (hread : ∀ t ∈ f.params.toList, P.readableRec t = true ∧ t < P.types.size)
    (hres : f.resultTypes = #[tb]) (htb : P.underlying tb = some .bool) (hvars : s.vars = []) (hspec : (s.fn H ds).results = [.lit (.bool true)] ∧ (s.fn H ds).args = ds ∧ (s.fn H ds).vars = [])
    (hW : DataW.Whole enc P f.params.toList s.vars false W args.toList ds gs before) (hheap : ∀ b, b < W.heap.size → W'.heap[b]? = W.heap[b]?) (hst : Still W W') :
    s.post enc P f false true false false W args (.bool true) W' := by
  have hlt := hW.lt
  have hW0 := hW
  obtain ⟨p, q, h1, h2, rfl, _, _⟩ := hW
  rw [hvars] at h2
  obtain ⟨rfl, rfl⟩ := trodVars_none h2
  simp only [List.append_nil] at hlt
  obtain ⟨e1, e2, e3⟩ := hspec
  refine ⟨ds, [], p ++ [], [], p, [], hW0, ?_, ?_, ?_, ?_, fun h => by cases h⟩
  · rw [List.append_nil, e1, hres]
    exact trodAll_cons_mk (RowKit.shut_bool htb _) trodAll_mk0
  · rw [List.append_nil, e2]
    exact trodAll_stays hl hheap hread h1 hlt (fun p hp => by simpa using hlt p hp)
  · rw [List.append_nil, e3, hvars]; rfl
  · refine ⟨hst.1, hst.2, fun i hi => ?_⟩
    rw [hheap i hi]
    split <;> simp_all
theorem APure.law {f : FuncId} {args : List AV} {W : World} {vs : Array Value} (hc : APure P f args (.raw (.bool true))) (ht : Tabs.is W) (hb : ∀ b, Tabs.blk b → b < W.heap.size) (hr : RepL (env0 W) args vs.toList) :
    Calls P f vs W fun x W' => x = .returned (.bool true) ∧ (∀ b, b < W.heap.size → W'.heap[b]? = W.heap[b]?) ∧ Still W W' := by
  refine ((hc (env0 W) vs (env0_ok ht hb) hr).calls (fun k => FW_room none k)).mono ?_
  rintro x w' ⟨u, e', rfl, rfl, hx, hu⟩
  rw [Rep] at hu; subst hu
  exact ⟨rfl, hx.heap, hx.still⟩
end
end Go.Ab
namespace St
open Ni (inn)
open Hd (every getD_at mem_every)
def fgIn (p : Ply) (n : Int) : Bool := inn n 0 (p.figs.length - 1)
end St
namespace Go.Proofs.YtfmpabgblbbcdaaGreatDoor
open Go Go.Ab Ni St
open Hd hiding sz
abbrev C (c : UInt8) : AV := .raw (.int .u8 c.toNat)
theorem rin_pure (n lo hi : Int) : APure Tryz.prog 77 [I n, I lo, I hi] (B (inn n lo hi)) := by
  refine ap Tryz.func77 (fun e0 he0 => ?_)
  refine wz 5 ?_
  refine sz 10 (fun g1 g1' => ?_) (fun g1 g1' => ?_)
  ·refine wz 5 ?_
   exact rz rfl (Less.eq (by simp [inn, *]))
  refine wz 5 ?_
  exact rz rfl (Less.eq (by simp [inn, *]))
end Go.Proofs.YtfmpabgblbbcdaaGreatDoor
namespace Go.Proofs.YtfmpabgblbbcdaaGreatDoor
open Go Go.Ab Ni St
open Hd hiding sz
theorem xcan_ok {p : Ply} (hh : p.hts.length ≤ 1000000) (hf : p.figs.length ≤ 1000000) (hs : p.scs.length ≤ 1000000) (hx : ∀ x ∈ p.scs, x.moved.length ≤ 1000000 ∧ x.rest.length ≤ 1000000 ∧ x.taken.length ≤ 1000000) {k : Nat} (hk : k < p.scs.length) (h1 : plOK p = true) : APure Tryz.prog 49 [plA p, I k] (.tup [B (St.can p (sc p k)), I 0]) := by
  refine ap Tryz.func49 (fun e0 he0 => ?_)
  refine vz 3 ?_
  refine sq_nil ?_
  refine aw_seq ?_
  refine aw_seq ?_
  have hpl := isplay_pure p hh hf hs hx
  rw [h1] at hpl
  have hsc := isscene_pure p (k : Int) hs
  rw [scIn_nat hk] at hsc
  have gP := plOK_B h1
  have gX := sc_B gP hk
  refine wz 1 ?_
  refine kz az (hpl) ?_
  refine wz 4 ?_
  refine ky az (hsc) ?_
  refine wz 5 ?_
  refine kz az (can_pure gP hk) ?_
  refine wz 2 ?_
  exact retQ_pure (v := .tup [.raw _, .raw _]) rfl rfl (less_tup ⟨jz, jz, trivial⟩)
end Go.Proofs.YtfmpabgblbbcdaaGreatDoor
namespace Go.Proofs.YtfmpabgblbbcdaaGreatDoor
open Go Go.Ab Ni St
open Hd hiding sz
theorem withN_len (l : List Int) (n : Int) : (withN l n).length = l.length + 1 := by
  have := List.countP_le_length (p := fun x => decide (x < n)) (l := l)
  unfold withN; simp; omega
end Go.Proofs.YtfmpabgblbbcdaaGreatDoor
namespace Go.Proofs.YtfmpabgblbbcdaaGreatDoor
open Go Go.Ab Ni St
open Hd hiding sz
instance en19 : EnT Tryz.prog 19 := ⟨Ent.of Tryz.func19 (by kernel_rfl) rfl⟩
instance en22 : EnT Tryz.prog 22 := ⟨Ent.of Tryz.func22 (by kernel_rfl) rfl⟩
instance en26 : EnT Tryz.prog 26 := ⟨Ent.of Tryz.func26 (by kernel_rfl) rfl⟩
instance en27 : EnT Tryz.prog 27 := ⟨Ent.of Tryz.func27 (by kernel_rfl) rfl⟩
instance en48 : EnT Tryz.prog 48 := ⟨Ent.of Tryz.func48 (by kernel_rfl) rfl⟩
instance en77 : EnT Tryz.prog 77 := ⟨Ent.of Tryz.func77 (by kernel_rfl) rfl⟩
instance en78 : EnT Tryz.prog 78 := ⟨Ent.of Tryz.func78 (by kernel_rfl) rfl⟩
instance en95 : EnT Tryz.prog 95 := ⟨Ent.of Tryz.func95 (by kernel_rfl) rfl⟩
theorem all_of {α : Type} {q : α → Bool} {l : List α} (h : ∀ j, (hj : j < l.length) → q l[j] = true) : l.all q = true := List.all_eq_true.2 fun x hx => by obtain ⟨j, hj, rfl⟩ := List.getElem_of_mem hx; exact h j hj
theorem all_bad {α : Type} {q : α → Bool} {l : List α} {i : Nat} (hi : i < l.length) (h : q l[i] = false) : l.all q = false := by rw [List.all_eq_false]; exact ⟨_, List.getElem_mem hi, by rw [h]; simp⟩
theorem all_sym (a b : List Int) : (a.all fun n => !decide (n ∈ b)) = b.all fun n => !decide (n ∈ a) := by
  rw [Bool.eq_iff_iff, List.all_eq_true, List.all_eq_true]
  simp only [Bool.not_eq_true', decide_eq_false_iff_not]
  exact ⟨fun h n hn hm => h n hm hn, fun h n hn hm => h n hm hn⟩
def shX (x : Scn) : Bool := decide (x.moved.length ≤ 10) && decide (x.rest.length ≤ 10) && decide (x.taken.length ≤ 10)
def shB (p : Ply) : Bool := decide (p.hts.length ≤ 10) && decide (p.figs.length ≤ 8) && decide (p.scs.length ≤ 7) && decide (∀ i, (hi : i < p.scs.length) → i < 8 → shX p.scs[i] = true)
theorem shB_row {p : Ply} {i : Nat} (hi : i < p.scs.length) (h8 : i < 8) (h : shX p.scs[i] = false) : shB p = false := by
  unfold shB
  rw [decide_eq_false (p := ∀ i, (hi : i < p.scs.length) → i < 8 → shX p.scs[i] = true) (fun q => by rw [q i hi h8] at h; cases h)]; simp
theorem shB_fin {p : Ply} (h : ∀ i, (hi : i < p.scs.length) → i < 8 → shX p.scs[i] = true) : shB p = (decide (p.hts.length ≤ 10) && decide (p.figs.length ≤ 8) && decide (p.scs.length ≤ 7)) := by
  unfold shB; rw [decide_eq_true h, Bool.and_true]
theorem shB_len {p : Ply} (h : shB p = true) : p.hts.length ≤ 1000000 ∧ p.figs.length ≤ 1000000 ∧ p.scs.length ≤ 1000000 ∧ ∀ x ∈ p.scs, x.moved.length ≤ 1000000 ∧ x.rest.length ≤ 1000000 ∧ x.taken.length ≤ 1000000 := by
  unfold shB at h
  simp only [Bool.and_eq_true, decide_eq_true_eq] at h
  refine ⟨by omega, by omega, by omega, fun x hx => ?_⟩
  obtain ⟨i, hi, rfl⟩ := List.getElem_of_mem hx
  have := h.2 i hi (by omega)
  unfold shX at this
  simp only [Bool.and_eq_true, decide_eq_true_eq] at this
  omega
theorem has_pure (l : List Int) (n : Int) (hl : l.length ≤ 1000000) : APure Tryz.prog 27 [ints l, I n] (B (decide (n ∈ l))) := by
  refine ap Tryz.func27 (fun e0 he0 => ?_)
  refine wz 2 ?_
  refine aw_loopk (ι := { k : Nat // k ≤ l.length ∧ ∀ i, (hi : i < l.length) → i < k → l[i] ≠ n }) [0, 1] (fun i => [(5, I i.1)]) (fun H i => H) (fun i => l.length - i.1) (⟨0, Nat.zero_le _, by omega⟩) ⟨jz, jz, jz, trivial⟩ rfl ?_
  rintro ⟨k, hk, hok⟩
  refine nz ?_
  refine wz 4 ?_
  refine iz (fun c_9 c_9' => ?_) (fun c_9 c_9' => ?_)
  ·have hkL : k < l.length := by omega
   refine wz 6 ?_
   refine iz (fun c_17 c_17' => ?_) (fun c_17 c_17' => ?_)
   ·have hmem : n ∈ l := by have h5 := of_decide_eq_true c_17; exact h5 ▸ List.getElem_mem hkL
    refine wz 1 ?_
    exact rz rfl (Less.eq (by rw [decide_eq_true hmem]))
   refine wz 3 ?_
   exact ⟨⟨k + 1, by omega, fun i hi h => (by by_cases e : i = k; (subst e; simpa using c_17); exact hok i hi (by omega))⟩, by simp only; omega, Sub.slots ⟨jz, jz, jz, trivial⟩⟩
  obtain rfl : k = l.length := by omega
  have hno : ¬ n ∈ l := fun h => by obtain ⟨i, hi, h6⟩ := List.getElem_of_mem h; exact hok i hi hi h6
  refine wz 1 ?_
  exact rz rfl (Less.eq (by rw [decide_eq_false hno]))
theorem rrising_pure (l : List Int) (n : Nat) (hl : l.length ≤ 1000000) (hn : n ≤ 1000000) : APure Tryz.prog 95 [ints l, I n] (B (rising l n)) := by
  refine ap Tryz.func95 (fun e0 he0 => ?_)
  refine wz 2 ?_
  refine aw_loopk (ι := { k : Nat // k ≤ l.length ∧ ∀ i, (hi : i < l.length) → i < k → (0 ≤ l[i] ∧ l[i] < n) ∧ (0 < i → l[i - 1] < l[i]) }) [0, 1] (fun i => [(5, I i.1)]) (fun H i => H) (fun i => l.length - i.1) (⟨0, Nat.zero_le _, by omega⟩) ⟨jz, jz, jz, trivial⟩ rfl ?_
  rintro ⟨k, hk1, hok⟩
  refine nz ?_
  refine wz 4 ?_
  refine iz (fun c_9 c_9' => ?_) (fun c_9 c_9' => ?_)
  ·have hkl : k < l.length := by omega
   have hin : inn l[k] 0 ((n : Int) - 1) = true ↔ 0 ≤ l[k] ∧ l[k] ≤ (n : Int) - 1 := by unfold inn; simp
   refine wz 0 ?_
   refine aw_draw 24 mo (by kernel_rfl) ?_
   refine dz 6 ?_
   refine dkz az (rin_pure _ _ _) ?_
   refine dz 2 ?_
   refine dsz 20 (fun g4_8 g4_8' => ?_) (fun g4_8 g4_8' => ?_)
   ·have hb0 : ¬ (0 ≤ l[k] ∧ l[k] ≤ (n : Int) - 1) := fun q => by rw [hin.2 q] at g4_8; simp at g4_8
    have hno : rising l n = false := rising_no hkl (fun q => hb0 (by omega))
    refine dz 15 ?_
    refine wz 2 ?_
    exact rz rfl (Less.eq (by rw [hno]))
   have hb1 : 0 ≤ l[k] ∧ l[k] ≤ (n : Int) - 1 := hin.1 (by simpa using g4_8)
   refine dz 3 ?_
   refine dsz 23 (fun g4_11 g4_11' => ?_) (fun g4_11 g4_11' => ?_)
   ·refine dz 7 ?_
    refine dr_yes rfl rfl (less_b g4_11) rfl (ev_index_map (k := k - 1) sl22.h jz jz (by omega) (by omega)) ?_
    refine dz 4 ?_
    refine wz 0 ?_
    refine iz (fun c_35 c_35' => ?_) (fun c_35 c_35' => ?_)
    ·have hno : rising l n = false := rising_no hkl (fun q => by have h5 := q.2 (by omega); have h6 := of_decide_eq_true c_35; omega)
     refine wz 1 ?_
     exact rz rfl (Less.eq (by rw [hno]))
    have hst : (0 ≤ l[k] ∧ l[k] < n) ∧ (0 < k → l[k - 1] < l[k]) := ⟨by omega, fun q => by have := of_decide_eq_false c_35; omega⟩
    refine wz 3 ?_
    exact ⟨⟨k + 1, by omega, fun i hi q => by rcases Nat.lt_or_ge i k with q2 | q2; exact hok i hi q2; (obtain rfl : i = k := by omega); exact hst⟩, by simp only; omega, Sub.slots ⟨jz, jz, jz, trivial⟩⟩
   have hst : (0 ≤ l[k] ∧ l[k] < n) ∧ (0 < k → l[k - 1] < l[k]) := ⟨by omega, fun q => by omega⟩
   refine dz 12 ?_
   refine wz 4 ?_
   exact ⟨⟨k + 1, by omega, fun i hi q => by rcases Nat.lt_or_ge i k with q2 | q2; exact hok i hi q2; (obtain rfl : i = k := by omega); exact hst⟩, by simp only; omega, Sub.slots ⟨jz, jz, jz, trivial⟩⟩
  obtain rfl : k = l.length := by omega
  have hall := rising_yes fun i hi => hok i hi hi
  refine wz 1 ?_
  exact rz rfl (Less.eq (by rw [hall]))
theorem rscene_pure (p : Ply) (x : Scn) (h1 : x.moved.length ≤ 1000000) (h2 : x.rest.length ≤ 1000000) (h3 : x.taken.length ≤ 1000000) (hh : p.hts.length ≤ 1000000) (hf : p.figs.length ≤ 1000000) : APure Tryz.prog 78 [plA p, .agg (scC x)] (B (scOK p x)) := by
  refine ap Tryz.func78 (fun e0 he0 => ?_)
  refine wz 8 ?_
  refine kz az (rrising_pure x.moved p.figs.length h1 hf) ?_
  refine wz 2 ?_
  refine sz 13 (fun g1_7 g1_7' => ?_) (fun g1_7 g1_7' => ?_)
  ·refine wz 31 ?_
   exact rz rfl (Less.eq (congrArg B (by unfold scOK; simp [*])))
  refine wz 5 ?_
  refine ky az (rrising_pure x.rest p.figs.length h2 hf) ?_
  refine wz 3 ?_
  refine sz 22 (fun g1_16 g1_16' => ?_) (fun g1_16 g1_16' => ?_)
  ·refine wz 22 ?_
   exact rz rfl (Less.eq (congrArg B (by unfold scOK; simp [*])))
  refine wz 5 ?_
  refine ky az (rrising_pure x.taken p.hts.length h3 hh) ?_
  refine wz 3 ?_
  refine sz 31 (fun g1_25 g1_25' => ?_) (fun g1_25 g1_25' => ?_)
  ·refine wz 13 ?_
   exact rz rfl (Less.eq (congrArg B (by unfold scOK; simp [*])))
  refine wz 6 ?_
  refine sz 37 (fun g1_31 g1_31' => ?_) (fun g1_31 g1_31' => ?_)
  ·have k31 : ¬ x.rest.length ≤ 4 := by omega
   refine wz 7 ?_
   exact rz rfl (Less.eq (congrArg B (by unfold scOK; simp [*])))
  have k31 : x.rest.length ≤ 4 := by omega
  refine wz 2 ?_
  refine ky az (rin_pure _ _ _) ?_
  refine wz 2 ?_
  refine iz (fun c_42 c_42' => ?_) (fun c_42 c_42' => ?_)
  ·refine wz 1 ?_
   exact rz rfl (Less.eq (congrArg B (by unfold scOK; simp [*])))
  refine wz 1 ?_
  refine aw_loopk (ι := { k : Nat // k ≤ x.rest.length ∧ ∀ i, (hi : i < x.rest.length) → i < k → (!decide (x.rest[i] ∈ x.moved)) = true }) [3] (fun i => [(5, I i.1)]) (fun H i => H) (fun i => x.rest.length - i.1) (⟨0, Nat.zero_le _, by omega⟩) ⟨jz, jz, trivial⟩ rfl ?_
  rintro ⟨k, hk, hok⟩
  refine nz ?_
  refine wz 5 ?_
  refine iz (fun c_47 c_47' => ?_) (fun c_47 c_47' => ?_)
  ·have hkL : k < x.rest.length := by omega
   refine wz 0 ?_
   refine aw_draw 8 mo (by kernel_rfl) ?_
   refine dz 7 ?_
   refine dkz az (has_pure _ _ h1) ?_
   refine dr_end ?_
   refine wz 0 ?_
   refine iz (fun c_57 c_57' => ?_) (fun c_57 c_57' => ?_)
   ·have hbad : (x.rest.all fun n => !decide (n ∈ x.moved)) = false := all_bad hkL (by rw [decide_eq_true (of_decide_eq_true c_57)]; rfl)
    refine wz 1 ?_
    exact rz rfl (Less.eq (congrArg B (by unfold scOK; rw [all_sym, hbad]; simp)))
   refine wz 3 ?_
   exact ⟨⟨k + 1, by omega, fun i hi h => (by by_cases e : i = k; (subst e; rw [decide_eq_false (of_decide_eq_false c_57)]; rfl); exact hok i hi (by omega))⟩, by simp only; omega, Sub.slots ⟨jz, jz, trivial⟩⟩
  obtain rfl : k = x.rest.length := by omega
  have hall : (x.rest.all fun n => !decide (n ∈ x.moved)) = true := all_of fun j hj => hok j hj hj
  refine wz 1 ?_
  exact rz rfl (Less.eq (congrArg B (by unfold scOK; rw [all_sym, hall]; simp_all)))
theorem rplay_pure (p : Ply) (hh : p.hts.length ≤ 1000000) (hf : p.figs.length ≤ 1000000) (hs : p.scs.length ≤ 1000000) (hx : ∀ x ∈ p.scs, x.moved.length ≤ 1000000 ∧ x.rest.length ≤ 1000000 ∧ x.taken.length ≤ 1000000) : APure Tryz.prog 22 [plA p] (B (plOK p)) := by
  refine ap Tryz.func22 (fun e0 he0 => ?_)
  refine wz 5 ?_
  refine kz az (rin_pure _ _ _) ?_
  refine wz 2 ?_
  refine sz 12 (fun g1_5 g1_5' => ?_) (fun g1_5 g1_5' => ?_)
  ·refine wz 24 ?_
   exact rz rfl (Less.eq (by unfold plOK; simp_all))
  refine wz 3 ?_
  refine ky az (rin_pure _ _ _) ?_
  refine wz 3 ?_
  refine sz 19 (fun g1_12 g1_12' => ?_) (fun g1_12 g1_12' => ?_)
  ·refine wz 17 ?_
   exact rz rfl (Less.eq (by unfold plOK; simp_all))
  refine wz 3 ?_
  refine ky az (rin_pure _ _ _) ?_
  refine wz 3 ?_
  refine sz 26 (fun g1_19 g1_19' => ?_) (fun g1_19 g1_19' => ?_)
  ·refine wz 10 ?_
   exact rz rfl (Less.eq (by unfold plOK; simp_all))
  refine wz 5 ?_
  refine ky az (rin_pure _ _ _) ?_
  refine wz 2 ?_
  refine iz (fun c_34 c_34' => ?_) (fun c_34 c_34' => ?_)
  ·refine wz 1 ?_
   exact rz rfl (Less.eq (by unfold plOK; simp_all))
  refine wz 1 ?_
  refine aw_loopk (ι := { k : Nat // k ≤ p.hts.length ∧ ∀ i, (hi : i < p.hts.length) → i < k → inn p.hts[i] 1 9 = true }) [1] (fun i => [(3, I i.1)]) (fun H i => H) (fun i => p.hts.length - i.1) (⟨0, Nat.zero_le _, by omega⟩) ⟨jz, jz, trivial⟩ rfl ?_
  rintro ⟨k, hk, hok⟩
  refine nz ?_
  refine wz 5 ?_
  refine iz (fun c_39 c_39' => ?_) (fun c_39 c_39' => ?_)
  ·have hkl : k < p.hts.length := by omega
   refine wz 5 ?_
   refine kz az (rin_pure _ _ _) ?_
   refine wz 1 ?_
   refine iz (fun c_48 c_48' => ?_) (fun c_48 c_48' => ?_)
   ·have hbad : (p.hts.all fun n => inn n 1 9) = false := all_bad hkl (by simpa using c_48)
    refine wz 1 ?_
    exact rz rfl (Less.eq (by unfold plOK; rw [hbad]; simp))
   refine wz 3 ?_
   exact ⟨⟨k + 1, by omega, fun i hi h => (by by_cases e : i = k; (subst e; simpa using c_48); exact hok i hi (by omega))⟩, by simp only; omega, Sub.slots ⟨jz, jz, trivial⟩⟩
  obtain rfl : k = p.hts.length := by omega
  have hall1 : (p.hts.all fun n => inn n 1 9) = true := all_of fun j hj => hok j hj hj
  refine wz 1 ?_
  refine aw_loopk (ι := { k : Nat // k ≤ p.figs.length ∧ ∀ i, (hi : i < p.figs.length) → i < k → fgOK p.figs[i] = true }) [1] (fun i => [(4, I i.1)]) (fun H i => H) (fun i => p.figs.length - i.1) (⟨0, Nat.zero_le _, by omega⟩) ⟨jz, jz, trivial⟩ rfl ?_
  rintro ⟨k, hk2, hok2⟩
  refine nz ?_
  refine wz 5 ?_
  refine iz (fun c_53 c_53' => ?_) (fun c_53 c_53' => ?_)
  ·have hfl : k < p.figs.length := by omega
   have hfe : fgOK p.figs[k] = ((!decide (p.figs[k].side < 1) && !decide (p.figs[k].side > 3)) && inn p.figs[k].rank 1 9 && inn p.figs[k].hands 1 2) := by unfold fgOK; rw [show inn p.figs[k].side 1 3 = (!(decide (p.figs[k].side < 1)) && !(decide (p.figs[k].side > 3))) by unfold inn; rw [Bool.eq_iff_iff]; simp]
   refine wz 11 ?_
   refine sz 64 (fun g12_3 g12_3' => ?_) (fun g12_3 g12_3' => ?_)
   ·have hbad : p.figs.all fgOK = false := all_bad hfl (by rw [hfe]; simp [*])
    refine wz 18 ?_
    exact rz rfl (Less.eq (by unfold plOK; rw [hbad]; simp))
   refine wz 5 ?_
   refine sz 69 (fun g12_8 g12_8' => ?_) (fun g12_8 g12_8' => ?_)
   ·have hbad : p.figs.all fgOK = false := all_bad hfl (by rw [hfe]; simp [*])
    refine wz 13 ?_
    exact rz rfl (Less.eq (by unfold plOK; rw [hbad]; simp))
   refine wz 2 ?_
   refine ky az (rin_pure _ _ _) ?_
   refine wz 3 ?_
   refine sz 75 (fun g12_14 g12_14' => ?_) (fun g12_14 g12_14' => ?_)
   ·have hbad : p.figs.all fgOK = false := all_bad hfl (by rw [hfe]; simp [*])
    refine wz 7 ?_
    exact rz rfl (Less.eq (by unfold plOK; rw [hbad]; simp))
   refine wz 2 ?_
   refine ky az (rin_pure _ _ _) ?_
   refine wz 2 ?_
   refine iz (fun c_80 c_80' => ?_) (fun c_80 c_80' => ?_)
   ·have hbad : p.figs.all fgOK = false := all_bad hfl (by rw [hfe]; simp [*])
    refine wz 1 ?_
    exact rz rfl (Less.eq (by unfold plOK; rw [hbad]; simp))
   have hfg : fgOK p.figs[k] = true := by rw [hfe]; simp [*]
   refine wz 3 ?_
   exact ⟨⟨k + 1, by omega, fun i hi h => (by by_cases e : i = k; (subst e; exact hfg); exact hok2 i hi (by omega))⟩, by simp only; omega, sb 1 ⟨jz, jz, trivial⟩⟩
  obtain rfl : k = p.figs.length := by omega
  have hall2 : p.figs.all fgOK = true := all_of fun j hj => hok2 j hj hj
  refine wz 1 ?_
  refine aw_loopk (ι := { k : Nat // k ≤ p.scs.length ∧ ∀ i, (hi : i < p.scs.length) → i < k → scOK p p.scs[i] = true }) [1] (fun i => [(6, I i.1)]) (fun H i => H) (fun i => p.scs.length - i.1) (⟨0, Nat.zero_le _, by omega⟩) ⟨jz, jz, trivial⟩ rfl ?_
  rintro ⟨k, hk3, hok3⟩
  refine nz ?_
  refine wz 5 ?_
  refine iz (fun c_85 c_85' => ?_) (fun c_85 c_85' => ?_)
  ·have hsl : k < p.scs.length := by omega
   have hxk := hx _ (List.getElem_mem hsl)
   refine wz 0 ?_
   refine aw_draw 8 mo (by kernel_rfl) ?_
   refine dz 6 ?_
   refine dkz az (rscene_pure p _ hxk.1 hxk.2.1 hxk.2.2 hh hf) ?_
   refine dz 1 ?_
   refine wz 0 ?_
   refine iz (fun c_95 c_95' => ?_) (fun c_95 c_95' => ?_)
   ·have hbad : p.scs.all (scOK p) = false := all_bad hsl (by simpa using c_95)
    refine wz 1 ?_
    exact rz rfl (Less.eq (by unfold plOK; rw [hbad]; simp))
   refine wz 3 ?_
   exact ⟨⟨k + 1, by omega, fun i hi h => (by by_cases e : i = k; (subst e; simpa using c_95); exact hok3 i hi (by omega))⟩, by simp only; omega, Sub.slots ⟨jz, jz, trivial⟩⟩
  obtain rfl : k = p.scs.length := by omega
  have hall3 : p.scs.all (scOK p) = true := all_of fun j hj => hok3 j hj hj
  refine wz 1 ?_
  exact rz rfl (Less.eq (by unfold plOK; rw [hall1, hall2, hall3]; simp_all))
theorem rscn_pure (p : Ply) (n : Int) (hs : p.scs.length ≤ 1000000) : APure Tryz.prog 26 [plA p, I n] (B (scIn p n)) := by
  refine ap Tryz.func26 (fun e0 he0 => ?_)
  refine wz 7 ?_
  refine kz az (rin_pure _ _ _) ?_
  refine wz 1 ?_
  exact rz rfl jz
theorem rfig_pure (p : Ply) (n : Int) (hf : p.figs.length ≤ 1000000) : APure Tryz.prog 48 [plA p, I n] (B (fgIn p n)) := by
  refine ap Tryz.func48 (fun e0 he0 => ?_)
  refine wz 7 ?_
  refine kz az (rin_pure _ _ _) ?_
  refine wz 1 ?_
  exact rz rfl jz
theorem short_pure (p : Ply) : APure Tryz.prog 19 [plA p] (B (shB p)) := by
  refine ap Tryz.func19 (fun e0 he0 => ?_)
  refine wz 3 ?_
  refine aw_loopk (ι := { k : Nat // k ≤ p.scs.length ∧ k ≤ 8 ∧ ∀ i, (hi : i < p.scs.length) → i < k → shX p.scs[i] = true }) [1] (fun i => [(3, I i.1)]) (fun H i => H) (fun i => p.scs.length - i.1) (⟨0, Nat.zero_le _, by omega, by omega⟩) ⟨jz, jz, trivial⟩ rfl ?_
  rintro ⟨k, hk, hk8, hok⟩
  refine nz ?_
  refine wz 6 ?_
  refine sz 10 (fun g2_5 g2_5' => ?_) (fun g2_5 g2_5' => ?_)
  ·have hkl : k < p.scs.length := by omega
   refine wz 3 ?_
   refine iz (fun c_13 c_13' => ?_) (fun c_13 c_13' => ?_)
   ·have hk8b : k < 8 := by have := of_decide_eq_true c_13; omega
    refine wz 12 ?_
    refine sz 25 (fun g5_4 g5_4' => ?_) (fun g5_4 g5_4' => ?_)
    ·have hbad := shB_row hkl hk8b (by unfold shX; simp; omega)
     refine wz 13 ?_
     exact rz rfl (Less.eq (by rw [hbad]))
    refine wz 6 ?_
    refine sz 31 (fun g5_10 g5_10' => ?_) (fun g5_10 g5_10' => ?_)
    ·have hbad := shB_row hkl hk8b (by unfold shX; simp; omega)
     refine wz 7 ?_
     exact rz rfl (Less.eq (by rw [hbad]))
    refine wz 5 ?_
    refine iz (fun c_36 c_36' => ?_) (fun c_36 c_36' => ?_)
    ·have h6 := of_decide_eq_true c_36
     have hbad := shB_row hkl hk8b (by unfold shX; simp; omega)
     refine wz 1 ?_
     exact rz rfl (Less.eq (by rw [hbad]))
    have h6 := of_decide_eq_false c_36
    have hsx : shX p.scs[k] = true := by unfold shX; simp; omega
    refine wz 3 ?_
    exact ⟨⟨k + 1, by omega, by omega, fun i hi h => (by by_cases e : i = k; (subst e; exact hsx); exact hok i hi (by omega))⟩, by simp only; omega, sb 1 ⟨jz, jz, trivial⟩⟩
   refine wz 5 ?_
   refine sz 41 (fun g7_4 g7_4' => ?_) (fun g7_4 g7_4' => ?_)
   ·refine wz 6 ?_
    refine sz 47 (fun g7_10 g7_10' => ?_) (fun g7_10 g7_10' => ?_)
    ·refine wz 6 ?_
     exact rz rfl (Less.eq (congrArg B (by have h9 := of_decide_eq_false c_13; rw [shB_fin (fun i hi h8 => hok i hi (by omega)), Bool.eq_iff_iff]; simp; omega)))
    refine wz 6 ?_
    exact rz rfl (Less.eq (congrArg B (by have h9 := of_decide_eq_false c_13; rw [shB_fin (fun i hi h8 => hok i hi (by omega)), Bool.eq_iff_iff]; simp; omega)))
   refine wz 12 ?_
   exact rz rfl (Less.eq (congrArg B (by have h9 := of_decide_eq_false c_13; rw [shB_fin (fun i hi h8 => hok i hi (by omega)), Bool.eq_iff_iff]; simp; omega)))
  obtain rfl : k = p.scs.length := by omega
  refine wz 9 ?_
  refine sz 41 (fun g7_4 g7_4' => ?_) (fun g7_4 g7_4' => ?_)
  ·refine wz 6 ?_
   refine sz 47 (fun g7_10 g7_10' => ?_) (fun g7_10 g7_10' => ?_)
   ·refine wz 6 ?_
    exact rz rfl (Less.eq (congrArg B (by rw [shB_fin (fun i hi _ => hok i hi hi), Bool.eq_iff_iff]; simp; omega)))
   refine wz 6 ?_
   exact rz rfl (Less.eq (congrArg B (by rw [shB_fin (fun i hi _ => hok i hi hi), Bool.eq_iff_iff]; simp; omega)))
  refine wz 12 ?_
  exact rz rfl (Less.eq (congrArg B (by rw [shB_fin (fun i hi _ => hok i hi hi), Bool.eq_iff_iff]; simp; omega)))
end Go.Proofs.YtfmpabgblbbcdaaGreatDoor
namespace Go.Proofs.YtfmpabgblbbcdaaGreatDoor
open Go Go.Ab Ni St
open Hd hiding sz
instance en20 : EnT Tryz.prog 20 := ⟨Ent.of Tryz.func20 (by kernel_rfl) rfl⟩
section
variable [Tabs]
section seq
variable {c : Ctx} {ops : Array Oper} {Q : AExit → St → Prop} {rest : List Oper} {s : St} {i : Nat}
variable {d : Option Tmp} {t : TypeId} {p : String} {af : Array Edge}
end seq
section ev
variable {P : Program} {r : Option Nat} {H : List AObj} {ρ : Operand → AV}
variable {d : Option Tmp} {t : TypeId} {p : String} {af : Array Edge} {g : Option (Nat × Bool)}
end ev
end
theorem short_t {p : Ply} (h : shB p = true) : APure Tryz.prog 19 [plA p] (B true) := by have q := short_pure p; rw [h] at q; exact q
theorem short_f {p : Ply} (h : shB p = false) : APure Tryz.prog 19 [plA p] (B false) := by have q := short_pure p; rw [h] at q; exact q
theorem pl_t {p : Ply} (hs : shB p = true) (h : plOK p = true) : APure Tryz.prog 22 [plA p] (B true) := by have q := rplay_pure p (shB_len hs).1 (shB_len hs).2.1 (shB_len hs).2.2.1 (shB_len hs).2.2.2; rw [h] at q; exact q
theorem pl_f {p : Ply} (hs : shB p = true) (h : plOK p = false) : APure Tryz.prog 22 [plA p] (B false) := by have q := rplay_pure p (shB_len hs).1 (shB_len hs).2.1 (shB_len hs).2.2.1 (shB_len hs).2.2.2; rw [h] at q; exact q
end Go.Proofs.YtfmpabgblbbcdaaGreatDoor
namespace Go.Proofs.YtfmpabgblbbcdaaGreatDoor
open Go Go.Ab Ni St
open Hd hiding sz
instance en49 : EnT Tryz.prog 49 := ⟨Ent.of Tryz.func49 (by kernel_rfl) rfl⟩
theorem scn_t {p : Ply} {n : Int} (hs : shB p = true) (h : scIn p n = true) : APure Tryz.prog 26 [plA p, I n] (B true) := by have q := rscn_pure p n (shB_len hs).2.2.1; rw [h] at q; exact q
theorem scn_f {p : Ply} {n : Int} (hs : shB p = true) (h : scIn p n = false) : APure Tryz.prog 26 [plA p, I n] (B false) := by have q := rscn_pure p n (shB_len hs).2.2.1; rw [h] at q; exact q
theorem fgIn_iff {p : Ply} {n : Int} : fgIn p n = true ↔ 0 ≤ n ∧ n < p.figs.length := by unfold fgIn inn; simp only [Bool.and_eq_true, decide_eq_true_eq]; omega
theorem has_t {l : List Int} {g : Int} (hl : l.length ≤ 1000000) (h : g ∈ l) : APure Tryz.prog 27 [ints l, I g] (B true) := by have q := has_pure l g hl; rw [decide_eq_true h] at q; exact q
theorem has_f {l : List Int} {g : Int} (hl : l.length ≤ 1000000) (h : ¬ g ∈ l) : APure Tryz.prog 27 [ints l, I g] (B false) := by have q := has_pure l g hl; rw [decide_eq_false h] at q; exact q
end Go.Proofs.YtfmpabgblbbcdaaGreatDoor
namespace Go.Proofs.YtfmpabgblbbcdaaGreatDoor
open Go Go.Ab Ni St
open Hd hiding sz
def unQ (p : Ply) (T : List Int) (q : Int × Int) : Bool := !decide (q.2 ∈ T) && ((decide ((fg p q.1).side = 3) || (lf p q.2 == decide ((fg p q.1).side = 1))) && decide (ht p q.2 ≤ (fg p q.1).rank))
def clQ (p : Ply) (q r : Int × Int) : Bool := (lf p q.2 == lf p r.2) && decide ((fg p q.1).rank < (fg p r.1).rank ∧ ht p r.2 < ht p q.2)
def biQ (p : Ply) (q r : Int × Int) : Bool := !decide (q.2 = r.2) && (!clQ p q r && !clQ p r q)
theorem okI_iff {p : Ply} {x : Scn} {l : List Int} (hl : l.length = x.rest.length) {i : Nat} (hi : i < l.length) :
    okI true p x l i = true ↔ unQ p x.taken (x.rest[i]'(by omega), l[i]) = true ∧ ∀ j, (hj : j < i) → biQ p (x.rest[j]'(by omega), l[j]'(by omega)) (x.rest[i]'(by omega), l[i]) = true := by
  have hr : i < x.rest.length := by omega
  have e1 : rf p x i = fg p x.rest[i] := by unfold rf; rw [getD_at hr]
  have ec : ∀ j, (hj : j < i) → clash p x l j i = clQ p (x.rest[j]'(by omega), l[j]'(by omega)) (x.rest[i], l[i]) ∧ clash p x l i j = clQ p (x.rest[i], l[i]) (x.rest[j]'(by omega), l[j]'(by omega)) := fun j hj => by
    have h2 : rf p x j = fg p (x.rest[j]'(by omega)) := by unfold rf; rw [getD_at (by omega)]
    unfold clash clQ; rw [e1, h2, getD_at hi, getD_at (show j < l.length by omega)]; exact ⟨rfl, rfl⟩
  have em : l[i] ∈ l.take i ↔ ∃ j, ∃ hj : j < i, l[j]'(by omega) = l[i] := by
    rw [List.mem_take_iff_getElem]
    constructor
    · rintro ⟨j, hj, e⟩; exact ⟨j, by omega, e⟩
    · rintro ⟨j, hj, e⟩; exact ⟨j, by omega, e⟩
  unfold okI plc low rkd unQ biQ
  rw [e1, getD_at hi]
  simp only [Bool.and_eq_true, Bool.not_eq_true', decide_eq_false_iff_not, decide_eq_true_eq, Bool.not_true, Bool.false_or, not_or]
  constructor
  · rintro ⟨⟨⟨h1, h2⟩, h3⟩, h4, h5⟩
    exact ⟨⟨h1, h3, h4⟩, fun j hj => ⟨fun e => h2 (em.2 ⟨j, hj, e⟩), by have := h5 j hj; rw [(ec j hj).1, (ec j hj).2] at this; exact this⟩⟩
  · rintro ⟨⟨h1, h3, h4⟩, h5⟩
    refine ⟨⟨⟨h1, fun q => ?_⟩, h3⟩, h4, fun j hj => ?_⟩
    · obtain ⟨j, hj, e⟩ := em.1 q; exact (h5 j hj).1 e
    · rw [(ec j hj).1, (ec j hj).2]; exact (h5 j hj).2
theorem suits_zip {p : Ply} {x : Scn} {l : List Int} (hl : l.length = x.rest.length) :
    suits true p x l = true ↔ (∀ q ∈ x.rest.zip l, unQ p x.taken q = true) ∧ (x.rest.zip l).Pairwise fun q r => biQ p q r = true := by
  unfold suits; rw [decide_eq_true_eq]
  have hz : (x.rest.zip l).length = l.length := by simp [hl]
  constructor
  · intro h
    refine ⟨fun q hq => ?_, List.pairwise_iff_getElem.2 fun i j hi hj hij => ?_⟩
    · obtain ⟨i, hi, rfl⟩ := List.getElem_of_mem hq
      rw [List.getElem_zip]; exact ((okI_iff hl (by omega)).1 (h i (by omega))).1
    · rw [List.getElem_zip, List.getElem_zip]; exact ((okI_iff hl (by omega)).1 (h j (by omega))).2 i hij
  · rintro ⟨h1, h2⟩ i hi
    refine (okI_iff hl hi).2 ⟨?_, fun j hj => ?_⟩
    · have := h1 _ (List.getElem_mem (show i < (x.rest.zip l).length by omega)); rwa [List.getElem_zip] at this
    · have := List.pairwise_iff_getElem.1 h2 j i (by omega) (by omega) hj; rwa [List.getElem_zip, List.getElem_zip] at this
theorem zip_fil {α β : Type} (q : α → Bool) : ∀ (a : List α) (b : List β), a.length = b.length → ((a.zip b).filter fun z => q z.1).map Prod.fst = a.filter q
  | [], [], _ => rfl
  | x :: a, y :: b, h => by
    have ih := zip_fil q a b (by simpa using h)
    rw [List.zip_cons_cons]
    by_cases hx : q x = true
    · rw [List.filter_cons_of_pos hx, List.filter_cons_of_pos (by simpa using hx), List.map_cons, ih]
    · rw [List.filter_cons_of_neg hx, List.filter_cons_of_neg (by simpa using hx), ih]
theorem zip_un {α β : Type} : ∀ z : List (α × β), (z.map Prod.fst).zip (z.map Prod.snd) = z
  | [] => rfl
  | (a, b) :: z => by rw [List.map_cons, List.map_cons, List.zip_cons_cons, zip_un z]
theorem sum_fil {f : Int → Int} {q : Int → Bool} : ∀ {l : List Int}, (∀ a ∈ l, 0 ≤ f a) → ((l.filter q).map f).sum ≤ (l.map f).sum
  | [], _ => by simp
  | a :: l, h => by
    have ih := sum_fil (q := q) fun b hb => h b (List.mem_cons_of_mem _ hb)
    have ha := h a List.mem_cons_self
    by_cases hq : q a = true
    · rw [List.filter_cons_of_pos hq, List.map_cons, List.map_cons, List.sum_cons, List.sum_cons]; omega
    · rw [List.filter_cons_of_neg hq, List.map_cons, List.sum_cons]; omega
theorem hands_cut {p : Ply} (B : PlB p) {x : Scn} (X : ScB p x) (F : List Int) : hands p (cutX F x) ≤ hands p x := by
  have := sum_fil (f := fun f => (fg p f).hands) (q := fun t => !decide (t ∈ F)) (l := x.moved) fun a ha => by
    have := (rising_iff.1 X.mv).2 a ha
    have := (fg_B B this.1 this.2).2.2; omega
  unfold hands
  show max 0 (x.knocks - 1) + (((x.moved.filter fun t => !decide (t ∈ F))).map fun f => (fg p f).hands).sum ≤ _
  omega
theorem can_iff {p : Ply} {x : Scn} : St.can p x = true ↔ hands p x ≤ 2 ∧ ∃ l, l ∈ arr true p x := by
  unfold St.can
  rw [Bool.and_eq_true, decide_eq_true_eq]
  cases h : arr true p x with
  | nil => simp
  | cons a m => simp
theorem can_cut {p : Ply} (B : PlB p) {x : Scn} (X : ScB p x) (F : List Int) (h : St.can p x = true) : St.can p (cutX F x) = true := by
  obtain ⟨h1, l, hl⟩ := can_iff.1 h
  refine can_iff.2 ⟨Int.le_trans (hands_cut B X F) h1, ?_⟩
  obtain ⟨l1, l2, l3⟩ := mem_arr.1 hl
  obtain ⟨s1, s2⟩ := (suits_zip l1).1 l3
  have ef : ((x.rest.zip l).filter fun z => !decide (z.1 ∈ F)).map Prod.fst = (cutX F x).rest := zip_fil (fun t => !decide (t ∈ F)) x.rest l l1.symm
  have el : (((x.rest.zip l).filter fun z => !decide (z.1 ∈ F)).map Prod.snd).length = (cutX F x).rest.length := by rw [← ef, List.length_map, List.length_map]
  refine ⟨((x.rest.zip l).filter fun z => !decide (z.1 ∈ F)).map Prod.snd, mem_arr.2 ⟨el, fun a ha => ?_, (suits_zip el).2 ?_⟩⟩
  · obtain ⟨z, hz, rfl⟩ := List.mem_map.1 ha
    exact l2 _ (List.of_mem_zip (List.mem_filter.1 hz).1).2
  · rw [← ef, zip_un]
    exact ⟨fun q hq => s1 q (List.mem_filter.1 hq).1, s2.filter _⟩
theorem cut_self {l : List Int} {f : Int} (h : f ∉ l) : cutN [f] l = l := List.filter_eq_self.2 fun a ha => by
  have : a ≠ f := fun e => h (e ▸ ha)
  simp [this]
theorem cut_with {l : List Int} {f : Int} (h : f ∉ l) : cutN [f] (withN l f) = l := by
  have e := cut_self h
  unfold cutN at *
  unfold withN insL
  rw [List.filter_append, List.filter_cons_of_neg (by simp), ← List.filter_append, List.take_append_drop]; exact e
theorem cut_more {mv : Bool} {x : Scn} {f : Int} (h1 : f ∉ x.moved) (h2 : f ∉ x.rest) : cutX [f] (moreX mv x f) = x := by
  cases mv with
  | true => show Scn.mk (cutN [f] (withN x.moved f)) (cutN [f] x.rest) x.knocks x.taken = x; rw [cut_with h1, cut_self h2]
  | false => show Scn.mk (cutN [f] x.moved) (cutN [f] (withN x.rest f)) x.knocks x.taken = x; rw [cut_self h1, cut_with h2]
theorem adds_mem {p : Ply} {k : Nat} {mv : Bool} {f : Int} : f ∈ adds p k mv ↔ (0 ≤ f ∧ f < p.figs.length) ∧ addI p k mv f = true := by
  unfold adds addsK; rw [List.mem_filter, mem_every]
theorem adds_rise (p : Ply) (k : Nat) (mv : Bool) : rising (adds p k mv) p.figs.length = true :=
  rising_iff.2 ⟨(Hd.every_rising _).filter _, fun x hx => mem_every.1 (List.mem_filter.1 hx).1⟩
theorem adds_can {p : Ply} (B : PlB p) {k : Nat} (hk : k < p.scs.length) {mv : Bool} (h : 0 < (adds p k mv).length) : St.can p (sc p k) = true := by
  have hm := List.getElem_mem h
  generalize (adds p k mv)[0] = f at hm
  obtain ⟨⟨h1, h2⟩, h3⟩ := adds_mem.1 hm
  obtain ⟨n, rfl⟩ : ∃ n : Nat, f = (n : Int) := ⟨f.toNat, by omega⟩
  unfold addI at h3
  simp only [Bool.and_eq_true, Bool.not_eq_true', Bool.or_eq_false_iff, decide_eq_false_iff_not, decide_eq_true_eq] at h3
  obtain ⟨⟨h4, h5⟩, h6, h7⟩ := h3
  have := can_cut B (moreX_B (sc_B B hk) (mv := mv) (f := n) (by omega) h4 h5 h6) [(n : Int)] h7
  rwa [cut_more h4 h5] at this
theorem scOK_iff {p : Ply} {x : Scn} : scOK p x = true ↔ ScB p x ∧ ∀ n ∈ x.moved, n ∉ x.rest := by
  unfold scOK
  simp only [Bool.and_eq_true, inn, decide_eq_true_eq, List.all_eq_true, Bool.not_eq_true', decide_eq_false_iff_not]
  constructor
  · rintro ⟨⟨⟨⟨⟨a1, a2⟩, a3⟩, a4⟩, a5⟩, a6⟩; exact ⟨⟨a1, a2, a3, a4, a5⟩, a6⟩
  · rintro ⟨⟨a1, a2, a3, a4, a5⟩, a6⟩; exact ⟨⟨⟨⟨⟨a1, a2⟩, a3⟩, a4⟩, a5⟩, a6⟩
theorem plOK_sc {p : Ply} (h : plOK p = true) : ∀ x ∈ p.scs, scOK p x = true := by
  unfold plOK at h
  simp only [Bool.and_eq_true, List.all_eq_true] at h
  exact h.2
theorem plOK_like {p q : Ply} (h : plOK p = true) (h1 : q.hts = p.hts) (h2 : q.left = p.left) (h3 : q.figs = p.figs) (h4 : q.scs.length = p.scs.length) : plOK q = q.scs.all (scOK q) := by
  unfold plOK at *
  simp only [Bool.and_eq_true] at h
  rw [h1, h2, h3, h4]
  obtain ⟨⟨⟨⟨⟨⟨a1, a2⟩, a3⟩, a4⟩, a5⟩, a6⟩, _⟩ := h
  rw [a1, a2, a3, a4, a5, a6]; rfl
theorem set_OK {p : Ply} {k : Nat} {x : Scn} (h : plOK p = true) (hk : k < p.scs.length) : plOK (setS p k x) = scOK p x := by
  rw [plOK_like (q := setS p k x) h rfl rfl rfl (by show (p.scs.set k x).length = _; rw [List.length_set])]
  show (p.scs.set k x).all (scOK p) = _
  rw [Bool.eq_iff_iff, List.all_eq_true]
  constructor
  · intro q; exact q x (List.mem_set hk x)
  · intro q y hy
    rcases List.mem_or_eq_of_mem_set hy with hy | rfl
    · exact plOK_sc h y hy
    · exact q
theorem more_OK {p : Ply} {k : Nat} {mv : Bool} {f : Nat} (h : plOK p = true) (hk : k < p.scs.length) (hf : f < p.figs.length) (h1 : (f : Int) ∉ (sc p k).moved) (h2 : (f : Int) ∉ (sc p k).rest) :
    plOK (setS p k (moreX mv (sc p k) f)) = decide ((moreX mv (sc p k) (f : Int)).rest.length ≤ 4) := by
  rw [set_OK h hk, Bool.eq_iff_iff, decide_eq_true_eq, scOK_iff]
  constructor
  · exact fun q => q.1.r4
  · intro q
    have hs := (scOK_iff.1 (plOK_sc h _ (by rw [sc_at hk]; exact List.getElem_mem hk) : scOK p (sc p k) = true)).2
    refine ⟨moreX_B (sc_B (plOK_B h) hk) hf h1 h2 q, fun n hn hr => ?_⟩
    cases mv with
    | true =>
      rcases mem_withN.1 hn with rfl | hn
      · exact h2 hr
      · exact hs n hn hr
    | false =>
      rcases mem_withN.1 hr with rfl | hr
      · exact h1 hn
      · exact hs n hn hr
end Go.Proofs.YtfmpabgblbbcdaaGreatDoor
namespace Go.Proofs.YtfmpabgblbbcdaaGreatDoor
open Go Go.Ab Ni St
open Hd hiding sz
instance en103 : EnT Tryz.prog 103 := ⟨Ent.of Tryz.func103 (by kernel_rfl) rfl⟩
instance en59 : EnT Tryz.prog 59 := ⟨Ent.of Tryz.func59 (by kernel_rfl) rfl⟩
theorem cnt_at {l : List Int} {n : Int} (hs : l.Pairwise (· ≤ ·)) {i : Nat} (hi : i ≤ l.length) (h1 : ∀ j, (h : j < l.length) → j < i → l[j] < n) (h2 : ∀ h : i < l.length, ¬ l[i] < n) : l.countP (· < n) = i := by
  have e : l.countP (· < n) = (l.take i).countP (· < n) + (l.drop i).countP (· < n) := by rw [← List.countP_append, List.take_append_drop]
  have e1 : (l.take i).countP (· < n) = i := by
    have : (l.take i).countP (· < n) = (l.take i).length := List.countP_eq_length.2 fun a ha => by
      obtain ⟨j, hj, rfl⟩ := List.getElem_of_mem ha
      rw [List.length_take] at hj
      rw [List.getElem_take]
      exact decide_eq_true (h1 j (by omega) (by omega))
    rw [this, List.length_take]; omega
  have e2 : (l.drop i).countP (· < n) = 0 := List.countP_eq_zero.2 fun a ha => by
    obtain ⟨j, hj, rfl⟩ := List.getElem_of_mem ha
    rw [List.length_drop] at hj
    rw [List.getElem_drop]
    have h3 := h2 (by omega)
    have h4 : l[i]'(by omega) ≤ l[i + j]'(by omega) := by
      rcases Nat.eq_zero_or_pos j with q | q
      · subst q; exact Int.le_refl _
      · exact List.pairwise_iff_getElem.1 hs i (i + j) (by omega) (by omega) (by omega)
    rw [decide_eq_true_eq]; omega
  omega
theorem rput_pure (l : List Int) (n : Int) (hl : l.length ≤ 1000000) (hs : l.Pairwise (· ≤ ·)) : APure Tryz.prog 103 [ints l, I n] (ints (withN l n)) := by
  refine ap Tryz.func103 (fun e0 he0 => ?_)
  refine vz 3 ?_
  refine sq_nil ?_
  refine aw_block ?_
  refine aw_sub (sub_token 5 1 jz) ?_
  refine aw_loopk (ι := { k : Nat // k ≤ l.length ∧ ∀ j, (h : j < l.length) → j < k → l[j] < n }) [0, 1] (fun i => [(6, I i.1), (5, .own 0 1 ((l.take i.1).map (fun x => [I x])))]) (fun H i => H.set 0 (.tok ((l.take i.1).map (fun x => [I x])).length)) (fun i => l.length - i.1) (⟨0, Nat.zero_le _, by omega⟩) ⟨jz, jz, jz, jz, trivial⟩ rfl ?_
  rintro ⟨k, hk, hlt⟩
  refine nz ?_
  refine wz 5 ?_
  refine sz 12 (fun g3_4 g3_4' => ?_) (fun g3_4 g3_4' => ?_)
  ·have hkL : k < l.length := by omega
   refine wz 7 ?_
   refine iz (fun c_19 c_19' => ?_) (fun c_19 c_19' => ?_)
   ·have hkn : l[k] < n := by simpa using c_19
    have eS : ((l.take (k + 1)).map fun x => [I x]) = ((l.take k).map fun x => [I x]) ++ [[I l[k]]] := by rw [List.take_succ_eq_append_getElem hkL, List.map_append]; rfl
    refine wz 5 ?_
    refine sq_ev rfl (ev_buildSlice (es := [[_]]) sf22.h rfl rfl rfl rfl) ?_
    first | refine sq_append rfl sf22.h Tryz.underlying22 rfl rfl jz (Nat.succ_pos _) (by simp; omega) (by simp; omega) ?_ | refine sq_append rfl sf22.h Tryz.underlying22 rfl rfl (less_slx _ _) (Nat.succ_pos _) (by simp; omega) (by simp; omega) ?_
    refine wz 4 ?_
    exact ⟨⟨k + 1, by omega, fun j h hj => (by by_cases e : j = k; (subst e; exact hkn); exact hlt j h (by omega))⟩, by simp only; omega, sb 1 ⟨jz, Less.eq (b := .own 0 1 ((l.take (k + 1)).map (fun x => [I x]))) (by rw [eS] <;> rfl), jz, jz, trivial⟩ (hH := (congrArg (fun n => [AObj.tok n]) (congrArg List.length eS.symm)))⟩
   have hcn : l.countP (· < n) = k := cnt_at hs hk hlt (fun h => by simpa using c_19)
   refine wz 5 ?_
   refine sq_ev rfl (ev_buildSlice (es := [[_]]) sf22.h rfl rfl rfl rfl) ?_
   first | refine sq_append rfl sf22.h Tryz.underlying22 rfl rfl jz (Nat.succ_pos _) (by simp; omega) (by simp; omega) ?_ | refine sq_append rfl sf22.h Tryz.underlying22 rfl rfl (less_slx _ _) (Nat.succ_pos _) (by simp; omega) (by simp; omega) ?_
   refine wz 4 ?_
   refine sq_ev rfl (ev_less (ev_slice (lo := k) (hi := l.length) sl22.h jz (by exact less_int (by simp; omega)) (by simp) (by omega) (by simp)) (Less.eq (b := ints (l.drop k)) (by rw [List.take_of_length_le (by simp), ← List.map_drop]))) ?_
   refine sq_append' rfl sf22.h Tryz.underlying22 rfl rfl jz (by simp; omega) (by simp; omega) ?_
   refine wz 1 ?_
   exact retQ_pure (v := .own _ _ _) rfl rfl (Less.trans (less_own _ _ _) (Less.eq (by unfold withN insL; rw [hcn]; simp)))
  have hcn : l.countP (· < n) = k := cnt_at hs hk hlt (fun h => by simp at g3_4; omega)
  refine wz 13 ?_
  refine sq_ev rfl (ev_buildSlice (es := [[_]]) sf22.h rfl rfl rfl rfl) ?_
  first | refine sq_append rfl sf22.h Tryz.underlying22 rfl rfl jz (Nat.succ_pos _) (by simp; omega) (by simp; omega) ?_ | refine sq_append rfl sf22.h Tryz.underlying22 rfl rfl (less_slx _ _) (Nat.succ_pos _) (by simp; omega) (by simp; omega) ?_
  refine wz 4 ?_
  refine sq_ev rfl (ev_less (ev_slice (lo := k) (hi := l.length) sl22.h jz (by exact less_int (by simp; omega)) (by simp) (by omega) (by simp)) (Less.eq (b := ints (l.drop k)) (by rw [List.take_of_length_le (by simp), ← List.map_drop]))) ?_
  refine sq_append' rfl sf22.h Tryz.underlying22 rfl rfl jz (by simp; omega) (by simp; omega) ?_
  refine wz 1 ?_
  exact retQ_pure (v := .own _ _ _) rfl rfl (Less.trans (less_own _ _ _) (Less.eq (by unfold withN insL; rw [hcn]; simp)))
theorem copS2_call0 {p : Ply} {o0 : AObj} {o1 : AObj} (hh : 0 < p.hts.length ∧ p.hts.length ≤ 1000000) (hf : 0 < p.figs.length ∧ p.figs.length ≤ 1000000) (hs : 0 < p.scs.length ∧ p.scs.length ≤ 1000000) : ACall Tryz.prog 59 [plA p] [o0, o1] (fun y H' => ∃ cap l1 l2, p.scs.length ≤ cap ∧ y = .ret (.agg [I p.left, ints p.hts, fgs p.figs, .msl 6 0 p.scs.length cap]) ∧ H' = [o0, o1, .cells l1, .cells l2, .dead, .dead, .cells ((p.scs.map scC).flatten ++ List.replicate ((cap - p.scs.length) * 4) .any)]) := by
  refine acall_of (rs := [.cell 2 26]) Tryz.func59 rfl rfl (Nat.le_of_ble_eq_true rfl) fun e0 he0 => ?_
  refine wz 4 ?_
  refine sq_append_msl2 rfl sf22.h Tryz.underlying22 (less_nilx _) jz (by simpa using hh.1) (by simp; omega) (by simp; omega) (fun c1 hc1 hc1b => ?_)
  simp only [List.length_map] at hc1 hc1b ⊢
  refine nz ?_
  refine wz 4 ?_
  refine sq_append_msl2 rfl sf23.h Tryz.underlying23 (less_nilx _) jz (by simpa using hf.1) (by simp; omega) (by simp; omega) (fun c2 hc2 hc2b => ?_)
  simp only [List.length_map] at hc2 hc2b ⊢
  refine nz ?_
  refine wz 4 ?_
  refine sq_append_msl2 rfl sf24.h Tryz.underlying24 (less_nilx _) jz (by simpa using hs.1) (by simp; omega) (by simp; omega) (fun c3 hc3 hc3b => ?_)
  simp only [List.length_map] at hc3 hc3b ⊢
  refine nz ?_
  refine vz 2 ?_
  refine sq_nil ?_
  refine aw_seq ?_
  refine aw_sub (sub_freeze (j := 4) (n := p.hts.length) (cap := c1) (sz := 1) (es := p.hts.map (fun x => [I x])) (rest := List.replicate ((c1 - p.hts.length) * 1) .any) (sl' := [(1, .ptr 2 0), (2, .ptr 3 0)]) rfl (by simp) (fun q hq => by obtain ⟨x, _, rfl⟩ := List.mem_map.1 hq; rfl) (fun q hq => ?_) (FzH.same _ (by decide) (FzH.same _ (by decide) (FzH.cells (by decide) (FzL.cons (Fz.same _) (FzL.cons Fz.frozen (FzL.cons (Fz.same _) (FzL.cons (Fz.same _) FzL.nil)))) (FzH.same _ (by decide) (FzH.dead _ rfl (FzH.same _ (by decide) (FzH.same _ (by decide) (FzH.nil _))))))))) ?_
  ·simp only [List.mem_cons, List.not_mem_nil, or_false] at hq; rcases hq with rfl | rfl <;> exact Fz.same _
  refine nz ?_
  refine aw_sub (sub_freeze (j := 5) (n := p.figs.length) (cap := c2) (sz := 3) (es := p.figs.map fgC) (rest := List.replicate ((c2 - p.figs.length) * 3) .any) (sl' := [(1, .ptr 2 0), (2, .ptr 3 0)]) rfl (by simp) (fun q hq => by obtain ⟨x, _, rfl⟩ := List.mem_map.1 hq; rfl) (fun q hq => ?_) (FzH.same _ (by decide) (FzH.same _ (by decide) (FzH.cells (by decide) (FzL.cons (Fz.same _) (FzL.cons (Fz.same _) (FzL.cons Fz.frozen (FzL.cons (Fz.same _) FzL.nil)))) (FzH.same _ (by decide) (FzH.same _ (by decide) (FzH.dead _ rfl (FzH.same _ (by decide) (FzH.nil _))))))))) ?_
  ·simp only [List.mem_cons, List.not_mem_nil, or_false] at hq; rcases hq with rfl | rfl <;> exact Fz.same _
  refine nz ?_
  refine wz 2 ?_
  exact ⟨rfl, _, rfl, c3, _, _, hc3, rfl, rfl⟩
theorem copS2_call {p : Ply} {o0 : AObj} {o1 : AObj} (hh : 0 < p.hts.length ∧ p.hts.length ≤ 1000000) (hf : 0 < p.figs.length ∧ p.figs.length ≤ 1000000) (hs : 0 < p.scs.length ∧ p.scs.length ≤ 1000000) : ACall Tryz.prog 59 [plA p] [o0, o1] (fun y H' => ∃ cap, p.scs.length ≤ cap ∧ y = .ret (.agg [I p.left, ints p.hts, fgs p.figs, .msl 6 0 p.scs.length cap]) ∧ H' = [o0, o1, .dead, .dead, .dead, .dead, .cells ((p.scs.map scC).flatten ++ List.replicate ((cap - p.scs.length) * 4) .any)]) :=
  acall_wk (copS2_call0 hh hf hs) fun y H1 ⟨cap, l1, l2, hcap, hy, hH⟩ => ⟨_, _, _, hy, Less.rfl' _, by subst hH; exact .cons (.same _) (.cons (.same _) (.cons (.dead _) (.cons (.dead _) (.cons (.same _) (.cons (.same _) (.cons (.same _) (.nil))))))), cap, hcap, rfl, rfl⟩
end Go.Proofs.YtfmpabgblbbcdaaGreatDoor
namespace Go.Proofs.YtfmpabgblbbcdaaGreatDoor
open Go Go.Ab Ni St
open Hd hiding sz
instance en50 : EnT Tryz.prog 50 := ⟨Ent.of Tryz.func50 (by kernel_rfl) rfl⟩
theorem row_at {R : List AV} {j : Nat} (hj : j < 4) : ∀ {k : Nat} {l : List Scn} (hk : k < l.length), ((l.map scC).flatten ++ R)[0 + k * 4 + j]? = (scC l[k])[j]?
  | 0, x :: l, _ => by
    rw [List.map_cons, List.flatten_cons, List.append_assoc, List.getElem?_append_left (by show 0 + 0 * 4 + j < 4; omega)]
    rw [show 0 + 0 * 4 + j = j by omega]; rfl
  | k + 1, x :: l, hk => by
    have ih := row_at (R := R) hj (k := k) (l := l) (by simpa using hk)
    rw [List.map_cons, List.flatten_cons, List.append_assoc, List.getElem?_append_right (by show 4 ≤ 0 + (k + 1) * 4 + j; omega)]
    have e : 0 + (k + 1) * 4 + j - (scC x).length = 0 + k * 4 + j := by show _ - 4 = _; omega
    rw [e]; exact ih
theorem row_set {R : List AV} {j : Nat} (hj : j < 4) {v : AV} {x' : Scn} : ∀ {k : Nat} {l : List Scn} (hk : k < l.length), scC x' = (scC l[k]).set j v → ((l.map scC).flatten ++ R).set (0 + k * 4 + j) v = ((l.set k x').map scC).flatten ++ R
  | 0, x :: l, _, h => by
    rw [List.map_cons, List.flatten_cons, List.append_assoc, show 0 + 0 * 4 + j = j by omega, List.set_append_left _ _ (by show j < 4; omega)]
    rw [List.set_cons_zero, List.map_cons, List.flatten_cons, List.append_assoc]
    rw [h]; rfl
  | k + 1, x :: l, hk, h => by
    have ih := row_set (R := R) hj (v := v) (x' := x') (k := k) (l := l) (by simpa using hk) h
    rw [List.map_cons, List.flatten_cons, List.append_assoc, List.set_append_right _ _ (by show 4 ≤ 0 + (k + 1) * 4 + j; omega)]
    have e : 0 + (k + 1) * 4 + j - (scC x).length = 0 + k * 4 + j := by show _ - 4 = _; omega
    rw [e, ih, List.set_cons_succ, List.map_cons, List.flatten_cons, List.append_assoc]
theorem fl_fld (l : List Scn) (R : List AV) {k j : Nat} (hk : k < l.length) (hj : j < 4) (v : AV) (x' : Scn) (h : scC x' = (scC l[k]).set j v) :
    ((l.map scC).flatten ++ R).take (0 + k * 4 + j) ++ [v] ++ ((l.map scC).flatten ++ R).drop (0 + k * 4 + j + 1) = ((l.set k x').map scC).flatten ++ R := by
  have hl : ((l.map scC).flatten).length = l.length * 4 := fl_len (f := scC) (sz := 4) (fun a => rfl) l
  rw [← row_set hj hk h, List.set_eq_take_append_cons_drop, if_pos (by rw [List.length_append, hl]; omega)]
  simp
theorem row_len (l : List Scn) (R : List AV) {k j : Nat} (hk : k < l.length) (hj : j < 4) : Nat.ble (0 + k * 4 + j + 1) ((l.map scC).flatten ++ R).length = true :=
  Nat.ble_eq_true_of_le (by rw [List.length_append, fl_len (f := scC) (sz := 4) (fun a => rfl)]; omega)
theorem pl_bd {p : Ply} (B : PlB p) : (0 < p.hts.length ∧ p.hts.length ≤ 1000000) ∧ (0 < p.figs.length ∧ p.figs.length ≤ 1000000) ∧ (0 < p.scs.length ∧ p.scs.length ≤ 1000000) := by
  have := B.nh; have := B.nf; have := B.ns; omega
theorem rmoret_pure {p : Ply} (gP : PlB p) {k : Nat} (hk : k < p.scs.length) (f : Int) : APure Tryz.prog 50 [plA p, I k, I f, B true] (plA (setS p k (moreX true (sc p k) f))) := by
  refine ap Tryz.func50 (fun e0 he0 => ?_)
  refine aw_seq ?_
  have esc := sc_at hk
  have gX := sc_B gP hk
  have hml := rising_len gX.mv
  have hrl := rising_len gX.rs
  have hnf := gP.nf
  refine wz 3 ?_
  refine sq_call (args := [plA p]) rfl en59.h jz ⟨jz, trivial⟩ (copS2_call (pl_bd gP).1 (pl_bd gP).2.1 (pl_bd gP).2.2) ?_ (by rintro v H' ⟨_, _, h, _⟩; cases h)
  rintro v H' ⟨cap, hcap, h, rfl⟩
  cases h
  refine wz 3 ?_
  refine aw_draw 13 mo (by kernel_rfl) ?_
  refine dz 6 ?_
  refine dr_ev rfl (ev_index_msl (k := k) sl24.h jz jz rfl hk) ?_
  refine dz 1 ?_
  refine dr_ev rfl (ev_load (v := ints (sc p k).moved) jz rfl ty22.h (by rw [row_at (l := p.scs) (j := 0) (by decide) hk, ← esc]; rfl)) ?_
  refine dz 1 ?_
  refine dkz az (rput_pure (sc p k).moved f (by omega) (lt_le (rising_iff.1 gX.mv).1)) ?_
  refine dr_ev rfl (ev_index_msl (k := k) sl24.h jz jz rfl hk) ?_
  refine dz 1 ?_
  refine sq_store (j := 6) (off := 0 + k * 4 + 0) rfl jz jz rfl rfl ty22.h rfl (row_len p.scs _ (j := 0) hk (by decide)) ?_
  refine sq_nil ?_
  refine aw_seq ?_
  refine aw_sub (sub_freeze (j := 6) (n := p.scs.length) (cap := cap) (sz := 4) (es := (p.scs.set k (moreX true (sc p k) f)).map scC) (rest := List.replicate ((cap - p.scs.length) * 4) .any) (sl' := [(4, .ptr 0 0), (8, .ptr 1 0)]) (congrArg (fun l => some (AObj.cells l)) (fl_fld p.scs _ (j := 0) hk (by decide) (ints (withN (sc p k).moved f)) (moreX true (sc p k) f) (by rw [← esc]; rfl))) (by simp [outP]) (fun q hq => by obtain ⟨x, _, rfl⟩ := List.mem_map.1 hq; rfl) (fun q hq => ?_) (FzH.cells (by decide) (FzL.cons (Fz.same _) (FzL.cons (Fz.same _) (FzL.cons (Fz.same _) (FzL.cons Fz.frozen FzL.nil)))) (FzH.same _ (by decide) (FzH.same _ (by decide) (FzH.same _ (by decide) (FzH.same _ (by decide) (FzH.same _ (by decide) (FzH.dead _ rfl (FzH.nil _))))))))) ?_
  ·simp only [List.mem_cons, List.not_mem_nil, or_false] at hq; rcases hq with rfl | rfl <;> exact Fz.same _
  refine nz ?_
  refine wz 2 ?_
  exact retQ_res (vs := [.agg _]) rfl rfl ⟨resVar_cell rfl rfl ty26.h rfl, trivial⟩ jz
theorem rmoref_pure {p : Ply} (gP : PlB p) {k : Nat} (hk : k < p.scs.length) (f : Int) : APure Tryz.prog 50 [plA p, I k, I f, B false] (plA (setS p k (moreX false (sc p k) f))) := by
  refine ap Tryz.func50 (fun e0 he0 => ?_)
  refine aw_seq ?_
  have esc := sc_at hk
  have gX := sc_B gP hk
  have hml := rising_len gX.mv
  have hrl := rising_len gX.rs
  have hnf := gP.nf
  refine wz 3 ?_
  refine sq_call (args := [plA p]) rfl en59.h jz ⟨jz, trivial⟩ (copS2_call (pl_bd gP).1 (pl_bd gP).2.1 (pl_bd gP).2.2) ?_ (by rintro v H' ⟨_, _, h, _⟩; cases h)
  rintro v H' ⟨cap, hcap, h, rfl⟩
  cases h
  refine wz 3 ?_
  refine aw_draw 13 mo (by kernel_rfl) ?_
  refine dz 6 ?_
  refine dr_ev rfl (ev_index_msl (k := k) sl24.h jz jz rfl hk) ?_
  refine dz 1 ?_
  refine dr_ev rfl (ev_load (v := ints (sc p k).rest) jz rfl ty22.h (by rw [row_at (l := p.scs) (j := 1) (by decide) hk, ← esc]; rfl)) ?_
  refine dz 1 ?_
  refine dkz az (rput_pure (sc p k).rest f (by omega) (lt_le (rising_iff.1 gX.rs).1)) ?_
  refine dr_ev rfl (ev_index_msl (k := k) sl24.h jz jz rfl hk) ?_
  refine dz 1 ?_
  refine sq_store (j := 6) (off := 0 + k * 4 + 1) rfl jz jz rfl rfl ty22.h rfl (row_len p.scs _ (j := 1) hk (by decide)) ?_
  refine sq_nil ?_
  refine aw_seq ?_
  refine aw_sub (sub_freeze (j := 6) (n := p.scs.length) (cap := cap) (sz := 4) (es := (p.scs.set k (moreX false (sc p k) f)).map scC) (rest := List.replicate ((cap - p.scs.length) * 4) .any) (sl' := [(4, .ptr 0 0), (8, .ptr 1 0)]) (congrArg (fun l => some (AObj.cells l)) (fl_fld p.scs _ (j := 1) hk (by decide) (ints (withN (sc p k).rest f)) (moreX false (sc p k) f) (by rw [← esc]; rfl))) (by simp [outP]) (fun q hq => by obtain ⟨x, _, rfl⟩ := List.mem_map.1 hq; rfl) (fun q hq => ?_) (FzH.cells (by decide) (FzL.cons (Fz.same _) (FzL.cons (Fz.same _) (FzL.cons (Fz.same _) (FzL.cons Fz.frozen FzL.nil)))) (FzH.same _ (by decide) (FzH.same _ (by decide) (FzH.same _ (by decide) (FzH.same _ (by decide) (FzH.same _ (by decide) (FzH.dead _ rfl (FzH.nil _))))))))) ?_
  ·simp only [List.mem_cons, List.not_mem_nil, or_false] at hq; rcases hq with rfl | rfl <;> exact Fz.same _
  refine nz ?_
  refine wz 2 ?_
  exact retQ_res (vs := [.agg _]) rfl rfl ⟨resVar_cell rfl rfl ty26.h rfl, trivial⟩ jz
end Go.Proofs.YtfmpabgblbbcdaaGreatDoor
namespace Go.Proofs.YtfmpabgblbbcdaaGreatDoor
open Go Go.Ab Ni St
open Hd hiding sz
instance en38 : EnT Tryz.prog 38 := ⟨Ent.of Tryz.func38 (by kernel_rfl) rfl⟩
theorem rmore_pure {p : Ply} (gP : PlB p) {k : Nat} (hk : k < p.scs.length) (f : Int) (mv : Bool) : APure Tryz.prog 50 [plA p, I k, I f, B mv] (plA (setS p k (moreX mv (sc p k) f))) := by
  cases mv with
  | true => exact rmoret_pure gP hk f
  | false => exact rmoref_pure gP hk f
theorem rrise_pure (p : Ply) (l : List Int) (hl : l.length ≤ 1000000) (hf : p.figs.length ≤ 1000000) : APure Tryz.prog 38 [plA p, ints l] (B (rising l p.figs.length)) := by
  refine ap Tryz.func38 (fun e0 he0 => ?_)
  refine wz 6 ?_
  refine kz az (rrising_pure l p.figs.length hl hf) ?_
  refine wz 1 ?_
  exact rz rfl jz
theorem ok_lens {p : Ply} (h : plOK p = true) : p.hts.length ≤ 1000000 ∧ p.figs.length ≤ 1000000 ∧ p.scs.length ≤ 1000000 ∧ ∀ x ∈ p.scs, x.moved.length ≤ 1000000 ∧ x.rest.length ≤ 1000000 ∧ x.taken.length ≤ 1000000 := by
  have B := plOK_B h
  have := B.nh; have := B.nf; have := B.ns
  refine ⟨by omega, by omega, by omega, fun x hx => ?_⟩
  have X := B.sc x hx
  have h1 := rising_len X.mv; have h2 := rising_len X.rs; have h3 := rising_len X.tk
  omega
end Go.Proofs.YtfmpabgblbbcdaaGreatDoor
namespace Go.Proofs.YtfmpabgblbbcdaaGreatDoor
open Go Go.Ab Ni St
open Hd hiding sz
theorem adds_len (p : Ply) (k : Nat) (mv : Bool) : (adds p k mv).length ≤ p.figs.length := addsK_len p k mv _
theorem rise_t {p : Ply} (hr : plOK p = true) (k : Nat) (mv : Bool) : APure Tryz.prog 38 [plA p, ints (adds p k mv)] (B true) := by
  have := (plOK_B hr).nf
  have h := adds_len p k mv
  have q := rrise_pure p (adds p k mv) (by omega) (by omega); rw [adds_rise] at q; exact q
theorem fg_t {p : Ply} {n : Int} (hs : shB p = true) (h : fgIn p n = true) : APure Tryz.prog 48 [plA p, I n] (B true) := by have q := rfig_pure p n (shB_len hs).2.1; rw [h] at q; exact q
theorem fg_f {p : Ply} {n : Int} (hs : shB p = true) (h : fgIn p n = false) : APure Tryz.prog 48 [plA p, I n] (B false) := by have q := rfig_pure p n (shB_len hs).2.1; rw [h] at q; exact q
theorem set_lens {p : Ply} (hr : plOK p = true) {k : Nat} (hk : k < p.scs.length) (mv : Bool) (f : Int) : (setS p k (moreX mv (sc p k) f)).hts.length ≤ 1000000 ∧ (setS p k (moreX mv (sc p k) f)).figs.length ≤ 1000000 ∧ (setS p k (moreX mv (sc p k) f)).scs.length ≤ 1000000 ∧ ∀ x ∈ (setS p k (moreX mv (sc p k) f)).scs, x.moved.length ≤ 1000000 ∧ x.rest.length ≤ 1000000 ∧ x.taken.length ≤ 1000000 := by
  have L := ok_lens hr
  have B := plOK_B hr
  have nf := B.nf; have nh := B.nh
  refine ⟨L.1, L.2.1, by show (p.scs.set k _).length ≤ 1000000; rw [List.length_set]; exact L.2.2.1, fun x hx => ?_⟩
  rcases List.mem_or_eq_of_mem_set hx with hx | rfl
  · exact L.2.2.2 x hx
  · have X := sc_B B hk
    have h1 := rising_len X.mv; have h2 := rising_len X.rs; have h3 := rising_len X.tk
    cases mv with
    | true =>
      have := withN_len (sc p k).moved f
      show (withN (sc p k).moved f).length ≤ 1000000 ∧ (sc p k).rest.length ≤ 1000000 ∧ (sc p k).taken.length ≤ 1000000
      omega
    | false =>
      have := withN_len (sc p k).rest f
      show (sc p k).moved.length ≤ 1000000 ∧ (withN (sc p k).rest f).length ≤ 1000000 ∧ (sc p k).taken.length ≤ 1000000
      omega
theorem pl_set {p : Ply} (hr : plOK p = true) {k : Nat} (hk : k < p.scs.length) {mv : Bool} {f : Int} {b : Bool} (h : plOK (setS p k (moreX mv (sc p k) f)) = b) : APure Tryz.prog 22 [plA (setS p k (moreX mv (sc p k) f))] (B b) := by
  have L := set_lens hr hk mv f
  have q := rplay_pure _ L.1 L.2.1 L.2.2.1 L.2.2.2; rw [h] at q; exact q
theorem can_set {p : Ply} {k : Nat} (hk : k < p.scs.length) {x : Scn} (h : plOK (setS p k x) = true) : APure Tryz.prog 49 [plA (setS p k x), I k] (.tup [B (St.can p x), I 0]) := by
  have L := ok_lens h
  have q := xcan_ok (p := setS p k x) L.1 L.2.1 L.2.2.1 L.2.2.2 (k := k) (by show k < (p.scs.set k _).length; rw [List.length_set]; exact hk) h
  rw [setS_sc hk] at q; exact q
theorem more_no {p : Ply} {k : Nat} {mv : Bool} {f : Nat} (hr : plOK p = true) (hk : k < p.scs.length) (hf : f < p.figs.length) (h1 : (f : Int) ∉ (sc p k).moved) (h2 : (f : Int) ∉ (sc p k).rest) (h : plOK (setS p k (moreX mv (sc p k) f)) = false) : (f : Int) ∉ adds p k false := by
  rw [more_OK hr hk hf h1 h2, decide_eq_false_iff_not] at h
  cases mv with
  | true => exact absurd (sc_B (plOK_B hr) hk).r4 h
  | false =>
    intro hm
    have := (adds_mem.1 hm).2
    unfold addI at this
    simp only [Bool.and_eq_true, decide_eq_true_eq] at this
    exact h this.2.1
theorem adds_is {p : Ply} {k : Nat} {mv : Bool} {f : Nat} (hr : plOK p = true) (hk : k < p.scs.length) (hf : f < p.figs.length) (h1 : (f : Int) ∉ (sc p k).moved) (h2 : (f : Int) ∉ (sc p k).rest) (h : plOK (setS p k (moreX mv (sc p k) f)) = true) : decide ((f : Int) ∈ adds p k mv) = St.can p (moreX mv (sc p k) f) := by
  rw [more_OK hr hk hf h1 h2, decide_eq_true_eq] at h
  rw [Bool.eq_iff_iff, decide_eq_true_eq, adds_mem]
  unfold addI
  simp only [Bool.and_eq_true, decide_eq_true_eq, Bool.not_eq_true', Bool.or_eq_false_iff, decide_eq_false_iff_not]
  constructor
  · exact fun q => q.2.2.2
  · exact fun q => ⟨⟨by omega, by omega⟩, ⟨h1, h2⟩, h, q⟩
theorem has_adds {p : Ply} {k : Nat} {mv : Bool} {f : Nat} (hr : plOK p = true) (hk : k < p.scs.length) (hf : f < p.figs.length) (h1 : (f : Int) ∉ (sc p k).moved) (h2 : (f : Int) ∉ (sc p k).rest) (h : plOK (setS p k (moreX mv (sc p k) f)) = true) : APure Tryz.prog 27 [ints (adds p k mv), I f] (B (St.can p (moreX mv (sc p k) f))) := by
  have nf := (plOK_B hr).nf
  have q := has_pure (adds p k mv) (f : Int) (by have := adds_len p k mv; omega)
  rw [adds_is hr hk hf h1 h2 h] at q; exact q
theorem can_e {p : Ply} {k : Nat} {b : Bool} (hs : shB p = true) (hr : plOK p = true) (hn : k < p.scs.length) (e : St.can p (sc p k) = b) : APure Tryz.prog 49 [plA p, I k] (.tup [B b, I 0]) := by
  have q := xcan_ok (shB_len hs).1 (shB_len hs).2.1 (shB_len hs).2.2.1 (shB_len hs).2.2.2 hn hr; rw [e] at q; exact q
theorem ad_bd {p : Ply} (hr : plOK p = true) (k : Nat) (mv : Bool) : (adds p k mv).length ≤ 1000000 := by have := (plOK_B hr).nf; have := adds_len p k mv; omega
theorem law9_a {p : Ply} {n g : Int} {mv : Bool} (hs : shB p = false) : APure Tryz.prog 9 [plA p, I n, I g, B mv] (B true) := by
  refine ap Tryz.func9 (fun e0 he0 => ?_)
  refine wz 3 ?_
  refine kz az (short_f hs) ?_
  refine wz 39 ?_
  refine kz az (known_pure) ?_
  refine wz 1 ?_
  exact rz rfl jz
theorem law9_b {p : Ply} {n g : Int} {mv : Bool} (hs : shB p = true) (hr : plOK p = false) : APure Tryz.prog 9 [plA p, I n, I g, B mv] (B true) := by
  refine ap Tryz.func9 (fun e0 he0 => ?_)
  refine wz 3 ?_
  refine kz az (short_t hs) ?_
  refine wz 3 ?_
  refine ky az (pl_f hs hr) ?_
  refine wz 35 ?_
  refine kz az (known_pure) ?_
  refine wz 1 ?_
  exact rz rfl jz
theorem law9_c {p : Ply} {n g : Int} {mv : Bool} (hs : shB p = true) (hr : plOK p = true) (hi : scIn p n = false) : APure Tryz.prog 9 [plA p, I n, I g, B mv] (B true) := by
  refine ap Tryz.func9 (fun e0 he0 => ?_)
  refine wz 3 ?_
  refine kz az (short_t hs) ?_
  refine wz 3 ?_
  refine ky az (pl_t hs hr) ?_
  refine wz 5 ?_
  refine ky az (scn_f hs hi) ?_
  refine wz 29 ?_
  refine kz az (known_pure) ?_
  refine wz 1 ?_
  exact rz rfl jz
theorem law9_d {p : Ply} {k : Nat} {g : Int} {mv : Bool} (hs : shB p = true) (hr : plOK p = true) (hi : scIn p k = true) (hn : k < p.scs.length) (hg : fgIn p g = false) : APure Tryz.prog 9 [plA p, I k, I g, B mv] (B true) := by
  refine ap Tryz.func9 (fun e0 he0 => ?_)
  refine wz 3 ?_
  refine kz az (short_t hs) ?_
  refine wz 3 ?_
  refine ky az (pl_t hs hr) ?_
  refine wz 5 ?_
  refine ky az (scn_t hs hi) ?_
  refine wz 5 ?_
  refine ky az (fg_f hs hg) ?_
  refine wz 23 ?_
  refine kz az (known_pure) ?_
  refine wz 1 ?_
  exact rz rfl jz
theorem law9_e {p : Ply} {k : Nat} {g : Int} {mv : Bool} (hs : shB p = true) (hr : plOK p = true) (hi : scIn p k = true) (hn : k < p.scs.length) (hg : fgIn p g = true) (h1 : g ∈ (sc p k).moved) : APure Tryz.prog 9 [plA p, I k, I g, B mv] (B true) := by
  refine ap Tryz.func9 (fun e0 he0 => ?_)
  refine wz 3 ?_
  refine kz az (short_t hs) ?_
  refine wz 3 ?_
  refine ky az (pl_t hs hr) ?_
  refine wz 5 ?_
  refine ky az (scn_t hs hi) ?_
  refine wz 5 ?_
  refine ky az (fg_t hs hg) ?_
  refine wz 6 ?_
  refine sq_yes rfl rfl jz rfl (ev_less (ev_index_map (k := k) (xs := p.scs) sl24.h jz jz rfl hn) (Less.eq (b := .iptr (scC (sc p k))) (by rw [sc_at hn]))) ?_
  refine wz 3 ?_
  refine ky az (has_t (by have h9 := sc_B (plOK_B hr) hn; have := rising_len h9.mv; have := rising_len h9.rs; have := (plOK_B hr).nf; omega) h1) ?_
  refine wz 12 ?_
  refine kz az (known_pure) ?_
  refine wz 1 ?_
  exact rz rfl jz
theorem law9_f {p : Ply} {k : Nat} {g : Int} {mv : Bool} (hs : shB p = true) (hr : plOK p = true) (hi : scIn p k = true) (hn : k < p.scs.length) (hg : fgIn p g = true) (h1 : g ∉ (sc p k).moved) (h2 : g ∈ (sc p k).rest) : APure Tryz.prog 9 [plA p, I k, I g, B mv] (B true) := by
  refine ap Tryz.func9 (fun e0 he0 => ?_)
  refine wz 3 ?_
  refine kz az (short_t hs) ?_
  refine wz 3 ?_
  refine ky az (pl_t hs hr) ?_
  refine wz 5 ?_
  refine ky az (scn_t hs hi) ?_
  refine wz 5 ?_
  refine ky az (fg_t hs hg) ?_
  refine wz 6 ?_
  refine sq_yes rfl rfl jz rfl (ev_less (ev_index_map (k := k) (xs := p.scs) sl24.h jz jz rfl hn) (Less.eq (b := .iptr (scC (sc p k))) (by rw [sc_at hn]))) ?_
  refine wz 3 ?_
  refine ky az (has_f (by have h9 := sc_B (plOK_B hr) hn; have := rising_len h9.mv; have := rising_len h9.rs; have := (plOK_B hr).nf; omega) h1) ?_
  refine wz 5 ?_
  refine sq_yes rfl rfl jz rfl (ev_less (ev_index_map (k := k) (xs := p.scs) sl24.h jz jz rfl hn) (Less.eq (b := .iptr (scC (sc p k))) (by rw [sc_at hn]))) ?_
  refine wz 3 ?_
  refine ky az (has_t (by have h9 := sc_B (plOK_B hr) hn; have := rising_len h9.mv; have := rising_len h9.rs; have := (plOK_B hr).nf; omega) h2) ?_
  refine wz 2 ?_
  refine kz az (known_pure) ?_
  refine wz 1 ?_
  exact rz rfl jz
theorem law9_gt {p : Ply} {k f : Nat} {mv : Bool} (hs : shB p = true) (hr : plOK p = true) (hi : scIn p k = true) (hn : k < p.scs.length) (hg : fgIn p f = true) (hf : f < p.figs.length) (h1 : (f : Int) ∉ (sc p k).moved) (h2 : (f : Int) ∉ (sc p k).rest) (hc : St.can p (sc p k) = true) (ho : plOK (setS p k (moreX mv (sc p k) f)) = false) : APure Tryz.prog 9 [plA p, I k, I f, B mv] (B true) := by
  refine ap Tryz.func9 (fun e0 he0 => ?_)
  refine wz 3 ?_
  refine kz az (short_t hs) ?_
  refine wz 3 ?_
  refine ky az (pl_t hs hr) ?_
  refine wz 5 ?_
  refine ky az (scn_t hs hi) ?_
  refine wz 5 ?_
  refine ky az (fg_t hs hg) ?_
  refine wz 6 ?_
  refine sq_yes rfl rfl jz rfl (ev_less (ev_index_map (k := k) (xs := p.scs) sl24.h jz jz rfl hn) (Less.eq (b := .iptr (scC (sc p k))) (by rw [sc_at hn]))) ?_
  refine wz 3 ?_
  refine ky az (has_f (by have h9 := sc_B (plOK_B hr) hn; have := rising_len h9.mv; have := rising_len h9.rs; have := (plOK_B hr).nf; omega) h1) ?_
  refine wz 5 ?_
  refine sq_yes rfl rfl jz rfl (ev_less (ev_index_map (k := k) (xs := p.scs) sl24.h jz jz rfl hn) (Less.eq (b := .iptr (scC (sc p k))) (by rw [sc_at hn]))) ?_
  refine wz 3 ?_
  refine ky az (has_f (by have h9 := sc_B (plOK_B hr) hn; have := rising_len h9.mv; have := rising_len h9.rs; have := (plOK_B hr).nf; omega) h2) ?_
  refine wz 4 ?_
  refine kz az (xadds_ok (shB_len hs).1 (shB_len hs).2.1 (shB_len hs).2.2.1 (shB_len hs).2.2.2 hn hr) ?_
  refine wz 7 ?_
  refine kz az (xjoins_ok (shB_len hs).1 (shB_len hs).2.1 (shB_len hs).2.2.1 (shB_len hs).2.2.2 hn hr) ?_
  refine wz 7 ?_
  refine kz az (can_e hs hr hn hc) ?_
  refine vz 5 ?_
  refine sq_nil ?_
  refine aw_seq ?_
  refine aw_seq ?_
  have hb1 := adds_len p k false
  have hb2 := adds_len p k true
  have hnf := (plOK_B hr).nf
  refine wz 13 ?_
  refine ky az (rise_t hr k false) ?_
  refine wz 5 ?_
  refine ky az (rise_t hr k true) ?_
  refine wz 19 ?_
  refine kz az (rmore_pure (plOK_B hr) hn (f : Int) mv) ?_
  refine wz 3 ?_
  refine kz az (pl_set hr hn ho) ?_
  refine wz 4 ?_
  refine kz az (has_f (ad_bd hr k false) (more_no hr hn hf h1 h2 ho)) ?_
  refine wz 2 ?_
  refine ky az (known_pure) ?_
  refine wz 2 ?_
  exact rz rfl jz
theorem law9_ht {p : Ply} {k f : Nat} {mv : Bool} (hs : shB p = true) (hr : plOK p = true) (hi : scIn p k = true) (hn : k < p.scs.length) (hg : fgIn p f = true) (hf : f < p.figs.length) (h1 : (f : Int) ∉ (sc p k).moved) (h2 : (f : Int) ∉ (sc p k).rest) (hc : St.can p (sc p k) = true) (ho : plOK (setS p k (moreX mv (sc p k) f)) = true) : APure Tryz.prog 9 [plA p, I k, I f, B mv] (B true) := by
  refine ap Tryz.func9 (fun e0 he0 => ?_)
  refine wz 3 ?_
  refine kz az (short_t hs) ?_
  refine wz 3 ?_
  refine ky az (pl_t hs hr) ?_
  refine wz 5 ?_
  refine ky az (scn_t hs hi) ?_
  refine wz 5 ?_
  refine ky az (fg_t hs hg) ?_
  refine wz 6 ?_
  refine sq_yes rfl rfl jz rfl (ev_less (ev_index_map (k := k) (xs := p.scs) sl24.h jz jz rfl hn) (Less.eq (b := .iptr (scC (sc p k))) (by rw [sc_at hn]))) ?_
  refine wz 3 ?_
  refine ky az (has_f (by have h9 := sc_B (plOK_B hr) hn; have := rising_len h9.mv; have := rising_len h9.rs; have := (plOK_B hr).nf; omega) h1) ?_
  refine wz 5 ?_
  refine sq_yes rfl rfl jz rfl (ev_less (ev_index_map (k := k) (xs := p.scs) sl24.h jz jz rfl hn) (Less.eq (b := .iptr (scC (sc p k))) (by rw [sc_at hn]))) ?_
  refine wz 3 ?_
  refine ky az (has_f (by have h9 := sc_B (plOK_B hr) hn; have := rising_len h9.mv; have := rising_len h9.rs; have := (plOK_B hr).nf; omega) h2) ?_
  refine wz 4 ?_
  refine kz az (xadds_ok (shB_len hs).1 (shB_len hs).2.1 (shB_len hs).2.2.1 (shB_len hs).2.2.2 hn hr) ?_
  refine wz 7 ?_
  refine kz az (xjoins_ok (shB_len hs).1 (shB_len hs).2.1 (shB_len hs).2.2.1 (shB_len hs).2.2.2 hn hr) ?_
  refine wz 7 ?_
  refine kz az (can_e hs hr hn hc) ?_
  refine vz 5 ?_
  refine sq_nil ?_
  refine aw_seq ?_
  refine aw_seq ?_
  have hb1 := adds_len p k false
  have hb2 := adds_len p k true
  have hnf := (plOK_B hr).nf
  refine wz 13 ?_
  refine ky az (rise_t hr k false) ?_
  refine wz 5 ?_
  refine ky az (rise_t hr k true) ?_
  refine wz 19 ?_
  refine kz az (rmore_pure (plOK_B hr) hn (f : Int) mv) ?_
  refine wz 3 ?_
  refine kz az (pl_set hr hn ho) ?_
  refine wz 4 ?_
  refine kz az (can_set hn ho) ?_
  refine wz 6 ?_
  refine iz (fun c_132 c_132' => ?_) (fun c_132 c_132' => ?_)
  ·obtain rfl : mv = true := by simpa using c_132
   refine wz 5 ?_
   refine ky az (has_adds hr hn hf h1 h2 ho) ?_
   refine wz 4 ?_
   refine sz 142 (fun g13_9 g13_9' => ?_) (fun g13_9 g13_9' => ?_)
   ·refine ky az (known_pure) ?_
    refine wz 2 ?_
    exact rz rfl jz
   exfalso
   simp at g13_9
  obtain rfl : mv = false := by simpa using c_132
  refine wz 5 ?_
  refine ky az (has_adds hr hn hf h1 h2 ho) ?_
  refine wz 4 ?_
  refine sz 154 (fun g14_9 g14_9' => ?_) (fun g14_9 g14_9' => ?_)
  ·refine ky az (known_pure) ?_
   refine wz 2 ?_
   exact rz rfl jz
  exfalso
  simp at g14_9
theorem law9_gf {p : Ply} {k f : Nat} {mv : Bool} (hs : shB p = true) (hr : plOK p = true) (hi : scIn p k = true) (hn : k < p.scs.length) (hg : fgIn p f = true) (hf : f < p.figs.length) (h1 : (f : Int) ∉ (sc p k).moved) (h2 : (f : Int) ∉ (sc p k).rest) (hc : St.can p (sc p k) = false) (ho : plOK (setS p k (moreX mv (sc p k) f)) = false) : APure Tryz.prog 9 [plA p, I k, I f, B mv] (B true) := by
  refine ap Tryz.func9 (fun e0 he0 => ?_)
  refine wz 3 ?_
  refine kz az (short_t hs) ?_
  refine wz 3 ?_
  refine ky az (pl_t hs hr) ?_
  refine wz 5 ?_
  refine ky az (scn_t hs hi) ?_
  refine wz 5 ?_
  refine ky az (fg_t hs hg) ?_
  refine wz 6 ?_
  refine sq_yes rfl rfl jz rfl (ev_less (ev_index_map (k := k) (xs := p.scs) sl24.h jz jz rfl hn) (Less.eq (b := .iptr (scC (sc p k))) (by rw [sc_at hn]))) ?_
  refine wz 3 ?_
  refine ky az (has_f (by have h9 := sc_B (plOK_B hr) hn; have := rising_len h9.mv; have := rising_len h9.rs; have := (plOK_B hr).nf; omega) h1) ?_
  refine wz 5 ?_
  refine sq_yes rfl rfl jz rfl (ev_less (ev_index_map (k := k) (xs := p.scs) sl24.h jz jz rfl hn) (Less.eq (b := .iptr (scC (sc p k))) (by rw [sc_at hn]))) ?_
  refine wz 3 ?_
  refine ky az (has_f (by have h9 := sc_B (plOK_B hr) hn; have := rising_len h9.mv; have := rising_len h9.rs; have := (plOK_B hr).nf; omega) h2) ?_
  refine wz 4 ?_
  refine kz az (xadds_ok (shB_len hs).1 (shB_len hs).2.1 (shB_len hs).2.2.1 (shB_len hs).2.2.2 hn hr) ?_
  refine wz 7 ?_
  refine kz az (xjoins_ok (shB_len hs).1 (shB_len hs).2.1 (shB_len hs).2.2.1 (shB_len hs).2.2.2 hn hr) ?_
  refine wz 7 ?_
  refine kz az (can_e hs hr hn hc) ?_
  refine vz 5 ?_
  refine sq_nil ?_
  refine aw_seq ?_
  refine aw_seq ?_
  have hb1 := adds_len p k false
  have hb2 := adds_len p k true
  have hnf := (plOK_B hr).nf
  refine wz 13 ?_
  refine ky az (rise_t hr k false) ?_
  refine wz 5 ?_
  refine ky az (rise_t hr k true) ?_
  refine wz 14 ?_
  refine iz (fun c_110 c_110' => ?_) (fun c_110 c_110' => ?_)
  ·exfalso
   have hca := fun (m : Bool) (h : 0 < (adds p k m).length) => adds_can (plOK_B hr) hn (mv := m) h
   have hc0 : (adds p k false).length = 0 := Nat.eq_zero_of_not_pos fun h => by have := hca false h; rw [hc] at this; cases this
   have hc1 : (adds p k true).length = 0 := Nat.eq_zero_of_not_pos fun h => by have := hca true h; rw [hc] at this; cases this
   omega
  refine wz 4 ?_
  refine kz az (rmore_pure (plOK_B hr) hn (f : Int) mv) ?_
  refine wz 3 ?_
  refine kz az (pl_set hr hn ho) ?_
  refine wz 4 ?_
  refine kz az (has_f (ad_bd hr k false) (more_no hr hn hf h1 h2 ho)) ?_
  refine wz 2 ?_
  refine ky az (known_pure) ?_
  refine wz 2 ?_
  exact rz rfl jz
theorem law9_hf {p : Ply} {k f : Nat} {mv : Bool} (hs : shB p = true) (hr : plOK p = true) (hi : scIn p k = true) (hn : k < p.scs.length) (hg : fgIn p f = true) (hf : f < p.figs.length) (h1 : (f : Int) ∉ (sc p k).moved) (h2 : (f : Int) ∉ (sc p k).rest) (hc : St.can p (sc p k) = false) (ho : plOK (setS p k (moreX mv (sc p k) f)) = true) : APure Tryz.prog 9 [plA p, I k, I f, B mv] (B true) := by
  refine ap Tryz.func9 (fun e0 he0 => ?_)
  refine wz 3 ?_
  refine kz az (short_t hs) ?_
  refine wz 3 ?_
  refine ky az (pl_t hs hr) ?_
  refine wz 5 ?_
  refine ky az (scn_t hs hi) ?_
  refine wz 5 ?_
  refine ky az (fg_t hs hg) ?_
  refine wz 6 ?_
  refine sq_yes rfl rfl jz rfl (ev_less (ev_index_map (k := k) (xs := p.scs) sl24.h jz jz rfl hn) (Less.eq (b := .iptr (scC (sc p k))) (by rw [sc_at hn]))) ?_
  refine wz 3 ?_
  refine ky az (has_f (by have h9 := sc_B (plOK_B hr) hn; have := rising_len h9.mv; have := rising_len h9.rs; have := (plOK_B hr).nf; omega) h1) ?_
  refine wz 5 ?_
  refine sq_yes rfl rfl jz rfl (ev_less (ev_index_map (k := k) (xs := p.scs) sl24.h jz jz rfl hn) (Less.eq (b := .iptr (scC (sc p k))) (by rw [sc_at hn]))) ?_
  refine wz 3 ?_
  refine ky az (has_f (by have h9 := sc_B (plOK_B hr) hn; have := rising_len h9.mv; have := rising_len h9.rs; have := (plOK_B hr).nf; omega) h2) ?_
  refine wz 4 ?_
  refine kz az (xadds_ok (shB_len hs).1 (shB_len hs).2.1 (shB_len hs).2.2.1 (shB_len hs).2.2.2 hn hr) ?_
  refine wz 7 ?_
  refine kz az (xjoins_ok (shB_len hs).1 (shB_len hs).2.1 (shB_len hs).2.2.1 (shB_len hs).2.2.2 hn hr) ?_
  refine wz 7 ?_
  refine kz az (can_e hs hr hn hc) ?_
  refine vz 5 ?_
  refine sq_nil ?_
  refine aw_seq ?_
  refine aw_seq ?_
  have hb1 := adds_len p k false
  have hb2 := adds_len p k true
  have hnf := (plOK_B hr).nf
  refine wz 13 ?_
  refine ky az (rise_t hr k false) ?_
  refine wz 5 ?_
  refine ky az (rise_t hr k true) ?_
  refine wz 14 ?_
  refine iz (fun c_110 c_110' => ?_) (fun c_110 c_110' => ?_)
  ·exfalso
   have hca := fun (m : Bool) (h : 0 < (adds p k m).length) => adds_can (plOK_B hr) hn (mv := m) h
   have hc0 : (adds p k false).length = 0 := Nat.eq_zero_of_not_pos fun h => by have := hca false h; rw [hc] at this; cases this
   have hc1 : (adds p k true).length = 0 := Nat.eq_zero_of_not_pos fun h => by have := hca true h; rw [hc] at this; cases this
   omega
  refine wz 4 ?_
  refine kz az (rmore_pure (plOK_B hr) hn (f : Int) mv) ?_
  refine wz 3 ?_
  refine kz az (pl_set hr hn ho) ?_
  refine wz 4 ?_
  refine kz az (can_set hn ho) ?_
  refine wz 6 ?_
  refine iz (fun c_132 c_132' => ?_) (fun c_132 c_132' => ?_)
  ·obtain rfl : mv = true := by simpa using c_132
   refine wz 5 ?_
   refine ky az (has_adds hr hn hf h1 h2 ho) ?_
   refine wz 4 ?_
   refine sz 142 (fun g13_9 g13_9' => ?_) (fun g13_9 g13_9' => ?_)
   ·refine ky az (known_pure) ?_
    refine wz 2 ?_
    exact rz rfl jz
   exfalso
   simp at g13_9
  obtain rfl : mv = false := by simpa using c_132
  refine wz 5 ?_
  refine ky az (has_adds hr hn hf h1 h2 ho) ?_
  refine wz 4 ?_
  refine sz 154 (fun g14_9 g14_9' => ?_) (fun g14_9 g14_9' => ?_)
  ·refine ky az (known_pure) ?_
   refine wz 2 ?_
   exact rz rfl jz
  exfalso
  simp at g14_9
/-- **StemAdded.** -/
theorem law9 (p : Ply) (n : Int) (_ : -9223372036854775808 ≤ n) (_ : n ≤ 9223372036854775807) (g : Int) (_ : -9223372036854775808 ≤ g) (_ : g ≤ 9223372036854775807) (mv : Bool) : APure Tryz.prog 9 [plA p, I n, I g, B mv] (B true) := by
  cases hs : shB p with
  | false => exact law9_a hs
  | true =>
    cases hr : plOK p with
    | false => exact law9_b hs hr
    | true =>
      cases hi : scIn p n with
      | false => exact law9_c hs hr hi
      | true =>
        obtain ⟨k, rfl, hn⟩ := scIn_iff.1 hi
        cases hg : fgIn p g with
        | false => exact law9_d hs hr hi hn hg
        | true =>
          by_cases h1 : g ∈ (sc p k).moved
          · exact law9_e hs hr hi hn hg h1
          · by_cases h2 : g ∈ (sc p k).rest
            · exact law9_f hs hr hi hn hg h1 h2
            · have hb := fgIn_iff.1 hg
              obtain ⟨f, rfl⟩ : ∃ f : Nat, g = (f : Int) := ⟨g.toNat, by omega⟩
              have hf : f < p.figs.length := by omega
              cases hc : St.can p (sc p k) with
              | true =>
                cases ho : plOK (setS p k (moreX mv (sc p k) f)) with
                | true => exact law9_ht hs hr hi hn hg hf h1 h2 hc ho
                | false => exact law9_gt hs hr hi hn hg hf h1 h2 hc ho
              | false =>
                cases ho : plOK (setS p k (moreX mv (sc p k) f)) with
                | true => exact law9_hf hs hr hi hn hg hf h1 h2 hc ho
                | false => exact law9_gf hs hr hi hn hg hf h1 h2 hc ho
end Go.Proofs.YtfmpabgblbbcdaaGreatDoor
