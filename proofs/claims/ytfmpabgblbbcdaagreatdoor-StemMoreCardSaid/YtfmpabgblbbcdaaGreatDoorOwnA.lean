/-
  A part of the proof: conditions: none beyond each theorem's own.
-/
import Derived.Test.YtfmpabgblbbcdaaGreatDoorLogicA
import Derived.Test.YtfmpabgblbbcdaaGreatDoorLogicC
import Derived.Deep.Slices
import Derived.OpenShut
import Derived.Carry
import Derived.Test.YtfmpabgblbbcdaaGreatDoorSpecA
import Derived.Test.YtfmpabgblbbcdaaGreatDoorLogicD
import Derived.Test.YtfmpabgblbbcdaaGreatDoorProg
import Derived.KernelRfl
import Derived.Lib.LaidTab
import Derived.Lib.ItoaNum
import Derived.Test.YtfmpabgblbbcdaaGreatDoorWalkB
import Derived.Test.YtfmpabgblbbcdaaGreatDoorWalkG
import Derived.Laws.IdiomStrings
import Derived.Laws.IdiomCopy
import Derived.Test.YtfmpabgblbbcdaaGreatDoorLogicE
import Derived.Test.YtfmpabgblbbcdaaGreatDoorLogicB
import Derived.Test.YtfmpabgblbbcdaaGreatDoorShelf
import Derived.Test.YtfmpabgblbbcdaaGreatDoorWalkA
import Derived.Test.YtfmpabgblbbcdaaGreatDoorWalkC
import Derived.Test.YtfmpabgblbbcdaaGreatDoorWalkD
import Derived.Test.YtfmpabgblbbcdaaGreatDoorWalkE
import Derived.Test.YtfmpabgblbbcdaaGreatDoorWalkF
import Derived.Test.YtfmpabgblbbcdaaGreatDoorRow
set_option linter.all false
set_option maxRecDepth 100000
set_option maxHeartbeats 8000000
namespace Go.Ab
variable [Tabs]
theorem FW_room (r : Option Nat) (n : Nat) : (FW r).room n := fun _ h => by simp [FW] at h
variable {c : Ctx} {Q : AExit → St → Prop} {s : St}
theorem aw_less {code : Code} (sl' : List (Nat × AV)) (h : ∀ p ∈ sl', Less (sget s.sl p.1) p.2) (k : AWP c code Q { s with sl := sl' }) : AWP c code Q s := by
  intro e a hs
  exact k e a ⟨hs.size, fun t => get_less h t _ _ (hs.slots t), hs.defers, hs.H, hs.ok, hs.fr⟩
end Go.Ab
namespace Go.Ab
open Go.ChangeShapes Go.WideShapes
variable [Tabs]
theorem env0_ok {w : World} (h : Tabs.is w) (hb : ∀ b, Tabs.blk b → b < w.heap.size) : EnvOK (env0 w) :=
  ⟨fun b hb => by have hb' : w.heap.size ≤ b := hb
                  have : w.heap[b]? = none := by simpa using hb'
                  simp [env0, this], fun i o h => by simp [env0] at h, fun i j b hi => by simp [env0] at hi, fun i b hi => by simp [env0] at hi, h, fun b hk => ⟨hb b hk, fun i hi => by simp [env0] at hi⟩⟩
section
variable {H : Type} {enc : TypeId × Value → H} {P : Program} {w : World} {base : Nat} {spare : Nat → Bool} {held : Bool}
theorem trodAll_stays (hl : laidOutB P = true) {W W' : World} (hheap : ∀ b, b < W.heap.size → W'.heap[b]? = W.heap[b]?) {sp' : Nat → Bool} :
    ∀ {ts : List TypeId} {vs : List Value} {ds : List (DataW H)} {ps : List MemPlace}, (∀ t ∈ ts, P.readableRec t = true ∧ t < P.types.size) → DataW.TrodAll enc P W base (fun _ => true) true ts vs ds ps → (∀ p ∈ ps, p.block < W.heap.size) → (∀ p ∈ ps, sp' p.block = true) →
      DataW.TrodAll enc P W' base sp' true ts vs ds ps
  | [], _, _, _, _, h, _, _ => by
    obtain ⟨rfl, rfl, rfl⟩ := trodAll_nil h
    exact trodAll_mk0
  | t :: ts, _, _, _, ht, h, hlt, hs => by
    obtain ⟨v, vs1, d, ds1, a, b, rfl, rfl, rfl, h1, h2⟩ := trodAll_cons h
    refine trodAll_cons_mk (WideElems.Trod_stays hl (ht t (by simp)).1 (ht t (by simp)).2 h1 (fun p hp => ?_) (fun p hp => hs p (by simp [hp]))) (trodAll_stays hl hheap (fun u hu => ht u (List.mem_cons_of_mem _ hu)) h2 (fun p hp => hlt p (by simp [hp])) (fun p hp => hs p (by simp [hp])))
    have hb := hheap p.block (hlt p (by simp [hp]))
    cases p with
    | cell b o => exact cell?_of_heap hb
    | map b => exact hb
/-- **What a law's row asks of a call that returns true and leaves what it met.** -/
theorem post_true {f : Func} {s : ChangeSpec} {W W' : World} {args : Array Value} {ds gs : List (DataW H)} {before : List MemPlace} {tb : TypeId} (hl : laidOutB P = true) (hread : ∀ t ∈ f.params.toList, P.readableRec t = true ∧ t < P.types.size)
    (hres : f.resultTypes = #[tb]) (htb : P.underlying tb = some .bool) (hvars : s.vars = []) (hspec : (s.fn H ds).results = [.lit (.bool true)] ∧ (s.fn H ds).args = ds ∧ (s.fn H ds).vars = [])
    (hW : DataW.Whole enc P f.params.toList s.vars false W args.toList ds gs before) (hheap : ∀ b, b < W.heap.size → W'.heap[b]? = W.heap[b]?) (hst : Still W W') :
    s.post enc P f false true false false W args (.bool true) W' := by
  have hlt := hW.lt
  have hW0 := hW
  obtain ⟨p, q, h1, h2, rfl, _, _⟩ := hW
  rw [hvars] at h2
  obtain ⟨rfl, rfl⟩ := trodVars_none h2
  simp only [List.append_nil] at hlt
  obtain ⟨e1, e2, e3⟩ := hspec
  refine ⟨ds, [], p ++ [], [], p, [], hW0, ?_, ?_, ?_, ?_, fun h => by cases h⟩
  · rw [List.append_nil, e1, hres]
    exact trodAll_cons_mk (RowKit.shut_bool htb _) trodAll_mk0
  · rw [List.append_nil, e2]
    exact trodAll_stays hl hheap hread h1 hlt (fun p hp => by simpa using hlt p hp)
  · rw [List.append_nil, e3, hvars]; rfl
  · refine ⟨hst.1, hst.2, fun i hi => ?_⟩
    rw [hheap i hi]
    split <;> simp_all
theorem APure.law {f : FuncId} {args : List AV} {W : World} {vs : Array Value} (hc : APure P f args (.raw (.bool true))) (ht : Tabs.is W) (hb : ∀ b, Tabs.blk b → b < W.heap.size) (hr : RepL (env0 W) args vs.toList) :
    Calls P f vs W fun x W' => x = .returned (.bool true) ∧ (∀ b, b < W.heap.size → W'.heap[b]? = W.heap[b]?) ∧ Still W W' := by
  refine ((hc (env0 W) vs (env0_ok ht hb) hr).calls (fun k => FW_room none k)).mono ?_
  rintro x w' ⟨u, e', rfl, rfl, hx, hu⟩
  rw [Rep] at hu; subst hu
  exact ⟨rfl, hx.heap, hx.still⟩
end
end Go.Ab
namespace St
open Ni (inn)
open Hd (every getD_at mem_every)
def fgIn (p : Ply) (n : Int) : Bool := inn n 0 (p.figs.length - 1)
def plIn (p : Ply) (n : Int) : Bool := inn n 0 (p.hts.length - 1)
end St
namespace Go.Proofs.YtfmpabgblbbcdaaGreatDoor
open Go Go.Ab Ni St
open Hd hiding sz
abbrev C (c : UInt8) : AV := .raw (.int .u8 c.toNat)
theorem rin_pure (n lo hi : Int) : APure Tryz.prog 77 [I n, I lo, I hi] (B (inn n lo hi)) := by
  refine ap Tryz.func77 (fun e0 he0 => ?_)
  refine wz 5 ?_
  refine sz 10 (fun g1 g1' => ?_) (fun g1 g1' => ?_)
  ·refine wz 5 ?_
   exact rz rfl (Less.eq (by simp [inn, *]))
  refine wz 5 ?_
  exact rz rfl (Less.eq (by simp [inn, *]))
end Go.Proofs.YtfmpabgblbbcdaaGreatDoor
namespace Go.Proofs.YtfmpabgblbbcdaaGreatDoor
open Go Go.Ab Ni St
open Hd hiding sz
def plsOK (p : Ply) (x : Scn) (l : List Int) : Bool := decide (l.length = x.rest.length) && !l.any fun n => !inn n 0 (p.hts.length - 1)
theorem plsOK_iff {p : Ply} {x : Scn} {l : List Int} : plsOK p x l = true ↔ l.length = x.rest.length ∧ ∀ a ∈ l, 0 ≤ a ∧ a < p.hts.length := by
  unfold plsOK inn
  rw [Bool.and_eq_true, decide_eq_true_eq, Bool.not_eq_true', List.any_eq_false]
  simp only [Bool.not_eq_true', Bool.not_eq_false, decide_eq_false_iff_not, Decidable.not_not, Bool.not_eq_true]
  exact ⟨fun h => ⟨h.1, fun a ha => by have := h.2 a ha; simp at this; omega⟩, fun h => ⟨h.1, fun a ha => by have := h.2 a ha; simp; omega⟩⟩
theorem suits_no {b : Bool} {p : Ply} {x : Scn} {l : List Int} {k : Nat} (hkl : k < l.length) (h : okL b p x (l.take (k + 1)) = false) : suits b p x l = false := by
  rw [okL_take hkl] at h
  unfold suits; rw [decide_eq_false_iff_not]; intro q; rw [q k hkl] at h; cases h
theorem arepl1_pure (p : Ply) (x : Scn) (n : Int) (hh : p.hts.length ≤ 1000000) : APure Tryz.prog 160 [I n, .iptr (stC p x)] (B (!inn n 0 (p.hts.length - 1))) := by
  refine ap Tryz.func160 (fun e0 he0 => ?_)
  refine wz 7 ?_
  refine kz az (in_pure _ _ _) ?_
  refine wz 2 ?_
  exact rz rfl jz
theorem arepl_pure (p : Ply) (x : Scn) (l : List Int) (hl : l.length ≤ 1000000) (hh : p.hts.length ≤ 1000000) (hr : x.rest.length ≤ 1000000) : APure Tryz.prog 119 [stA p x, ints l] (B (plsOK p x l)) := by
  refine ap Tryz.func119 (fun e0 he0 => ?_)
  refine vz 2 ?_
  refine sq_nil ?_
  refine aw_seq ?_
  refine aw_sub (sub_iptrK [1, 4] 2 (j := 0) (l := stC p x) rfl rfl) ?_
  refine wz 8 ?_
  refine sz 12 (fun g1_7 g1_7' => ?_) (fun g1_7 g1_7' => ?_)
  ·have hlr : l.length = x.rest.length := by omega
   refine wz 2 ?_
   refine sq_yes rfl rfl (less_b g1_7) rfl (ev_call en130.h jz (intF_any (cap := [.iptr (stC p x)]) (q := fun n => !inn n 0 (p.hts.length - 1)) l hl en160.h (fun i hi => arepl1_pure p x _ hh) (by simp [AV.pureL, AV.pureB])) ⟨jz, jz, trivial⟩) ?_
   refine wz 3 ?_
   exact rz rfl (Less.eq (congrArg B (by unfold plsOK; simp [hlr])))
  have hlr : ¬ l.length = x.rest.length := by omega
  refine wz 6 ?_
  exact rz rfl (Less.eq (congrArg B (by unfold plsOK; simp [hlr])))
theorem rests_pure {p : Ply} (gP : PlB p) {x : Scn} (gX : ScB p x) {l : List Int} (hl : l.length = x.rest.length) (hm : ∀ a ∈ l, 0 ≤ a ∧ a < p.hts.length) : APure Tryz.prog 120 [stA p x, ints l] (B (suits true p x l)) := by
  refine ap Tryz.func120 (fun e0 he0 => ?_)
  refine aw_seq ?_
  have hr4 := gX.r4
  refine wz 5 ?_
  refine aw_loopk (ι := { k : Nat // k ≤ l.length ∧ ∀ i, i < k → okI true p x l i = true }) [1, 2, 9] (fun k => [(10, I (k.1 : Nat))]) (fun H k => H) (fun k => l.length - k.1) (⟨0, Nat.zero_le _, by omega⟩) ⟨jz, jz, jz, jz, trivial⟩ rfl ?_
  rintro ⟨k, hk, hok⟩
  refine nz ?_
  refine wz 1 ?_
  refine iz (fun c_11 c_11' => ?_) (fun c_11 c_11' => ?_)
  ·have hkl : k < l.length := by omega
   have htl : k + 1 = (l.take (k + 1)).length := by rw [List.length_take]; omega
   refine wz 2 ?_
   refine kz az (rules_pure) ?_
   refine wz 1 ?_
   refine aw_loopk (ι := { j : Nat // j ≤ 3 ∧ ∀ i, i < j → rV p x (l.take (k + 1)) k i = true }) [1, 2, 5, 9, 10, 13] (fun j => [(14, I (j.1 : Nat))]) (fun H j => H) (fun j => 3 - j.1) (⟨0, by omega, by omega⟩) ⟨jz, jz, jz, jz, jz, jz, jz, trivial⟩ rfl ?_
   rintro ⟨j, hj, hall⟩
   refine nz ?_
   refine wz 1 ?_
   refine iz (fun c_15 c_15' => ?_) (fun c_15 c_15' => ?_)
   ·have hj3 : j < 3 := by omega
    refine wz 0 ?_
    refine sq_ev rfl (ev_indexv (k := j) (v := .fn (.func (rF j)) [] []) ar192.h ty191.h jz jz rfl hj3 (by match j, hj3 with | 0, _ => rfl | 1, _ => rfl | 2, _ => rfl)) ?_
    refine wz 1 ?_
    refine aw_draw 8 mo (by kernel_rfl) ?_
    refine dz 5 ?_
    refine dr_ev rfl (ev_less (ev_slice (lo := 0) (hi := k + 1) sl22.h jz rfl (less_int (by omega)) (by omega) (by simp; omega)) (Less.eq (b := ints (l.take (k + 1))) (by rw [List.drop_zero, ← List.map_take]))) ?_
    refine dr_ev rfl (ev_call (rF_ent j hj3) jz (rF_pure gP gX (i := k) (l := l.take (k + 1)) htl (by omega) (fun a ha => hm a (List.mem_of_mem_take ha)) j hj3) ⟨jz, jz, trivial⟩) ?_
    refine dz 1 ?_
    refine wz 0 ?_
    refine iz (fun c_24 c_24' => ?_) (fun c_24 c_24' => ?_)
    ·have hno : suits true p x l = false := suits_no hkl (rV_no htl (show j < many true from hj3) (by simpa using c_24))
     refine wz 1 ?_
     exact rz rfl (Less.eq (by rw [hno]))
    have hrv : rV p x (l.take (k + 1)) k j = true := by simpa using c_24
    refine wz 2 ?_
    exact ⟨⟨j + 1, by omega, fun i hi => by rcases Nat.lt_or_ge i j with z | z; exact hall i z; (obtain rfl : i = j := by omega); exact hrv⟩, by simp only; omega, Sub.slots ⟨jz, jz, jz, jz, jz, jz, jz, trivial⟩⟩
   obtain rfl : j = 3 := by omega
   have hst : okI true p x l k = true := by rw [← okL_take hkl]; exact rV_all htl hall
   refine wz 2 ?_
   exact ⟨⟨k + 1, by omega, fun i hi => by rcases Nat.lt_or_ge i k with z | z; exact hok i z; (obtain rfl : i = k := by omega); exact hst⟩, by simp only; omega, Sub.slots ⟨jz, jz, jz, jz, trivial⟩⟩
  obtain rfl : k = l.length := by omega
  have hall : suits true p x l = true := decide_eq_true hok
  refine wz 1 ?_
  exact rz rfl (Less.eq (by rw [hall]))
end Go.Proofs.YtfmpabgblbbcdaaGreatDoor
namespace Go.Proofs.YtfmpabgblbbcdaaGreatDoor
open Go Go.Ab Ni St
open Hd hiding sz
theorem xcan_ok {p : Ply} (hh : p.hts.length ≤ 1000000) (hf : p.figs.length ≤ 1000000) (hs : p.scs.length ≤ 1000000) (hx : ∀ x ∈ p.scs, x.moved.length ≤ 1000000 ∧ x.rest.length ≤ 1000000 ∧ x.taken.length ≤ 1000000) {k : Nat} (hk : k < p.scs.length) (h1 : plOK p = true) : APure Tryz.prog 49 [plA p, I k] (.tup [B (St.can p (sc p k)), I 0]) := by
  refine ap Tryz.func49 (fun e0 he0 => ?_)
  refine vz 3 ?_
  refine sq_nil ?_
  refine aw_seq ?_
  refine aw_seq ?_
  have hpl := isplay_pure p hh hf hs hx
  rw [h1] at hpl
  have hsc := isscene_pure p (k : Int) hs
  rw [scIn_nat hk] at hsc
  have gP := plOK_B h1
  have gX := sc_B gP hk
  refine wz 1 ?_
  refine kz az (hpl) ?_
  refine wz 4 ?_
  refine ky az (hsc) ?_
  refine wz 5 ?_
  refine kz az (can_pure gP hk) ?_
  refine wz 2 ?_
  exact retQ_pure (v := .tup [.raw _, .raw _]) rfl rfl (less_tup ⟨jz, jz, trivial⟩)
theorem xrests_ok {p : Ply} (hh : p.hts.length ≤ 1000000) (hf : p.figs.length ≤ 1000000) (hs : p.scs.length ≤ 1000000) (hx : ∀ x ∈ p.scs, x.moved.length ≤ 1000000 ∧ x.rest.length ≤ 1000000 ∧ x.taken.length ≤ 1000000) {k : Nat} (hk : k < p.scs.length) (h1 : plOK p = true) {l : List Int} (hl : l.length ≤ 1000000) (h3 : plsOK p (sc p k) l = true) : APure Tryz.prog 58 [plA p, I k, ints l] (.tup [B (suits true p (sc p k) l), I 0]) := by
  refine ap Tryz.func58 (fun e0 he0 => ?_)
  refine vz 3 ?_
  refine sq_nil ?_
  refine aw_seq ?_
  refine aw_seq ?_
  have hpl := isplay_pure p hh hf hs hx
  rw [h1] at hpl
  have hsc := isscene_pure p (k : Int) hs
  rw [scIn_nat hk] at hsc
  have gP := plOK_B h1
  have gX := sc_B gP hk
  have hap := arepl_pure p (sc p k) l hl hh (by have := gX.r4; omega)
  rw [h3] at hap
  obtain ⟨hll, hlm⟩ := plsOK_iff.1 h3
  refine wz 1 ?_
  refine kz az (hpl) ?_
  refine wz 4 ?_
  refine ky az (hsc) ?_
  refine wz 5 ?_
  refine ky az (stage_pure hk hs) ?_
  refine wz 1 ?_
  refine ky az (hap) ?_
  refine wz 5 ?_
  refine kz az (stage_pure hk hs) ?_
  refine wz 1 ?_
  refine kz az (rests_pure gP gX hll hlm) ?_
  refine wz 2 ?_
  exact retQ_pure (v := .tup [.raw _, .raw _]) rfl rfl (less_tup ⟨jz, jz, trivial⟩)
end Go.Proofs.YtfmpabgblbbcdaaGreatDoor
namespace Go.Proofs.YtfmpabgblbbcdaaGreatDoor
open Go Go.Ab Ni St
open Hd hiding sz
instance en118 : EnT Tryz.prog 118 := ⟨Ent.of Tryz.func118 (by kernel_rfl) rfl⟩
instance en19 : EnT Tryz.prog 19 := ⟨Ent.of Tryz.func19 (by kernel_rfl) rfl⟩
instance en22 : EnT Tryz.prog 22 := ⟨Ent.of Tryz.func22 (by kernel_rfl) rfl⟩
instance en26 : EnT Tryz.prog 26 := ⟨Ent.of Tryz.func26 (by kernel_rfl) rfl⟩
instance en27 : EnT Tryz.prog 27 := ⟨Ent.of Tryz.func27 (by kernel_rfl) rfl⟩
instance en48 : EnT Tryz.prog 48 := ⟨Ent.of Tryz.func48 (by kernel_rfl) rfl⟩
instance en57 : EnT Tryz.prog 57 := ⟨Ent.of Tryz.func57 (by kernel_rfl) rfl⟩
instance en77 : EnT Tryz.prog 77 := ⟨Ent.of Tryz.func77 (by kernel_rfl) rfl⟩
instance en78 : EnT Tryz.prog 78 := ⟨Ent.of Tryz.func78 (by kernel_rfl) rfl⟩
instance en95 : EnT Tryz.prog 95 := ⟨Ent.of Tryz.func95 (by kernel_rfl) rfl⟩
theorem all_of {α : Type} {q : α → Bool} {l : List α} (h : ∀ j, (hj : j < l.length) → q l[j] = true) : l.all q = true := List.all_eq_true.2 fun x hx => by obtain ⟨j, hj, rfl⟩ := List.getElem_of_mem hx; exact h j hj
theorem all_bad {α : Type} {q : α → Bool} {l : List α} {i : Nat} (hi : i < l.length) (h : q l[i] = false) : l.all q = false := by rw [List.all_eq_false]; exact ⟨_, List.getElem_mem hi, by rw [h]; simp⟩
theorem all_sym (a b : List Int) : (a.all fun n => !decide (n ∈ b)) = b.all fun n => !decide (n ∈ a) := by
  rw [Bool.eq_iff_iff, List.all_eq_true, List.all_eq_true]
  simp only [Bool.not_eq_true', decide_eq_false_iff_not]
  exact ⟨fun h n hn hm => h n hm hn, fun h n hn hm => h n hm hn⟩
def shX (x : Scn) : Bool := decide (x.moved.length ≤ 10) && decide (x.rest.length ≤ 10) && decide (x.taken.length ≤ 10)
def shB (p : Ply) : Bool := decide (p.hts.length ≤ 10) && decide (p.figs.length ≤ 8) && decide (p.scs.length ≤ 7) && decide (∀ i, (hi : i < p.scs.length) → i < 8 → shX p.scs[i] = true)
theorem shB_row {p : Ply} {i : Nat} (hi : i < p.scs.length) (h8 : i < 8) (h : shX p.scs[i] = false) : shB p = false := by
  unfold shB
  rw [decide_eq_false (p := ∀ i, (hi : i < p.scs.length) → i < 8 → shX p.scs[i] = true) (fun q => by rw [q i hi h8] at h; cases h)]; simp
theorem shB_fin {p : Ply} (h : ∀ i, (hi : i < p.scs.length) → i < 8 → shX p.scs[i] = true) : shB p = (decide (p.hts.length ≤ 10) && decide (p.figs.length ≤ 8) && decide (p.scs.length ≤ 7)) := by
  unfold shB; rw [decide_eq_true h, Bool.and_true]
theorem shB_len {p : Ply} (h : shB p = true) : p.hts.length ≤ 1000000 ∧ p.figs.length ≤ 1000000 ∧ p.scs.length ≤ 1000000 ∧ ∀ x ∈ p.scs, x.moved.length ≤ 1000000 ∧ x.rest.length ≤ 1000000 ∧ x.taken.length ≤ 1000000 := by
  unfold shB at h
  simp only [Bool.and_eq_true, decide_eq_true_eq] at h
  refine ⟨by omega, by omega, by omega, fun x hx => ?_⟩
  obtain ⟨i, hi, rfl⟩ := List.getElem_of_mem hx
  have := h.2 i hi (by omega)
  unfold shX at this
  simp only [Bool.and_eq_true, decide_eq_true_eq] at this
  omega
theorem pls_any {p : Ply} {l : List Int} : (!l.any fun n => !inn n 0 (p.hts.length - 1)) = l.all (plIn p) := by
  rw [List.not_any_eq_all_not]; congr 1; funext n; unfold plIn; simp
theorem has_pure (l : List Int) (n : Int) (hl : l.length ≤ 1000000) : APure Tryz.prog 27 [ints l, I n] (B (decide (n ∈ l))) := by
  refine ap Tryz.func27 (fun e0 he0 => ?_)
  refine wz 2 ?_
  refine aw_loopk (ι := { k : Nat // k ≤ l.length ∧ ∀ i, (hi : i < l.length) → i < k → l[i] ≠ n }) [0, 1] (fun i => [(5, I i.1)]) (fun H i => H) (fun i => l.length - i.1) (⟨0, Nat.zero_le _, by omega⟩) ⟨jz, jz, jz, trivial⟩ rfl ?_
  rintro ⟨k, hk, hok⟩
  refine nz ?_
  refine wz 4 ?_
  refine iz (fun c_9 c_9' => ?_) (fun c_9 c_9' => ?_)
  ·have hkL : k < l.length := by omega
   refine wz 6 ?_
   refine iz (fun c_17 c_17' => ?_) (fun c_17 c_17' => ?_)
   ·have hmem : n ∈ l := by have h5 := of_decide_eq_true c_17; exact h5 ▸ List.getElem_mem hkL
    refine wz 1 ?_
    exact rz rfl (Less.eq (by rw [decide_eq_true hmem]))
   refine wz 3 ?_
   exact ⟨⟨k + 1, by omega, fun i hi h => (by by_cases e : i = k; (subst e; simpa using c_17); exact hok i hi (by omega))⟩, by simp only; omega, Sub.slots ⟨jz, jz, jz, trivial⟩⟩
  obtain rfl : k = l.length := by omega
  have hno : ¬ n ∈ l := fun h => by obtain ⟨i, hi, h6⟩ := List.getElem_of_mem h; exact hok i hi hi h6
  refine wz 1 ?_
  exact rz rfl (Less.eq (by rw [decide_eq_false hno]))
theorem rrising_pure (l : List Int) (n : Nat) (hl : l.length ≤ 1000000) (hn : n ≤ 1000000) : APure Tryz.prog 95 [ints l, I n] (B (rising l n)) := by
  refine ap Tryz.func95 (fun e0 he0 => ?_)
  refine wz 2 ?_
  refine aw_loopk (ι := { k : Nat // k ≤ l.length ∧ ∀ i, (hi : i < l.length) → i < k → (0 ≤ l[i] ∧ l[i] < n) ∧ (0 < i → l[i - 1] < l[i]) }) [0, 1] (fun i => [(5, I i.1)]) (fun H i => H) (fun i => l.length - i.1) (⟨0, Nat.zero_le _, by omega⟩) ⟨jz, jz, jz, trivial⟩ rfl ?_
  rintro ⟨k, hk1, hok⟩
  refine nz ?_
  refine wz 4 ?_
  refine iz (fun c_9 c_9' => ?_) (fun c_9 c_9' => ?_)
  ·have hkl : k < l.length := by omega
   have hin : inn l[k] 0 ((n : Int) - 1) = true ↔ 0 ≤ l[k] ∧ l[k] ≤ (n : Int) - 1 := by unfold inn; simp
   refine wz 0 ?_
   refine aw_draw 24 mo (by kernel_rfl) ?_
   refine dz 6 ?_
   refine dkz az (rin_pure _ _ _) ?_
   refine dz 2 ?_
   refine dsz 20 (fun g4_8 g4_8' => ?_) (fun g4_8 g4_8' => ?_)
   ·have hb0 : ¬ (0 ≤ l[k] ∧ l[k] ≤ (n : Int) - 1) := fun q => by rw [hin.2 q] at g4_8; simp at g4_8
    have hno : rising l n = false := rising_no hkl (fun q => hb0 (by omega))
    refine dz 15 ?_
    refine wz 2 ?_
    exact rz rfl (Less.eq (by rw [hno]))
   have hb1 : 0 ≤ l[k] ∧ l[k] ≤ (n : Int) - 1 := hin.1 (by simpa using g4_8)
   refine dz 3 ?_
   refine dsz 23 (fun g4_11 g4_11' => ?_) (fun g4_11 g4_11' => ?_)
   ·refine dz 7 ?_
    refine dr_yes rfl rfl (less_b g4_11) rfl (ev_index_map (k := k - 1) sl22.h jz jz (by omega) (by omega)) ?_
    refine dz 4 ?_
    refine wz 0 ?_
    refine iz (fun c_35 c_35' => ?_) (fun c_35 c_35' => ?_)
    ·have hno : rising l n = false := rising_no hkl (fun q => by have h5 := q.2 (by omega); have h6 := of_decide_eq_true c_35; omega)
     refine wz 1 ?_
     exact rz rfl (Less.eq (by rw [hno]))
    have hst : (0 ≤ l[k] ∧ l[k] < n) ∧ (0 < k → l[k - 1] < l[k]) := ⟨by omega, fun q => by have := of_decide_eq_false c_35; omega⟩
    refine wz 3 ?_
    exact ⟨⟨k + 1, by omega, fun i hi q => by rcases Nat.lt_or_ge i k with q2 | q2; exact hok i hi q2; (obtain rfl : i = k := by omega); exact hst⟩, by simp only; omega, Sub.slots ⟨jz, jz, jz, trivial⟩⟩
   have hst : (0 ≤ l[k] ∧ l[k] < n) ∧ (0 < k → l[k - 1] < l[k]) := ⟨by omega, fun q => by omega⟩
   refine dz 12 ?_
   refine wz 4 ?_
   exact ⟨⟨k + 1, by omega, fun i hi q => by rcases Nat.lt_or_ge i k with q2 | q2; exact hok i hi q2; (obtain rfl : i = k := by omega); exact hst⟩, by simp only; omega, Sub.slots ⟨jz, jz, jz, trivial⟩⟩
  obtain rfl : k = l.length := by omega
  have hall := rising_yes fun i hi => hok i hi hi
  refine wz 1 ?_
  exact rz rfl (Less.eq (by rw [hall]))
theorem rscene_pure (p : Ply) (x : Scn) (h1 : x.moved.length ≤ 1000000) (h2 : x.rest.length ≤ 1000000) (h3 : x.taken.length ≤ 1000000) (hh : p.hts.length ≤ 1000000) (hf : p.figs.length ≤ 1000000) : APure Tryz.prog 78 [plA p, .agg (scC x)] (B (scOK p x)) := by
  refine ap Tryz.func78 (fun e0 he0 => ?_)
  refine wz 8 ?_
  refine kz az (rrising_pure x.moved p.figs.length h1 hf) ?_
  refine wz 2 ?_
  refine sz 13 (fun g1_7 g1_7' => ?_) (fun g1_7 g1_7' => ?_)
  ·refine wz 31 ?_
   exact rz rfl (Less.eq (congrArg B (by unfold scOK; simp [*])))
  refine wz 5 ?_
  refine ky az (rrising_pure x.rest p.figs.length h2 hf) ?_
  refine wz 3 ?_
  refine sz 22 (fun g1_16 g1_16' => ?_) (fun g1_16 g1_16' => ?_)
  ·refine wz 22 ?_
   exact rz rfl (Less.eq (congrArg B (by unfold scOK; simp [*])))
  refine wz 5 ?_
  refine ky az (rrising_pure x.taken p.hts.length h3 hh) ?_
  refine wz 3 ?_
  refine sz 31 (fun g1_25 g1_25' => ?_) (fun g1_25 g1_25' => ?_)
  ·refine wz 13 ?_
   exact rz rfl (Less.eq (congrArg B (by unfold scOK; simp [*])))
  refine wz 6 ?_
  refine sz 37 (fun g1_31 g1_31' => ?_) (fun g1_31 g1_31' => ?_)
  ·have k31 : ¬ x.rest.length ≤ 4 := by omega
   refine wz 7 ?_
   exact rz rfl (Less.eq (congrArg B (by unfold scOK; simp [*])))
  have k31 : x.rest.length ≤ 4 := by omega
  refine wz 2 ?_
  refine ky az (rin_pure _ _ _) ?_
  refine wz 2 ?_
  refine iz (fun c_42 c_42' => ?_) (fun c_42 c_42' => ?_)
  ·refine wz 1 ?_
   exact rz rfl (Less.eq (congrArg B (by unfold scOK; simp [*])))
  refine wz 1 ?_
  refine aw_loopk (ι := { k : Nat // k ≤ x.rest.length ∧ ∀ i, (hi : i < x.rest.length) → i < k → (!decide (x.rest[i] ∈ x.moved)) = true }) [3] (fun i => [(5, I i.1)]) (fun H i => H) (fun i => x.rest.length - i.1) (⟨0, Nat.zero_le _, by omega⟩) ⟨jz, jz, trivial⟩ rfl ?_
  rintro ⟨k, hk, hok⟩
  refine nz ?_
  refine wz 5 ?_
  refine iz (fun c_47 c_47' => ?_) (fun c_47 c_47' => ?_)
  ·have hkL : k < x.rest.length := by omega
   refine wz 0 ?_
   refine aw_draw 8 mo (by kernel_rfl) ?_
   refine dz 7 ?_
   refine dkz az (has_pure _ _ h1) ?_
   refine dr_end ?_
   refine wz 0 ?_
   refine iz (fun c_57 c_57' => ?_) (fun c_57 c_57' => ?_)
   ·have hbad : (x.rest.all fun n => !decide (n ∈ x.moved)) = false := all_bad hkL (by rw [decide_eq_true (of_decide_eq_true c_57)]; rfl)
    refine wz 1 ?_
    exact rz rfl (Less.eq (congrArg B (by unfold scOK; rw [all_sym, hbad]; simp)))
   refine wz 3 ?_
   exact ⟨⟨k + 1, by omega, fun i hi h => (by by_cases e : i = k; (subst e; rw [decide_eq_false (of_decide_eq_false c_57)]; rfl); exact hok i hi (by omega))⟩, by simp only; omega, Sub.slots ⟨jz, jz, trivial⟩⟩
  obtain rfl : k = x.rest.length := by omega
  have hall : (x.rest.all fun n => !decide (n ∈ x.moved)) = true := all_of fun j hj => hok j hj hj
  refine wz 1 ?_
  exact rz rfl (Less.eq (congrArg B (by unfold scOK; rw [all_sym, hall]; simp_all)))
theorem rplay_pure (p : Ply) (hh : p.hts.length ≤ 1000000) (hf : p.figs.length ≤ 1000000) (hs : p.scs.length ≤ 1000000) (hx : ∀ x ∈ p.scs, x.moved.length ≤ 1000000 ∧ x.rest.length ≤ 1000000 ∧ x.taken.length ≤ 1000000) : APure Tryz.prog 22 [plA p] (B (plOK p)) := by
  refine ap Tryz.func22 (fun e0 he0 => ?_)
  refine wz 5 ?_
  refine kz az (rin_pure _ _ _) ?_
  refine wz 2 ?_
  refine sz 12 (fun g1_5 g1_5' => ?_) (fun g1_5 g1_5' => ?_)
  ·refine wz 24 ?_
   exact rz rfl (Less.eq (by unfold plOK; simp_all))
  refine wz 3 ?_
  refine ky az (rin_pure _ _ _) ?_
  refine wz 3 ?_
  refine sz 19 (fun g1_12 g1_12' => ?_) (fun g1_12 g1_12' => ?_)
  ·refine wz 17 ?_
   exact rz rfl (Less.eq (by unfold plOK; simp_all))
  refine wz 3 ?_
  refine ky az (rin_pure _ _ _) ?_
  refine wz 3 ?_
  refine sz 26 (fun g1_19 g1_19' => ?_) (fun g1_19 g1_19' => ?_)
  ·refine wz 10 ?_
   exact rz rfl (Less.eq (by unfold plOK; simp_all))
  refine wz 5 ?_
  refine ky az (rin_pure _ _ _) ?_
  refine wz 2 ?_
  refine iz (fun c_34 c_34' => ?_) (fun c_34 c_34' => ?_)
  ·refine wz 1 ?_
   exact rz rfl (Less.eq (by unfold plOK; simp_all))
  refine wz 1 ?_
  refine aw_loopk (ι := { k : Nat // k ≤ p.hts.length ∧ ∀ i, (hi : i < p.hts.length) → i < k → inn p.hts[i] 1 9 = true }) [1] (fun i => [(3, I i.1)]) (fun H i => H) (fun i => p.hts.length - i.1) (⟨0, Nat.zero_le _, by omega⟩) ⟨jz, jz, trivial⟩ rfl ?_
  rintro ⟨k, hk, hok⟩
  refine nz ?_
  refine wz 5 ?_
  refine iz (fun c_39 c_39' => ?_) (fun c_39 c_39' => ?_)
  ·have hkl : k < p.hts.length := by omega
   refine wz 5 ?_
   refine kz az (rin_pure _ _ _) ?_
   refine wz 1 ?_
   refine iz (fun c_48 c_48' => ?_) (fun c_48 c_48' => ?_)
   ·have hbad : (p.hts.all fun n => inn n 1 9) = false := all_bad hkl (by simpa using c_48)
    refine wz 1 ?_
    exact rz rfl (Less.eq (by unfold plOK; rw [hbad]; simp))
   refine wz 3 ?_
   exact ⟨⟨k + 1, by omega, fun i hi h => (by by_cases e : i = k; (subst e; simpa using c_48); exact hok i hi (by omega))⟩, by simp only; omega, Sub.slots ⟨jz, jz, trivial⟩⟩
  obtain rfl : k = p.hts.length := by omega
  have hall1 : (p.hts.all fun n => inn n 1 9) = true := all_of fun j hj => hok j hj hj
  refine wz 1 ?_
  refine aw_loopk (ι := { k : Nat // k ≤ p.figs.length ∧ ∀ i, (hi : i < p.figs.length) → i < k → fgOK p.figs[i] = true }) [1] (fun i => [(4, I i.1)]) (fun H i => H) (fun i => p.figs.length - i.1) (⟨0, Nat.zero_le _, by omega⟩) ⟨jz, jz, trivial⟩ rfl ?_
  rintro ⟨k, hk2, hok2⟩
  refine nz ?_
  refine wz 5 ?_
  refine iz (fun c_53 c_53' => ?_) (fun c_53 c_53' => ?_)
  ·have hfl : k < p.figs.length := by omega
   have hfe : fgOK p.figs[k] = ((!decide (p.figs[k].side < 1) && !decide (p.figs[k].side > 3)) && inn p.figs[k].rank 1 9 && inn p.figs[k].hands 1 2) := by unfold fgOK; rw [show inn p.figs[k].side 1 3 = (!(decide (p.figs[k].side < 1)) && !(decide (p.figs[k].side > 3))) by unfold inn; rw [Bool.eq_iff_iff]; simp]
   refine wz 11 ?_
   refine sz 64 (fun g12_3 g12_3' => ?_) (fun g12_3 g12_3' => ?_)
   ·have hbad : p.figs.all fgOK = false := all_bad hfl (by rw [hfe]; simp [*])
    refine wz 18 ?_
    exact rz rfl (Less.eq (by unfold plOK; rw [hbad]; simp))
   refine wz 5 ?_
   refine sz 69 (fun g12_8 g12_8' => ?_) (fun g12_8 g12_8' => ?_)
   ·have hbad : p.figs.all fgOK = false := all_bad hfl (by rw [hfe]; simp [*])
    refine wz 13 ?_
    exact rz rfl (Less.eq (by unfold plOK; rw [hbad]; simp))
   refine wz 2 ?_
   refine ky az (rin_pure _ _ _) ?_
   refine wz 3 ?_
   refine sz 75 (fun g12_14 g12_14' => ?_) (fun g12_14 g12_14' => ?_)
   ·have hbad : p.figs.all fgOK = false := all_bad hfl (by rw [hfe]; simp [*])
    refine wz 7 ?_
    exact rz rfl (Less.eq (by unfold plOK; rw [hbad]; simp))
   refine wz 2 ?_
   refine ky az (rin_pure _ _ _) ?_
   refine wz 2 ?_
   refine iz (fun c_80 c_80' => ?_) (fun c_80 c_80' => ?_)
   ·have hbad : p.figs.all fgOK = false := all_bad hfl (by rw [hfe]; simp [*])
    refine wz 1 ?_
    exact rz rfl (Less.eq (by unfold plOK; rw [hbad]; simp))
   have hfg : fgOK p.figs[k] = true := by rw [hfe]; simp [*]
   refine wz 3 ?_
   exact ⟨⟨k + 1, by omega, fun i hi h => (by by_cases e : i = k; (subst e; exact hfg); exact hok2 i hi (by omega))⟩, by simp only; omega, sb 1 ⟨jz, jz, trivial⟩⟩
  obtain rfl : k = p.figs.length := by omega
  have hall2 : p.figs.all fgOK = true := all_of fun j hj => hok2 j hj hj
  refine wz 1 ?_
  refine aw_loopk (ι := { k : Nat // k ≤ p.scs.length ∧ ∀ i, (hi : i < p.scs.length) → i < k → scOK p p.scs[i] = true }) [1] (fun i => [(6, I i.1)]) (fun H i => H) (fun i => p.scs.length - i.1) (⟨0, Nat.zero_le _, by omega⟩) ⟨jz, jz, trivial⟩ rfl ?_
  rintro ⟨k, hk3, hok3⟩
  refine nz ?_
  refine wz 5 ?_
  refine iz (fun c_85 c_85' => ?_) (fun c_85 c_85' => ?_)
  ·have hsl : k < p.scs.length := by omega
   have hxk := hx _ (List.getElem_mem hsl)
   refine wz 0 ?_
   refine aw_draw 8 mo (by kernel_rfl) ?_
   refine dz 6 ?_
   refine dkz az (rscene_pure p _ hxk.1 hxk.2.1 hxk.2.2 hh hf) ?_
   refine dz 1 ?_
   refine wz 0 ?_
   refine iz (fun c_95 c_95' => ?_) (fun c_95 c_95' => ?_)
   ·have hbad : p.scs.all (scOK p) = false := all_bad hsl (by simpa using c_95)
    refine wz 1 ?_
    exact rz rfl (Less.eq (by unfold plOK; rw [hbad]; simp))
   refine wz 3 ?_
   exact ⟨⟨k + 1, by omega, fun i hi h => (by by_cases e : i = k; (subst e; simpa using c_95); exact hok3 i hi (by omega))⟩, by simp only; omega, Sub.slots ⟨jz, jz, trivial⟩⟩
  obtain rfl : k = p.scs.length := by omega
  have hall3 : p.scs.all (scOK p) = true := all_of fun j hj => hok3 j hj hj
  refine wz 1 ?_
  exact rz rfl (Less.eq (by unfold plOK; rw [hall1, hall2, hall3]; simp_all))
theorem rscn_pure (p : Ply) (n : Int) (hs : p.scs.length ≤ 1000000) : APure Tryz.prog 26 [plA p, I n] (B (scIn p n)) := by
  refine ap Tryz.func26 (fun e0 he0 => ?_)
  refine wz 7 ?_
  refine kz az (rin_pure _ _ _) ?_
  refine wz 1 ?_
  exact rz rfl jz
theorem rfig_pure (p : Ply) (n : Int) (hf : p.figs.length ≤ 1000000) : APure Tryz.prog 48 [plA p, I n] (B (fgIn p n)) := by
  refine ap Tryz.func48 (fun e0 he0 => ?_)
  refine wz 7 ?_
  refine kz az (rin_pure _ _ _) ?_
  refine wz 1 ?_
  exact rz rfl jz
theorem rplace_pure (p : Ply) (n : Int) (hh : p.hts.length ≤ 1000000) : APure Tryz.prog 118 [plA p, I n] (B (plIn p n)) := by
  refine ap Tryz.func118 (fun e0 he0 => ?_)
  refine wz 7 ?_
  refine kz az (rin_pure _ _ _) ?_
  refine wz 1 ?_
  exact rz rfl jz
theorem rlist_pure (p : Ply) {k : Nat} (hk : k < p.scs.length) (hh : p.hts.length ≤ 1000000) (hs : p.scs.length ≤ 1000000) (l : List Int) (hl : l.length ≤ 1000000) (hr : (sc p k).rest.length ≤ 1000000) : APure Tryz.prog 57 [plA p, I k, ints l] (B (plsOK p (sc p k) l)) := by
  refine ap Tryz.func57 (fun e0 he0 => ?_)
  refine aw_seq ?_
  have hse := sc_at hk
  rw [hse] at hr
  refine wz 3 ?_
  refine aw_loopk (ι := { m : Nat // m ≤ l.length ∧ ∀ i, (hi : i < l.length) → i < m → plIn p l[i] = true }) [1, 2, 3] (fun i => [(7, I i.1)]) (fun H i => H) (fun i => l.length - i.1) (⟨0, Nat.zero_le _, by omega⟩) ⟨jz, jz, jz, jz, trivial⟩ rfl ?_
  rintro ⟨m, hm, hok⟩
  refine nz ?_
  refine wz 4 ?_
  refine iz (fun c_11 c_11' => ?_) (fun c_11 c_11' => ?_)
  ·have hml : m < l.length := by omega
   refine wz 0 ?_
   refine aw_draw 7 mo (by kernel_rfl) ?_
   refine dz 5 ?_
   refine dkz az (rplace_pure p _ hh) ?_
   refine dz 1 ?_
   refine wz 0 ?_
   refine iz (fun c_20 c_20' => ?_) (fun c_20 c_20' => ?_)
   ·have hbad : l.all (plIn p) = false := all_bad hml (by simpa using c_20)
    refine wz 1 ?_
    exact rz rfl (Less.eq (congrArg B (by unfold plsOK; rw [pls_any, hbad]; simp)))
   refine wz 3 ?_
   exact ⟨⟨m + 1, by omega, fun i hi h => (by by_cases e : i = m; (subst e; simpa using c_20); exact hok i hi (by omega))⟩, by simp only; omega, Sub.slots ⟨jz, jz, jz, jz, trivial⟩⟩
  obtain rfl : m = l.length := by omega
  have hall : l.all (plIn p) = true := all_of fun j hj => hok j hj hj
  refine wz 11 ?_
  exact rz rfl (Less.eq (congrArg B (by unfold plsOK; rw [pls_any, hall, hse]; simp; omega)))
theorem short_pure (p : Ply) : APure Tryz.prog 19 [plA p] (B (shB p)) := by
  refine ap Tryz.func19 (fun e0 he0 => ?_)
  refine wz 3 ?_
  refine aw_loopk (ι := { k : Nat // k ≤ p.scs.length ∧ k ≤ 8 ∧ ∀ i, (hi : i < p.scs.length) → i < k → shX p.scs[i] = true }) [1] (fun i => [(3, I i.1)]) (fun H i => H) (fun i => p.scs.length - i.1) (⟨0, Nat.zero_le _, by omega, by omega⟩) ⟨jz, jz, trivial⟩ rfl ?_
  rintro ⟨k, hk, hk8, hok⟩
  refine nz ?_
  refine wz 6 ?_
  refine sz 10 (fun g2_5 g2_5' => ?_) (fun g2_5 g2_5' => ?_)
  ·have hkl : k < p.scs.length := by omega
   refine wz 3 ?_
   refine iz (fun c_13 c_13' => ?_) (fun c_13 c_13' => ?_)
   ·have hk8b : k < 8 := by have := of_decide_eq_true c_13; omega
    refine wz 12 ?_
    refine sz 25 (fun g5_4 g5_4' => ?_) (fun g5_4 g5_4' => ?_)
    ·have hbad := shB_row hkl hk8b (by unfold shX; simp; omega)
     refine wz 13 ?_
     exact rz rfl (Less.eq (by rw [hbad]))
    refine wz 6 ?_
    refine sz 31 (fun g5_10 g5_10' => ?_) (fun g5_10 g5_10' => ?_)
    ·have hbad := shB_row hkl hk8b (by unfold shX; simp; omega)
     refine wz 7 ?_
     exact rz rfl (Less.eq (by rw [hbad]))
    refine wz 5 ?_
    refine iz (fun c_36 c_36' => ?_) (fun c_36 c_36' => ?_)
    ·have h6 := of_decide_eq_true c_36
     have hbad := shB_row hkl hk8b (by unfold shX; simp; omega)
     refine wz 1 ?_
     exact rz rfl (Less.eq (by rw [hbad]))
    have h6 := of_decide_eq_false c_36
    have hsx : shX p.scs[k] = true := by unfold shX; simp; omega
    refine wz 3 ?_
    exact ⟨⟨k + 1, by omega, by omega, fun i hi h => (by by_cases e : i = k; (subst e; exact hsx); exact hok i hi (by omega))⟩, by simp only; omega, sb 1 ⟨jz, jz, trivial⟩⟩
   refine wz 5 ?_
   refine sz 41 (fun g7_4 g7_4' => ?_) (fun g7_4 g7_4' => ?_)
   ·refine wz 6 ?_
    refine sz 47 (fun g7_10 g7_10' => ?_) (fun g7_10 g7_10' => ?_)
    ·refine wz 6 ?_
     exact rz rfl (Less.eq (congrArg B (by have h9 := of_decide_eq_false c_13; rw [shB_fin (fun i hi h8 => hok i hi (by omega)), Bool.eq_iff_iff]; simp; omega)))
    refine wz 6 ?_
    exact rz rfl (Less.eq (congrArg B (by have h9 := of_decide_eq_false c_13; rw [shB_fin (fun i hi h8 => hok i hi (by omega)), Bool.eq_iff_iff]; simp; omega)))
   refine wz 12 ?_
   exact rz rfl (Less.eq (congrArg B (by have h9 := of_decide_eq_false c_13; rw [shB_fin (fun i hi h8 => hok i hi (by omega)), Bool.eq_iff_iff]; simp; omega)))
  obtain rfl : k = p.scs.length := by omega
  refine wz 9 ?_
  refine sz 41 (fun g7_4 g7_4' => ?_) (fun g7_4 g7_4' => ?_)
  ·refine wz 6 ?_
   refine sz 47 (fun g7_10 g7_10' => ?_) (fun g7_10 g7_10' => ?_)
   ·refine wz 6 ?_
    exact rz rfl (Less.eq (congrArg B (by rw [shB_fin (fun i hi _ => hok i hi hi), Bool.eq_iff_iff]; simp; omega)))
   refine wz 6 ?_
   exact rz rfl (Less.eq (congrArg B (by rw [shB_fin (fun i hi _ => hok i hi hi), Bool.eq_iff_iff]; simp; omega)))
  refine wz 12 ?_
  exact rz rfl (Less.eq (congrArg B (by rw [shB_fin (fun i hi _ => hok i hi hi), Bool.eq_iff_iff]; simp; omega)))
end Go.Proofs.YtfmpabgblbbcdaaGreatDoor
namespace Go.Proofs.YtfmpabgblbbcdaaGreatDoor
open Go Go.Ab Ni St
open Hd hiding sz
instance en20 : EnT Tryz.prog 20 := ⟨Ent.of Tryz.func20 (by kernel_rfl) rfl⟩
section
variable [Tabs]
section seq
variable {c : Ctx} {ops : Array Oper} {Q : AExit → St → Prop} {rest : List Oper} {s : St} {i : Nat}
variable {d : Option Tmp} {t : TypeId} {p : String} {af : Array Edge}
end seq
section ev
variable {P : Program} {r : Option Nat} {H : List AObj} {ρ : Operand → AV}
variable {d : Option Tmp} {t : TypeId} {p : String} {af : Array Edge} {g : Option (Nat × Bool)}
end ev
end
theorem short_t {p : Ply} (h : shB p = true) : APure Tryz.prog 19 [plA p] (B true) := by have q := short_pure p; rw [h] at q; exact q
theorem short_f {p : Ply} (h : shB p = false) : APure Tryz.prog 19 [plA p] (B false) := by have q := short_pure p; rw [h] at q; exact q
theorem pl_t {p : Ply} (hs : shB p = true) (h : plOK p = true) : APure Tryz.prog 22 [plA p] (B true) := by have q := rplay_pure p (shB_len hs).1 (shB_len hs).2.1 (shB_len hs).2.2.1 (shB_len hs).2.2.2; rw [h] at q; exact q
theorem pl_f {p : Ply} (hs : shB p = true) (h : plOK p = false) : APure Tryz.prog 22 [plA p] (B false) := by have q := rplay_pure p (shB_len hs).1 (shB_len hs).2.1 (shB_len hs).2.2.1 (shB_len hs).2.2.2; rw [h] at q; exact q
end Go.Proofs.YtfmpabgblbbcdaaGreatDoor
namespace Go.Proofs.YtfmpabgblbbcdaaGreatDoor
open Go Go.Ab Ni St
open Hd hiding sz
theorem fil_succ {α : Type} {q : α → Bool} {l : List α} {i : Nat} (h : i < l.length) : (l.take (i + 1)).filter q = (l.take i).filter q ++ (if q l[i] = true then [l[i]] else []) := by
  rw [List.take_succ_eq_append_getElem h, List.filter_append]
  congr 1
  by_cases h1 : q l[i] = true
  · rw [if_pos h1, List.filter_cons_of_pos h1]; rfl
  · rw [if_neg h1, List.filter_cons_of_neg h1]; rfl
end Go.Proofs.YtfmpabgblbbcdaaGreatDoor
namespace Go.Proofs.YtfmpabgblbbcdaaGreatDoor
open Go Go.Ab Ni St
open Hd hiding sz
instance en49 : EnT Tryz.prog 49 := ⟨Ent.of Tryz.func49 (by kernel_rfl) rfl⟩
instance en58 : EnT Tryz.prog 58 := ⟨Ent.of Tryz.func58 (by kernel_rfl) rfl⟩
theorem scn_t {p : Ply} {n : Int} (hs : shB p = true) (h : scIn p n = true) : APure Tryz.prog 26 [plA p, I n] (B true) := by have q := rscn_pure p n (shB_len hs).2.2.1; rw [h] at q; exact q
theorem scn_f {p : Ply} {n : Int} (hs : shB p = true) (h : scIn p n = false) : APure Tryz.prog 26 [plA p, I n] (B false) := by have q := rscn_pure p n (shB_len hs).2.2.1; rw [h] at q; exact q
theorem rest_len {p : Ply} (hr : plOK p = true) {k : Nat} (hk : k < p.scs.length) : (sc p k).rest.length ≤ 4 := (sc_B (plOK_B hr) hk).r4
theorem list_t {p : Ply} {k : Nat} {l : List Int} (hs : shB p = true) (hr : plOK p = true) (hk : k < p.scs.length) (hl : l.length ≤ 10) (h : plsOK p (sc p k) l = true) : APure Tryz.prog 57 [plA p, I k, ints l] (B true) := by
  have q := rlist_pure p hk (shB_len hs).1 (shB_len hs).2.2.1 l (by omega) (by have := rest_len hr hk; omega); rw [h] at q; exact q
theorem list_f {p : Ply} {k : Nat} {l : List Int} (hs : shB p = true) (hr : plOK p = true) (hk : k < p.scs.length) (hl : l.length ≤ 10) (h : plsOK p (sc p k) l = false) : APure Tryz.prog 57 [plA p, I k, ints l] (B false) := by
  have q := rlist_pure p hk (shB_len hs).1 (shB_len hs).2.2.1 l (by omega) (by have := rest_len hr hk; omega); rw [h] at q; exact q
end Go.Proofs.YtfmpabgblbbcdaaGreatDoor
namespace Go.Proofs.YtfmpabgblbbcdaaGreatDoor
open Go Go.Ab Ni St
open Hd hiding sz
theorem rests_e {p : Ply} {k : Nat} {l : List Int} {b : Bool} (hs : shB p = true) (hr : plOK p = true) (hn : k < p.scs.length) (hl : l.length ≤ 1000000) (ho : plsOK p (sc p k) l = true) (e : suits true p (sc p k) l = b) : APure Tryz.prog 58 [plA p, I k, ints l] (.tup [B b, I 0]) := by
  have q := xrests_ok (shB_len hs).1 (shB_len hs).2.1 (shB_len hs).2.2.1 (shB_len hs).2.2.2 hn hr hl ho; rw [e] at q; exact q
end Go.Proofs.YtfmpabgblbbcdaaGreatDoor
namespace Go.Proofs.YtfmpabgblbbcdaaGreatDoor
open Go Go.Ab Ni St
open Hd hiding sz
def unQ (p : Ply) (T : List Int) (q : Int × Int) : Bool := !decide (q.2 ∈ T) && ((decide ((fg p q.1).side = 3) || (lf p q.2 == decide ((fg p q.1).side = 1))) && decide (ht p q.2 ≤ (fg p q.1).rank))
def clQ (p : Ply) (q r : Int × Int) : Bool := (lf p q.2 == lf p r.2) && decide ((fg p q.1).rank < (fg p r.1).rank ∧ ht p r.2 < ht p q.2)
def biQ (p : Ply) (q r : Int × Int) : Bool := !decide (q.2 = r.2) && (!clQ p q r && !clQ p r q)
theorem okI_iff {p : Ply} {x : Scn} {l : List Int} (hl : l.length = x.rest.length) {i : Nat} (hi : i < l.length) :
    okI true p x l i = true ↔ unQ p x.taken (x.rest[i]'(by omega), l[i]) = true ∧ ∀ j, (hj : j < i) → biQ p (x.rest[j]'(by omega), l[j]'(by omega)) (x.rest[i]'(by omega), l[i]) = true := by
  have hr : i < x.rest.length := by omega
  have e1 : rf p x i = fg p x.rest[i] := by unfold rf; rw [getD_at hr]
  have ec : ∀ j, (hj : j < i) → clash p x l j i = clQ p (x.rest[j]'(by omega), l[j]'(by omega)) (x.rest[i], l[i]) ∧ clash p x l i j = clQ p (x.rest[i], l[i]) (x.rest[j]'(by omega), l[j]'(by omega)) := fun j hj => by
    have h2 : rf p x j = fg p (x.rest[j]'(by omega)) := by unfold rf; rw [getD_at (by omega)]
    unfold clash clQ; rw [e1, h2, getD_at hi, getD_at (show j < l.length by omega)]; exact ⟨rfl, rfl⟩
  have em : l[i] ∈ l.take i ↔ ∃ j, ∃ hj : j < i, l[j]'(by omega) = l[i] := by
    rw [List.mem_take_iff_getElem]
    constructor
    · rintro ⟨j, hj, e⟩; exact ⟨j, by omega, e⟩
    · rintro ⟨j, hj, e⟩; exact ⟨j, by omega, e⟩
  unfold okI plc low rkd unQ biQ
  rw [e1, getD_at hi]
  simp only [Bool.and_eq_true, Bool.not_eq_true', decide_eq_false_iff_not, decide_eq_true_eq, Bool.not_true, Bool.false_or, not_or]
  constructor
  · rintro ⟨⟨⟨h1, h2⟩, h3⟩, h4, h5⟩
    exact ⟨⟨h1, h3, h4⟩, fun j hj => ⟨fun e => h2 (em.2 ⟨j, hj, e⟩), by have := h5 j hj; rw [(ec j hj).1, (ec j hj).2] at this; exact this⟩⟩
  · rintro ⟨⟨h1, h3, h4⟩, h5⟩
    refine ⟨⟨⟨h1, fun q => ?_⟩, h3⟩, h4, fun j hj => ?_⟩
    · obtain ⟨j, hj, e⟩ := em.1 q; exact (h5 j hj).1 e
    · rw [(ec j hj).1, (ec j hj).2]; exact (h5 j hj).2
theorem suits_zip {p : Ply} {x : Scn} {l : List Int} (hl : l.length = x.rest.length) :
    suits true p x l = true ↔ (∀ q ∈ x.rest.zip l, unQ p x.taken q = true) ∧ (x.rest.zip l).Pairwise fun q r => biQ p q r = true := by
  unfold suits; rw [decide_eq_true_eq]
  have hz : (x.rest.zip l).length = l.length := by simp [hl]
  constructor
  · intro h
    refine ⟨fun q hq => ?_, List.pairwise_iff_getElem.2 fun i j hi hj hij => ?_⟩
    · obtain ⟨i, hi, rfl⟩ := List.getElem_of_mem hq
      rw [List.getElem_zip]; exact ((okI_iff hl (by omega)).1 (h i (by omega))).1
    · rw [List.getElem_zip, List.getElem_zip]; exact ((okI_iff hl (by omega)).1 (h j (by omega))).2 i hij
  · rintro ⟨h1, h2⟩ i hi
    refine (okI_iff hl hi).2 ⟨?_, fun j hj => ?_⟩
    · have := h1 _ (List.getElem_mem (show i < (x.rest.zip l).length by omega)); rwa [List.getElem_zip] at this
    · have := List.pairwise_iff_getElem.1 h2 j i (by omega) (by omega) hj; rwa [List.getElem_zip, List.getElem_zip] at this
theorem zip_fil {α β : Type} (q : α → Bool) : ∀ (a : List α) (b : List β), a.length = b.length → ((a.zip b).filter fun z => q z.1).map Prod.fst = a.filter q
  | [], [], _ => rfl
  | x :: a, y :: b, h => by
    have ih := zip_fil q a b (by simpa using h)
    rw [List.zip_cons_cons]
    by_cases hx : q x = true
    · rw [List.filter_cons_of_pos hx, List.filter_cons_of_pos (by simpa using hx), List.map_cons, ih]
    · rw [List.filter_cons_of_neg hx, List.filter_cons_of_neg (by simpa using hx), ih]
theorem zip_un {α β : Type} : ∀ z : List (α × β), (z.map Prod.fst).zip (z.map Prod.snd) = z
  | [] => rfl
  | (a, b) :: z => by rw [List.map_cons, List.map_cons, List.zip_cons_cons, zip_un z]
theorem sum_fil {f : Int → Int} {q : Int → Bool} : ∀ {l : List Int}, (∀ a ∈ l, 0 ≤ f a) → ((l.filter q).map f).sum ≤ (l.map f).sum
  | [], _ => by simp
  | a :: l, h => by
    have ih := sum_fil (q := q) fun b hb => h b (List.mem_cons_of_mem _ hb)
    have ha := h a List.mem_cons_self
    by_cases hq : q a = true
    · rw [List.filter_cons_of_pos hq, List.map_cons, List.map_cons, List.sum_cons, List.sum_cons]; omega
    · rw [List.filter_cons_of_neg hq, List.map_cons, List.sum_cons]; omega
theorem hands_cut {p : Ply} (B : PlB p) {x : Scn} (X : ScB p x) (F : List Int) : hands p (cutX F x) ≤ hands p x := by
  have := sum_fil (f := fun f => (fg p f).hands) (q := fun t => !decide (t ∈ F)) (l := x.moved) fun a ha => by
    have := (rising_iff.1 X.mv).2 a ha
    have := (fg_B B this.1 this.2).2.2; omega
  unfold hands
  show max 0 (x.knocks - 1) + (((x.moved.filter fun t => !decide (t ∈ F))).map fun f => (fg p f).hands).sum ≤ _
  omega
theorem can_iff {p : Ply} {x : Scn} : St.can p x = true ↔ hands p x ≤ 2 ∧ ∃ l, l ∈ arr true p x := by
  unfold St.can
  rw [Bool.and_eq_true, decide_eq_true_eq]
  cases h : arr true p x with
  | nil => simp
  | cons a m => simp
theorem can_cut {p : Ply} (B : PlB p) {x : Scn} (X : ScB p x) (F : List Int) (h : St.can p x = true) : St.can p (cutX F x) = true := by
  obtain ⟨h1, l, hl⟩ := can_iff.1 h
  refine can_iff.2 ⟨Int.le_trans (hands_cut B X F) h1, ?_⟩
  obtain ⟨l1, l2, l3⟩ := mem_arr.1 hl
  obtain ⟨s1, s2⟩ := (suits_zip l1).1 l3
  have ef : ((x.rest.zip l).filter fun z => !decide (z.1 ∈ F)).map Prod.fst = (cutX F x).rest := zip_fil (fun t => !decide (t ∈ F)) x.rest l l1.symm
  have el : (((x.rest.zip l).filter fun z => !decide (z.1 ∈ F)).map Prod.snd).length = (cutX F x).rest.length := by rw [← ef, List.length_map, List.length_map]
  refine ⟨((x.rest.zip l).filter fun z => !decide (z.1 ∈ F)).map Prod.snd, mem_arr.2 ⟨el, fun a ha => ?_, (suits_zip el).2 ?_⟩⟩
  · obtain ⟨z, hz, rfl⟩ := List.mem_map.1 ha
    exact l2 _ (List.of_mem_zip (List.mem_filter.1 hz).1).2
  · rw [← ef, zip_un]
    exact ⟨fun q hq => s1 q (List.mem_filter.1 hq).1, s2.filter _⟩
theorem scOK_iff {p : Ply} {x : Scn} : scOK p x = true ↔ ScB p x ∧ ∀ n ∈ x.moved, n ∉ x.rest := by
  unfold scOK
  simp only [Bool.and_eq_true, inn, decide_eq_true_eq, List.all_eq_true, Bool.not_eq_true', decide_eq_false_iff_not]
  constructor
  · rintro ⟨⟨⟨⟨⟨a1, a2⟩, a3⟩, a4⟩, a5⟩, a6⟩; exact ⟨⟨a1, a2, a3, a4, a5⟩, a6⟩
  · rintro ⟨⟨a1, a2, a3, a4, a5⟩, a6⟩; exact ⟨⟨⟨⟨⟨a1, a2⟩, a3⟩, a4⟩, a5⟩, a6⟩
theorem plOK_sc {p : Ply} (h : plOK p = true) : ∀ x ∈ p.scs, scOK p x = true := by
  unfold plOK at h
  simp only [Bool.and_eq_true, List.all_eq_true] at h
  exact h.2
theorem plOK_like {p q : Ply} (h : plOK p = true) (h1 : q.hts = p.hts) (h2 : q.left = p.left) (h3 : q.figs = p.figs) (h4 : q.scs.length = p.scs.length) : plOK q = q.scs.all (scOK q) := by
  unfold plOK at *
  simp only [Bool.and_eq_true] at h
  rw [h1, h2, h3, h4]
  obtain ⟨⟨⟨⟨⟨⟨a1, a2⟩, a3⟩, a4⟩, a5⟩, a6⟩, _⟩ := h
  rw [a1, a2, a3, a4, a5, a6]; rfl
theorem set_OK {p : Ply} {k : Nat} {x : Scn} (h : plOK p = true) (hk : k < p.scs.length) : plOK (setS p k x) = scOK p x := by
  rw [plOK_like (q := setS p k x) h rfl rfl rfl (by show (p.scs.set k x).length = _; rw [List.length_set])]
  show (p.scs.set k x).all (scOK p) = _
  rw [Bool.eq_iff_iff, List.all_eq_true]
  constructor
  · intro q; exact q x (List.mem_set hk x)
  · intro q y hy
    rcases List.mem_or_eq_of_mem_set hy with hy | rfl
    · exact plOK_sc h y hy
    · exact q
theorem out_OK {p : Ply} (h : plOK p = true) (F : List Int) : plOK (outP p F) = true := by
  rw [plOK_like (q := outP p F) h rfl rfl rfl (by show (p.scs.map _).length = _; rw [List.length_map]), List.all_eq_true]
  intro y hy
  have hB := (outP_B (plOK_B h) F).sc y hy
  obtain ⟨x, hx, rfl⟩ := List.mem_map.1 (show y ∈ p.scs.map _ from hy)
  exact scOK_iff.2 ⟨hB, fun n hn hr => (scOK_iff.1 (plOK_sc h x hx)).2 n (List.mem_filter.1 hn).1 (List.mem_filter.1 hr).1⟩
theorem out_sc {p : Ply} {F : List Int} {k : Nat} (hk : k < p.scs.length) : sc (outP p F) k = cutX F (sc p k) := by
  have h2 : k < (outP p F).scs.length := by show k < (p.scs.map _).length; rw [List.length_map]; exact hk
  rw [sc_at h2, sc_at hk]
  exact List.getElem_map (cutX F)
def freeX (x : Scn) : Scn := { x with taken := [] }
theorem free_OK {p : Ply} {k : Nat} (h : plOK p = true) (hk : k < p.scs.length) : plOK (setS p k (freeX (sc p k))) = true := by
  rw [set_OK h hk, scOK_iff]
  have X := sc_B (plOK_B h) hk
  exact ⟨⟨X.mv, X.rs, rising_iff.2 ⟨List.Pairwise.nil, fun x hx => by cases hx⟩, X.r4, X.kn⟩, (scOK_iff.1 (plOK_sc h _ (by rw [sc_at hk]; exact List.getElem_mem hk) : scOK p (sc p k) = true)).2⟩
theorem free_suits {p : Ply} {x : Scn} {l : List Int} (hl : l.length = x.rest.length) (h : suits true p x l = true) : suits true p (freeX x) l = true := by
  obtain ⟨s1, s2⟩ := (suits_zip hl).1 h
  refine (suits_zip (x := freeX x) hl).2 ⟨fun q hq => ?_, s2⟩
  have := s1 q hq
  unfold unQ at this ⊢
  rw [Bool.and_eq_true] at this ⊢
  exact ⟨by simp [freeX], this.2⟩
theorem ht_low {p : Ply} {n : Nat} {a : Int} (h0 : 0 ≤ a) (h : a < p.hts.length) : ht (lowP p n) a = ht p a - n := by
  have e : a.toNat < p.hts.length := by omega
  unfold ht
  show (p.hts.map fun h => h - (n : Int)).getD a.toNat 0 = _
  rw [getD_at (by rw [List.length_map]; exact e), getD_at e]
  exact List.getElem_map _
theorem low_suits {p : Ply} {n : Nat} {x : Scn} {l : List Int} (hl : l.length = x.rest.length) (hb : ∀ a ∈ l, 0 ≤ a ∧ a < p.hts.length) (h : suits true p x l = true) : suits true (lowP p n) x l = true := by
  obtain ⟨s1, s2⟩ := (suits_zip hl).1 h
  have hq : ∀ q ∈ x.rest.zip l, ht (lowP p n) q.2 = ht p q.2 - n := fun q hq => by
    have := hb _ (List.of_mem_zip hq).2
    exact ht_low this.1 this.2
  refine (suits_zip hl).2 ⟨fun q h1 => ?_, ?_⟩
  · have := s1 q h1
    unfold unQ at this ⊢
    simp only [Bool.and_eq_true, decide_eq_true_eq] at this ⊢
    refine ⟨this.1, this.2.1, ?_⟩
    rw [hq q h1]; have := this.2.2
    show ht p q.2 - n ≤ (fg p q.1).rank
    omega
  · refine s2.imp_of_mem fun {a b} ha hb h => ?_
    have e1 := hq a ha
    have e2 := hq b hb
    have ec : ∀ u v : Int × Int, ht (lowP p n) u.2 = ht p u.2 - n → ht (lowP p n) v.2 = ht p v.2 - n → clQ (lowP p n) u v = clQ p u v := fun u v hu hv => by
      unfold clQ; rw [hu, hv]
      show ((lf p u.2 == lf p v.2) && decide ((fg p u.1).rank < (fg p v.1).rank ∧ ht p v.2 - n < ht p u.2 - n)) = _
      congr 1
      rw [decide_eq_decide]; omega
    unfold biQ at h ⊢
    rw [ec a b e1 e2, ec b a e2 e1]; exact h
end Go.Proofs.YtfmpabgblbbcdaaGreatDoor
namespace Go.Proofs.YtfmpabgblbbcdaaGreatDoor
open Go Go.Ab Ni St
open Hd hiding sz
instance en59 : EnT Tryz.prog 59 := ⟨Ent.of Tryz.func59 (by kernel_rfl) rfl⟩
instance en96 : EnT Tryz.prog 96 := ⟨Ent.of Tryz.func96 (by kernel_rfl) rfl⟩
theorem rcut_pure (F l : List Int) (hF : F.length ≤ 1000000) (hl : l.length ≤ 1000000) : APure Tryz.prog 96 [ints l, ints F] (ints (cutN F l)) := by
  refine ap Tryz.func96 (fun e0 he0 => ?_)
  refine vz 3 ?_
  refine sq_nil ?_
  refine aw_block ?_
  refine aw_sub (sub_token 5 1 jz) ?_
  refine aw_loopk (ι := { k : Nat // k ≤ l.length }) [0, 1] (fun i => [(6, I i.1), (5, .own 0 1 ((cutN F (l.take i.1)).map (fun x => [I x])))]) (fun H i => H.set 0 (.tok ((cutN F (l.take i.1)).map (fun x => [I x])).length)) (fun i => l.length - i.1) (⟨0, Nat.zero_le _⟩) ⟨jz, jz, jz, jz, trivial⟩ rfl ?_
  rintro ⟨k, hk⟩
  refine nz ?_
  have hcl : (cutN F (l.take k)).length ≤ l.length := Nat.le_trans (List.length_filter_le _ _) (by rw [List.length_take]; omega)
  refine wz 4 ?_
  refine iz (fun c_10 c_10' => ?_) (fun c_10 c_10' => ?_)
  ·have hkL : k < l.length := by omega
   refine wz 5 ?_
   refine kz az (has_pure F l[k] hF) ?_
   refine wz 1 ?_
   refine iz (fun c_19 c_19' => ?_) (fun c_19 c_19' => ?_)
   ·have eS : (cutN F (l.take (k + 1))).map (fun x => [I x]) = (cutN F (l.take k)).map (fun x => [I x]) ++ [[I l[k]]] := by unfold cutN; rw [fil_succ hkL, if_pos (by simpa using c_19), List.map_append]; rfl
    refine wz 5 ?_
    refine sq_ev rfl (ev_buildSlice (es := [[_]]) sf22.h rfl rfl rfl rfl) ?_
    first | refine sq_append rfl sf22.h Tryz.underlying22 rfl rfl jz (Nat.succ_pos _) (by simp; omega) (by simp; omega) ?_ | refine sq_append rfl sf22.h Tryz.underlying22 rfl rfl (less_slx _ _) (Nat.succ_pos _) (by simp; omega) (by simp; omega) ?_
    refine wz 4 ?_
    exact ⟨⟨k + 1, by omega⟩, by simp only; omega, sb 1 ⟨jz, Less.eq (b := .own 0 1 ((cutN F (l.take (k + 1))).map (fun x => [I x]))) (by rw [eS] <;> rfl), jz, jz, trivial⟩ (hH := (congrArg (fun n => [AObj.tok n]) (congrArg List.length eS.symm)))⟩
   have eS : (cutN F (l.take (k + 1))).map (fun x => [I x]) = (cutN F (l.take k)).map (fun x => [I x]) := by unfold cutN; rw [fil_succ hkL, if_neg (by simpa using c_19), List.append_nil]
   refine wz 3 ?_
   exact ⟨⟨k + 1, by omega⟩, by simp only; omega, sb 1 ⟨jz, Less.eq (b := .own 0 1 ((cutN F (l.take (k + 1))).map (fun x => [I x]))) (by rw [eS] <;> rfl), jz, jz, trivial⟩ (hH := (congrArg (fun n => [AObj.tok n]) (congrArg List.length eS.symm)))⟩
  obtain rfl : k = l.length := by omega
  refine wz 2 ?_
  exact retQ_pure (v := .own _ _ _) rfl rfl (Less.trans (less_own _ _ _) (Less.eq (by rw [List.take_length])))
theorem copS2_call0 {p : Ply} {o0 : AObj} {o1 : AObj} (hh : 0 < p.hts.length ∧ p.hts.length ≤ 1000000) (hf : 0 < p.figs.length ∧ p.figs.length ≤ 1000000) (hs : 0 < p.scs.length ∧ p.scs.length ≤ 1000000) : ACall Tryz.prog 59 [plA p] [o0, o1] (fun y H' => ∃ cap l1 l2, p.scs.length ≤ cap ∧ y = .ret (.agg [I p.left, ints p.hts, fgs p.figs, .msl 6 0 p.scs.length cap]) ∧ H' = [o0, o1, .cells l1, .cells l2, .dead, .dead, .cells ((p.scs.map scC).flatten ++ List.replicate ((cap - p.scs.length) * 4) .any)]) := by
  refine acall_of (rs := [.cell 2 26]) Tryz.func59 rfl rfl (Nat.le_of_ble_eq_true rfl) fun e0 he0 => ?_
  refine wz 4 ?_
  refine sq_append_msl2 rfl sf22.h Tryz.underlying22 (less_nilx _) jz (by simpa using hh.1) (by simp; omega) (by simp; omega) (fun c1 hc1 hc1b => ?_)
  simp only [List.length_map] at hc1 hc1b ⊢
  refine nz ?_
  refine wz 4 ?_
  refine sq_append_msl2 rfl sf23.h Tryz.underlying23 (less_nilx _) jz (by simpa using hf.1) (by simp; omega) (by simp; omega) (fun c2 hc2 hc2b => ?_)
  simp only [List.length_map] at hc2 hc2b ⊢
  refine nz ?_
  refine wz 4 ?_
  refine sq_append_msl2 rfl sf24.h Tryz.underlying24 (less_nilx _) jz (by simpa using hs.1) (by simp; omega) (by simp; omega) (fun c3 hc3 hc3b => ?_)
  simp only [List.length_map] at hc3 hc3b ⊢
  refine nz ?_
  refine vz 2 ?_
  refine sq_nil ?_
  refine aw_seq ?_
  refine aw_sub (sub_freeze (j := 4) (n := p.hts.length) (cap := c1) (sz := 1) (es := p.hts.map (fun x => [I x])) (rest := List.replicate ((c1 - p.hts.length) * 1) .any) (sl' := [(1, .ptr 2 0), (2, .ptr 3 0)]) rfl (by simp) (fun q hq => by obtain ⟨x, _, rfl⟩ := List.mem_map.1 hq; rfl) (fun q hq => ?_) (FzH.same _ (by decide) (FzH.same _ (by decide) (FzH.cells (by decide) (FzL.cons (Fz.same _) (FzL.cons Fz.frozen (FzL.cons (Fz.same _) (FzL.cons (Fz.same _) FzL.nil)))) (FzH.same _ (by decide) (FzH.dead _ rfl (FzH.same _ (by decide) (FzH.same _ (by decide) (FzH.nil _))))))))) ?_
  ·simp only [List.mem_cons, List.not_mem_nil, or_false] at hq; rcases hq with rfl | rfl <;> exact Fz.same _
  refine nz ?_
  refine aw_sub (sub_freeze (j := 5) (n := p.figs.length) (cap := c2) (sz := 3) (es := p.figs.map fgC) (rest := List.replicate ((c2 - p.figs.length) * 3) .any) (sl' := [(1, .ptr 2 0), (2, .ptr 3 0)]) rfl (by simp) (fun q hq => by obtain ⟨x, _, rfl⟩ := List.mem_map.1 hq; rfl) (fun q hq => ?_) (FzH.same _ (by decide) (FzH.same _ (by decide) (FzH.cells (by decide) (FzL.cons (Fz.same _) (FzL.cons (Fz.same _) (FzL.cons Fz.frozen (FzL.cons (Fz.same _) FzL.nil)))) (FzH.same _ (by decide) (FzH.same _ (by decide) (FzH.dead _ rfl (FzH.same _ (by decide) (FzH.nil _))))))))) ?_
  ·simp only [List.mem_cons, List.not_mem_nil, or_false] at hq; rcases hq with rfl | rfl <;> exact Fz.same _
  refine nz ?_
  refine wz 2 ?_
  exact ⟨rfl, _, rfl, c3, _, _, hc3, rfl, rfl⟩
theorem copS2_call {p : Ply} {o0 : AObj} {o1 : AObj} (hh : 0 < p.hts.length ∧ p.hts.length ≤ 1000000) (hf : 0 < p.figs.length ∧ p.figs.length ≤ 1000000) (hs : 0 < p.scs.length ∧ p.scs.length ≤ 1000000) : ACall Tryz.prog 59 [plA p] [o0, o1] (fun y H' => ∃ cap, p.scs.length ≤ cap ∧ y = .ret (.agg [I p.left, ints p.hts, fgs p.figs, .msl 6 0 p.scs.length cap]) ∧ H' = [o0, o1, .dead, .dead, .dead, .dead, .cells ((p.scs.map scC).flatten ++ List.replicate ((cap - p.scs.length) * 4) .any)]) :=
  acall_wk (copS2_call0 hh hf hs) fun y H1 ⟨cap, l1, l2, hcap, hy, hH⟩ => ⟨_, _, _, hy, Less.rfl' _, by subst hH; exact .cons (.same _) (.cons (.same _) (.cons (.dead _) (.cons (.dead _) (.cons (.same _) (.cons (.same _) (.cons (.same _) (.nil))))))), cap, hcap, rfl, rfl⟩
theorem copH2_call0 {p : Ply} {o0 : AObj} {o1 : AObj} (hh : 0 < p.hts.length ∧ p.hts.length ≤ 1000000) (hf : 0 < p.figs.length ∧ p.figs.length ≤ 1000000) (hs : 0 < p.scs.length ∧ p.scs.length ≤ 1000000) : ACall Tryz.prog 59 [plA p] [o0, o1] (fun y H' => ∃ cap l1 l2, p.hts.length ≤ cap ∧ y = .ret (.agg [I p.left, .msl 4 0 p.hts.length cap, fgs p.figs, scs p.scs]) ∧ H' = [o0, o1, .cells l1, .cells l2, .cells ((p.hts.map (fun x => [I x])).flatten ++ List.replicate ((cap - p.hts.length) * 1) .any), .dead, .dead]) := by
  refine acall_of (rs := [.cell 2 26]) Tryz.func59 rfl rfl (Nat.le_of_ble_eq_true rfl) fun e0 he0 => ?_
  refine wz 4 ?_
  refine sq_append_msl2 rfl sf22.h Tryz.underlying22 (less_nilx _) jz (by simpa using hh.1) (by simp; omega) (by simp; omega) (fun c1 hc1 hc1b => ?_)
  simp only [List.length_map] at hc1 hc1b ⊢
  refine nz ?_
  refine wz 4 ?_
  refine sq_append_msl2 rfl sf23.h Tryz.underlying23 (less_nilx _) jz (by simpa using hf.1) (by simp; omega) (by simp; omega) (fun c2 hc2 hc2b => ?_)
  simp only [List.length_map] at hc2 hc2b ⊢
  refine nz ?_
  refine wz 4 ?_
  refine sq_append_msl2 rfl sf24.h Tryz.underlying24 (less_nilx _) jz (by simpa using hs.1) (by simp; omega) (by simp; omega) (fun c3 hc3 hc3b => ?_)
  simp only [List.length_map] at hc3 hc3b ⊢
  refine nz ?_
  refine vz 2 ?_
  refine sq_nil ?_
  refine aw_seq ?_
  refine aw_sub (sub_freeze (j := 5) (n := p.figs.length) (cap := c2) (sz := 3) (es := p.figs.map fgC) (rest := List.replicate ((c2 - p.figs.length) * 3) .any) (sl' := [(1, .ptr 2 0), (2, .ptr 3 0)]) rfl (by simp) (fun q hq => by obtain ⟨x, _, rfl⟩ := List.mem_map.1 hq; rfl) (fun q hq => ?_) (FzH.same _ (by decide) (FzH.same _ (by decide) (FzH.cells (by decide) (FzL.cons (Fz.same _) (FzL.cons (Fz.same _) (FzL.cons Fz.frozen (FzL.cons (Fz.same _) FzL.nil)))) (FzH.same _ (by decide) (FzH.same _ (by decide) (FzH.dead _ rfl (FzH.same _ (by decide) (FzH.nil _))))))))) ?_
  ·simp only [List.mem_cons, List.not_mem_nil, or_false] at hq; rcases hq with rfl | rfl <;> exact Fz.same _
  refine nz ?_
  refine aw_sub (sub_freeze (j := 6) (n := p.scs.length) (cap := c3) (sz := 4) (es := p.scs.map scC) (rest := List.replicate ((c3 - p.scs.length) * 4) .any) (sl' := [(1, .ptr 2 0), (2, .ptr 3 0)]) rfl (by simp) (fun q hq => by obtain ⟨x, _, rfl⟩ := List.mem_map.1 hq; rfl) (fun q hq => ?_) (FzH.same _ (by decide) (FzH.same _ (by decide) (FzH.cells (by decide) (FzL.cons (Fz.same _) (FzL.cons (Fz.same _) (FzL.cons (Fz.same _) (FzL.cons Fz.frozen FzL.nil)))) (FzH.same _ (by decide) (FzH.same _ (by decide) (FzH.same _ (by decide) (FzH.dead _ rfl (FzH.nil _))))))))) ?_
  ·simp only [List.mem_cons, List.not_mem_nil, or_false] at hq; rcases hq with rfl | rfl <;> exact Fz.same _
  refine nz ?_
  refine wz 2 ?_
  exact ⟨rfl, _, rfl, c1, _, _, hc1, rfl, rfl⟩
theorem copH2_call {p : Ply} {o0 : AObj} {o1 : AObj} (hh : 0 < p.hts.length ∧ p.hts.length ≤ 1000000) (hf : 0 < p.figs.length ∧ p.figs.length ≤ 1000000) (hs : 0 < p.scs.length ∧ p.scs.length ≤ 1000000) : ACall Tryz.prog 59 [plA p] [o0, o1] (fun y H' => ∃ cap, p.hts.length ≤ cap ∧ y = .ret (.agg [I p.left, .msl 4 0 p.hts.length cap, fgs p.figs, scs p.scs]) ∧ H' = [o0, o1, .dead, .dead, .cells ((p.hts.map (fun x => [I x])).flatten ++ List.replicate ((cap - p.hts.length) * 1) .any), .dead, .dead]) :=
  acall_wk (copH2_call0 hh hf hs) fun y H1 ⟨cap, l1, l2, hcap, hy, hH⟩ => ⟨_, _, _, hy, Less.rfl' _, by subst hH; exact .cons (.same _) (.cons (.same _) (.cons (.dead _) (.cons (.dead _) (.cons (.same _) (.cons (.same _) (.cons (.same _) (.nil))))))), cap, hcap, rfl, rfl⟩
end Go.Proofs.YtfmpabgblbbcdaaGreatDoor
namespace Go.Proofs.YtfmpabgblbbcdaaGreatDoor
open Go Go.Ab Ni St
open Hd hiding sz
instance en40 : EnT Tryz.prog 40 := ⟨Ent.of Tryz.func40 (by kernel_rfl) rfl⟩
instance en42 : EnT Tryz.prog 42 := ⟨Ent.of Tryz.func42 (by kernel_rfl) rfl⟩
theorem row_at {R : List AV} {j : Nat} (hj : j < 4) : ∀ {k : Nat} {l : List Scn} (hk : k < l.length), ((l.map scC).flatten ++ R)[0 + k * 4 + j]? = (scC l[k])[j]?
  | 0, x :: l, _ => by
    rw [List.map_cons, List.flatten_cons, List.append_assoc, List.getElem?_append_left (by show 0 + 0 * 4 + j < 4; omega)]
    rw [show 0 + 0 * 4 + j = j by omega]; rfl
  | k + 1, x :: l, hk => by
    have ih := row_at (R := R) hj (k := k) (l := l) (by simpa using hk)
    rw [List.map_cons, List.flatten_cons, List.append_assoc, List.getElem?_append_right (by show 4 ≤ 0 + (k + 1) * 4 + j; omega)]
    have e : 0 + (k + 1) * 4 + j - (scC x).length = 0 + k * 4 + j := by show _ - 4 = _; omega
    rw [e]; exact ih
theorem row_set {R : List AV} {j : Nat} (hj : j < 4) {v : AV} {x' : Scn} : ∀ {k : Nat} {l : List Scn} (hk : k < l.length), scC x' = (scC l[k]).set j v → ((l.map scC).flatten ++ R).set (0 + k * 4 + j) v = ((l.set k x').map scC).flatten ++ R
  | 0, x :: l, _, h => by
    rw [List.map_cons, List.flatten_cons, List.append_assoc, show 0 + 0 * 4 + j = j by omega, List.set_append_left _ _ (by show j < 4; omega)]
    rw [List.set_cons_zero, List.map_cons, List.flatten_cons, List.append_assoc]
    rw [h]; rfl
  | k + 1, x :: l, hk, h => by
    have ih := row_set (R := R) hj (v := v) (x' := x') (k := k) (l := l) (by simpa using hk) h
    rw [List.map_cons, List.flatten_cons, List.append_assoc, List.set_append_right _ _ (by show 4 ≤ 0 + (k + 1) * 4 + j; omega)]
    have e : 0 + (k + 1) * 4 + j - (scC x).length = 0 + k * 4 + j := by show _ - 4 = _; omega
    rw [e, ih, List.set_cons_succ, List.map_cons, List.flatten_cons, List.append_assoc]
theorem fl_fld (l : List Scn) (R : List AV) {k j : Nat} (hk : k < l.length) (hj : j < 4) (v : AV) (x' : Scn) (h : scC x' = (scC l[k]).set j v) :
    ((l.map scC).flatten ++ R).take (0 + k * 4 + j) ++ [v] ++ ((l.map scC).flatten ++ R).drop (0 + k * 4 + j + 1) = ((l.set k x').map scC).flatten ++ R := by
  have hl : ((l.map scC).flatten).length = l.length * 4 := fl_len (f := scC) (sz := 4) (fun a => rfl) l
  rw [← row_set hj hk h, List.set_eq_take_append_cons_drop, if_pos (by rw [List.length_append, hl]; omega)]
  simp
theorem row_len (l : List Scn) (R : List AV) {k j : Nat} (hk : k < l.length) (hj : j < 4) : Nat.ble (0 + k * 4 + j + 1) ((l.map scC).flatten ++ R).length = true :=
  Nat.ble_eq_true_of_le (by rw [List.length_append, fl_len (f := scC) (sz := 4) (fun a => rfl)]; omega)
theorem fld2 {a b : Nat} {v : AV} {M N O : List AV} (h1 : M = N) (h2 : N.take a ++ [v] ++ N.drop b = O) : M.take a ++ [v] ++ M.drop b = O := by rw [h1]; exact h2
theorem pl_bd {p : Ply} (B : PlB p) : (0 < p.hts.length ∧ p.hts.length ≤ 1000000) ∧ (0 < p.figs.length ∧ p.figs.length ≤ 1000000) ∧ (0 < p.scs.length ∧ p.scs.length ≤ 1000000) := by
  have := B.nh; have := B.nf; have := B.ns; omega
def cutM (F : List Int) (x : Scn) : Scn := { x with moved := cutN F x.moved }
theorem rlow_pure {p : Ply} (gP : PlB p) {n : Nat} (hn : n < 10) : APure Tryz.prog 42 [plA p, I n] (plA (lowP p n)) := by
  refine ap Tryz.func42 (fun e0 he0 => ?_)
  refine aw_seq ?_
  have hnh := gP.nh
  refine wz 3 ?_
  refine sq_call (args := [plA p]) rfl en59.h jz ⟨jz, trivial⟩ (copH2_call (pl_bd gP).1 (pl_bd gP).2.1 (pl_bd gP).2.2) ?_ (by rintro v H' ⟨_, _, h, _⟩; cases h)
  rintro v H' ⟨cap, hcap, h, rfl⟩
  cases h
  refine wz 2 ?_
  refine aw_loopk (ι := { i : Nat // i ≤ p.hts.length }) [1, 2, 4] (fun g => [(5, I (g.1 : Nat))]) (fun H g => [.cells [I p.left, .msl 4 0 p.hts.length cap, fgs p.figs, scs p.scs], .cells [I 0, .raw (.slice none 0 0), .raw (.slice none 0 0), .raw (.slice none 0 0)], .dead, .dead, .cells (((lowK p n g.1).map fun x => [I x]).flatten ++ List.replicate ((cap - p.hts.length) * 1) .any), .dead, .dead]) (fun g => p.hts.length - g.1) (⟨0, Nat.zero_le _⟩) ⟨jz, jz, jz, jz, trivial⟩ (by show _ = _; rw [lowK_zero]; rfl) ?_
  rintro ⟨i, hi⟩
  refine nz ?_
  refine wz 3 ?_
  refine sq_ev rfl (ev_len_msl sl22.h jz) ?_
  refine wz 1 ?_
  refine iz (fun c_12 c_12' => ?_) (fun c_12 c_12' => ?_)
  ·have hil : i < p.hts.length := by omega
   have hbh := gP.ht _ (List.getElem_mem hil)
   have eR := (fl_set (f := fun x => [I x]) (sz := 1) (fun a => rfl) (lowK p n i) (List.replicate ((cap - p.hts.length) * 1) AV.any) (i := i) (by rw [lowK_len (by omega)]; exact hil) (p.hts[i] - (n : Int))).trans (by rw [← lowK_succ hil])
   refine wz 0 ?_
   refine aw_draw 11 mo (by kernel_rfl) ?_
   refine dz 6 ?_
   refine dr_ev rfl (ev_index_msl (k := i) sl22.h jz jz rfl hil) ?_
   refine dr_ev rfl (ev_load (v := I p.hts[i]) jz rfl ty3.h (hts_row hil)) ?_
   refine dz 1 ?_
   refine dr_ev rfl (ev_sub (q := p.hts[i] - n) jz jz (wr (by omega) (by omega))) ?_
   refine dr_ev rfl (ev_index_msl (k := i) sl22.h jz jz rfl hil) ?_
   refine dr_end ?_
   refine sq_store (j := 4) (off := 0 + i * 1) rfl jz jz rfl rfl ty3.h rfl (Nat.ble_eq_true_of_le (by rw [List.length_append, fl_len (f := fun x => [I x]) (sz := 1) (fun a => rfl), lowK_len (by omega)]; omega)) ?_
   refine wz 3 ?_
   exact ⟨⟨i + 1, by omega⟩, by simp only; omega, sb 7 ⟨jz, jz, jz, jz, trivial⟩ (hH := (congrArg (fun L => [AObj.cells [I p.left, .msl 4 0 p.hts.length cap, fgs p.figs, scs p.scs], AObj.cells [I 0, .raw (.slice none 0 0), .raw (.slice none 0 0), .raw (.slice none 0 0)], AObj.dead, AObj.dead, AObj.cells L, AObj.dead, AObj.dead]) eR)) (h2 := (by simp [objsIn, AObj.inB, AV.inB, AV.inL, inL_row]))⟩
  obtain rfl : i = p.hts.length := by omega
  refine aw_exit ?_
  refine aw_seq ?_
  rw [lowK_all]
  refine aw_sub (sub_freeze (j := 4) (n := p.hts.length) (cap := cap) (sz := 1) (es := (lowP p n).hts.map fun x => [I x]) (rest := List.replicate ((cap - p.hts.length) * 1) .any) (sl' := [(2, .ptr 0 0), (4, .ptr 1 0)]) rfl (by simp [lowP]) (fun q hq => by obtain ⟨x, _, rfl⟩ := List.mem_map.1 hq; rfl) (fun q hq => ?_) (FzH.cells (by decide) (FzL.cons (Fz.same _) (FzL.cons Fz.frozen (FzL.cons (Fz.same _) (FzL.cons (Fz.same _) FzL.nil)))) (FzH.same _ (by decide) (FzH.same _ (by decide) (FzH.same _ (by decide) (FzH.dead _ rfl (FzH.same _ (by decide) (FzH.same _ (by decide) (FzH.nil _))))))))) ?_
  ·simp only [List.mem_cons, List.not_mem_nil, or_false] at hq; rcases hq with rfl | rfl <;> exact Fz.same _
  refine nz ?_
  refine wz 2 ?_
  exact retQ_res (vs := [.agg _]) rfl rfl ⟨resVar_cell rfl rfl ty26.h rfl, trivial⟩ jz
theorem rwithout_pure {p : Ply} (gP : PlB p) {F : List Int} (hF : F.length ≤ 1000000) : APure Tryz.prog 40 [plA p, ints F] (plA (outP p F)) := by
  refine ap Tryz.func40 (fun e0 he0 => ?_)
  refine wz 3 ?_
  refine sq_call (args := [plA p]) rfl en59.h jz ⟨jz, trivial⟩ (copS2_call (pl_bd gP).1 (pl_bd gP).2.1 (pl_bd gP).2.2) ?_ (by rintro v H' ⟨_, _, h, _⟩; cases h)
  rintro v H' ⟨cap, hcap, h, rfl⟩
  cases h
  refine wz 2 ?_
  refine aw_loopk (ι := { k : Nat // k ≤ p.scs.length }) [1, 2, 4] (fun g => [(5, I (g.1 : Nat))]) (fun H g => [.cells [I p.left, ints p.hts, fgs p.figs, .msl 6 0 p.scs.length cap], .cells [I 0, .raw (.slice none 0 0), .raw (.slice none 0 0), .raw (.slice none 0 0)], .dead, .dead, .dead, .dead, .cells (((outK p F g.1).map scC).flatten ++ List.replicate ((cap - p.scs.length) * 4) .any)]) (fun g => p.scs.length - g.1) (⟨0, Nat.zero_le _⟩) ⟨jz, jz, jz, jz, trivial⟩ (by show _ = _; rw [outK_zero]; rfl) ?_
  rintro ⟨k, hk⟩
  refine nz ?_
  refine wz 3 ?_
  refine sq_ev rfl (ev_len_msl sl24.h jz) ?_
  refine wz 1 ?_
  refine iz (fun c_12 c_12' => ?_) (fun c_12 c_12' => ?_)
  ·have hkl : k < p.scs.length := by omega
   have e1 := fl_fld (outK p F k) (List.replicate ((cap - p.scs.length) * 4) AV.any) (k := k) (j := 0) (by rw [outK_len (by omega)]; exact hkl) (by decide) (ints (cutN F p.scs[k].moved)) (cutM F p.scs[k]) (by rw [outK_get (F := F) hkl]; rfl)
   have eR := fld2 e1 ((fl_fld ((outK p F k).set k (cutM F p.scs[k])) (List.replicate ((cap - p.scs.length) * 4) AV.any) (k := k) (j := 1) (by rw [List.length_set]; exact (by rw [outK_len (by omega)]; exact hkl)) (by decide) (ints (cutN F p.scs[k].rest)) (cutX F p.scs[k]) (by rw [List.getElem_set_self]; rfl)).trans (by rw [List.set_set, ← outK_succ hkl]))
   refine aw_skip ?_
   refine aw_seq ?_
   refine aw_block ?_
   have hns := gP.ns
   have gX := gP.sc _ (List.getElem_mem hkl)
   have hml := rising_len gX.mv
   have hrl := rising_len gX.rs
   have hnf := gP.nf
   have eRw := outK_get (F := F) hkl
   refine aw_drawl [(24, 6), (27, 6)] mo (by kernel_rfl) ?_
   first | refine dl_ev [6] rfl (by kernel_rfl) (ev_fieldAddr fo26_3.h jz) ?_ | refine dl_ev [6] rfl (by kernel_rfl) (ev_fieldAddr_i fo26_3.h jz) ?_
   first | refine dl_ev [6] rfl (by kernel_rfl) (ev_load jz rfl ty24.h rfl) ?_ | refine dl_ev [6] rfl (by kernel_rfl) (ev_load_i jz ty24.h rfl) ?_
   refine dl_ev [6] rfl (by kernel_rfl) (ev_mv (v := .raw _) jz) ?_
   first | refine dl_ev [6] rfl (by kernel_rfl) (ev_fieldAddr fo26_3.h jz) ?_ | refine dl_ev [6] rfl (by kernel_rfl) (ev_fieldAddr_i fo26_3.h jz) ?_
   first | refine dl_ev [6] rfl (by kernel_rfl) (ev_load jz rfl ty24.h rfl) ?_ | refine dl_ev [6] rfl (by kernel_rfl) (ev_load_i jz ty24.h rfl) ?_
   refine dl_ev [6] rfl (by kernel_rfl) (ev_mv (v := .raw _) jz) ?_
   first | refine dl_ev [6] rfl (by kernel_rfl) (ev_fieldAddr fo26_3.h jz) ?_ | refine dl_ev [6] rfl (by kernel_rfl) (ev_fieldAddr_i fo26_3.h jz) ?_
   first | refine dl_ev [6] rfl (by kernel_rfl) (ev_load jz rfl ty24.h rfl) ?_ | refine dl_ev [6] rfl (by kernel_rfl) (ev_load_i jz ty24.h rfl) ?_
   refine dl_ev [6] rfl (by kernel_rfl) (ev_mv (v := .raw _) jz) ?_
   refine dl_ev [6] rfl (by kernel_rfl) (ev_index_msl (k := k) sl24.h jz jz rfl hkl) ?_
   first | refine dl_ev [6] rfl (by kernel_rfl) (ev_fieldAddr fo41_0.h jz) ?_ | refine dl_ev [6] rfl (by kernel_rfl) (ev_fieldAddr_i fo41_0.h jz) ?_
   refine dl_ev [] rfl (by kernel_rfl) (ev_load (v := ints p.scs[k].moved) jz rfl ty22.h (by rw [row_at (j := 0) (by decide) (by rw [outK_len (by omega)]; exact hkl), eRw]; rfl)) ?_
   first | refine dl_ev [6] rfl (by kernel_rfl) (ev_mv (v := .sl _ _) jz) ?_ | refine dl_ev [6] rfl (by kernel_rfl) (ev_mv (v := .own _ _ _) jz) ?_ | refine dl_ev [6] rfl (by kernel_rfl) (ev_mv (v := .raw _) jz) ?_ | refine dl_ev [6] rfl (by kernel_rfl) (ev_mv (v := .slx _ _) jz) ?_ | refine dl_ev [6] rfl (by kernel_rfl) (ev_mv (v := .msl _ _ _ _) jz) ?_
   refine dl_ev [6] rfl (by kernel_rfl) (ev_call en96.h jz (rcut_pure F p.scs[k].moved hF (by omega)) ⟨jz, jz, trivial⟩) ?_
   first | refine dl_ev [6] rfl (by kernel_rfl) (ev_fieldAddr fo26_3.h jz) ?_ | refine dl_ev [6] rfl (by kernel_rfl) (ev_fieldAddr_i fo26_3.h jz) ?_
   first | refine dl_ev [6] rfl (by kernel_rfl) (ev_load jz rfl ty24.h rfl) ?_ | refine dl_ev [6] rfl (by kernel_rfl) (ev_load_i jz ty24.h rfl) ?_
   refine dl_ev [6] rfl (by kernel_rfl) (ev_mv (v := .raw _) jz) ?_
   refine dl_ev [6] rfl (by kernel_rfl) (ev_index_msl (k := k) sl24.h jz jz rfl hkl) ?_
   first | refine dl_ev [6] rfl (by kernel_rfl) (ev_fieldAddr fo41_1.h jz) ?_ | refine dl_ev [6] rfl (by kernel_rfl) (ev_fieldAddr_i fo41_1.h jz) ?_
   refine dl_ev [] rfl (by kernel_rfl) (ev_load (v := ints p.scs[k].rest) jz rfl ty22.h (by rw [row_at (j := 1) (by decide) (by rw [outK_len (by omega)]; exact hkl), eRw]; rfl)) ?_
   first | refine dl_ev [6] rfl (by kernel_rfl) (ev_mv (v := .sl _ _) jz) ?_ | refine dl_ev [6] rfl (by kernel_rfl) (ev_mv (v := .own _ _ _) jz) ?_ | refine dl_ev [6] rfl (by kernel_rfl) (ev_mv (v := .raw _) jz) ?_ | refine dl_ev [6] rfl (by kernel_rfl) (ev_mv (v := .slx _ _) jz) ?_ | refine dl_ev [6] rfl (by kernel_rfl) (ev_mv (v := .msl _ _ _ _) jz) ?_
   refine dl_ev [6] rfl (by kernel_rfl) (ev_call en96.h jz (rcut_pure F p.scs[k].rest hF (by omega)) ⟨jz, jz, trivial⟩) ?_
   refine dl_ev [6] rfl (by kernel_rfl) (ev_index_msl (k := k) sl24.h jz jz rfl hkl) ?_
   first | refine dl_ev [6] rfl (by kernel_rfl) (ev_fieldAddr fo41_0.h jz) ?_ | refine dl_ev [6] rfl (by kernel_rfl) (ev_fieldAddr_i fo41_0.h jz) ?_
   refine dl_eff rfl (by kernel_rfl) rfl rfl (effl_store (off := 0 + k * 4 + 0) rfl jz jz rfl ty22.h rfl (row_len (outK p F k) _ (j := 0) (by rw [outK_len (by omega)]; exact hkl) (by decide))) ?_
   refine dl_ev [6] rfl (by kernel_rfl) (ev_index_msl (k := k) sl24.h jz jz rfl hkl) ?_
   first | refine dl_ev [6] rfl (by kernel_rfl) (ev_fieldAddr fo41_1.h jz) ?_ | refine dl_ev [6] rfl (by kernel_rfl) (ev_fieldAddr_i fo41_1.h jz) ?_
   refine dl_eff rfl (by kernel_rfl) rfl rfl (effl_store (off := 0 + k * 4 + 1) rfl jz jz rfl ty22.h rfl ((congrArg (fun l => Nat.ble (0 + k * 4 + 1 + 1) l.length) e1).trans (row_len ((outK p F k).set k (cutM F p.scs[k])) _ (j := 1) (by rw [List.length_set]; exact (by rw [outK_len (by omega)]; exact hkl)) (by decide)))) ?_
   refine dl_nil ?_
   refine nz ?_
   refine wz 3 ?_
   exact ⟨⟨k + 1, by omega⟩, by simp only; omega, sb 7 ⟨jz, jz, jz, jz, trivial⟩ (hH := (congrArg (fun L => [_, _, _, _, _, _, AObj.cells L]) eR)) (h2 := (by simp [objsIn, AObj.inB, AV.inB, AV.inL, inL_rowS]))⟩
  obtain rfl : k = p.scs.length := by omega
  refine aw_exit ?_
  refine aw_seq ?_
  rw [outK_all]
  refine aw_sub (sub_freeze (j := 6) (n := p.scs.length) (cap := cap) (sz := 4) (es := (outP p F).scs.map scC) (rest := List.replicate ((cap - p.scs.length) * 4) .any) (sl' := [(2, .ptr 0 0), (4, .ptr 1 0)]) rfl (by simp [outP]) (fun q hq => by obtain ⟨x, _, rfl⟩ := List.mem_map.1 hq; rfl) (fun q hq => ?_) (FzH.cells (by decide) (FzL.cons (Fz.same _) (FzL.cons (Fz.same _) (FzL.cons (Fz.same _) (FzL.cons Fz.frozen FzL.nil)))) (FzH.same _ (by decide) (FzH.same _ (by decide) (FzH.same _ (by decide) (FzH.same _ (by decide) (FzH.same _ (by decide) (FzH.dead _ rfl (FzH.nil _))))))))) ?_
  ·simp only [List.mem_cons, List.not_mem_nil, or_false] at hq; rcases hq with rfl | rfl <;> exact Fz.same _
  refine nz ?_
  refine wz 2 ?_
  exact retQ_res (vs := [.agg _]) rfl rfl ⟨resVar_cell rfl rfl ty26.h rfl, trivial⟩ jz
end Go.Proofs.YtfmpabgblbbcdaaGreatDoor
namespace Go.Proofs.YtfmpabgblbbcdaaGreatDoor
open Go Go.Ab Ni St
open Hd hiding sz
theorem ok_lens {p : Ply} (h : plOK p = true) : p.hts.length ≤ 1000000 ∧ p.figs.length ≤ 1000000 ∧ p.scs.length ≤ 1000000 ∧ ∀ x ∈ p.scs, x.moved.length ≤ 1000000 ∧ x.rest.length ≤ 1000000 ∧ x.taken.length ≤ 1000000 := by
  have B := plOK_B h
  have := B.nh; have := B.nf; have := B.ns
  refine ⟨by omega, by omega, by omega, fun x hx => ?_⟩
  have X := B.sc x hx
  have h1 := rising_len X.mv; have h2 := rising_len X.rs; have h3 := rising_len X.tk
  omega
end Go.Proofs.YtfmpabgblbbcdaaGreatDoor
namespace Go.Proofs.YtfmpabgblbbcdaaGreatDoor
open Go Go.Ab Ni St
open Hd hiding sz
theorem fg_t {p : Ply} {n : Int} (hs : shB p = true) (h : fgIn p n = true) : APure Tryz.prog 48 [plA p, I n] (B true) := by have q := rfig_pure p n (shB_len hs).2.1; rw [h] at q; exact q
theorem fg_f {p : Ply} {n : Int} (hs : shB p = true) (h : fgIn p n = false) : APure Tryz.prog 48 [plA p, I n] (B false) := by have q := rfig_pure p n (shB_len hs).2.1; rw [h] at q; exact q
end Go.Proofs.YtfmpabgblbbcdaaGreatDoor
namespace Go.Proofs.YtfmpabgblbbcdaaGreatDoor
open Go Go.Ab Ni St
open Hd hiding sz
theorem aw_join {c : Ctx} {Q : AExit → St → Prop} {s : St} (V : List (Nat × AV)) (ks : List Nat) {a b : Code} (ha : AWP c a (AExit.then (fun s' => LessS s'.sl (V ++ keepS s.sl ks) ∧ s'.H = s.H ∧ s'.df = s.df) Q) s)
    (hb : AWP c b Q ⟨V ++ keepS s.sl ks, s.H, s.df⟩) : AWP c a (AExit.then (AWP c b Q) Q) s := by
  refine AWP.mono ha fun ax s' h => ?_
  cases ax with
  | normal =>
    obtain ⟨h1, h2, h3⟩ := h
    have h4 := aw_less (s := s') (Q := Q) (code := b) _ h1.all (by rw [h2, h3]; exact hb)
    exact h4
  | _ => exact h
theorem low_pl {p : Ply} (hr : plOK p = true) (n : Nat) : APure Tryz.prog 22 [plA (lowP p n)] (B (plOK (lowP p n))) := by
  have L := ok_lens hr
  exact rplay_pure (lowP p n) (by show (p.hts.map _).length ≤ 1000000; rw [List.length_map]; exact L.1) L.2.1 L.2.2.1 L.2.2.2
theorem can_out {p : Ply} (hr : plOK p = true) {k : Nat} (hk : k < p.scs.length) (F : List Int) : APure Tryz.prog 49 [plA (outP p F), I k] (.tup [B (St.can p (cutX F (sc p k))), I 0]) := by
  have h := out_OK hr F
  have L := ok_lens h
  have q := xcan_ok (p := outP p F) L.1 L.2.1 L.2.2.1 L.2.2.2 (k := k) (by show k < (p.scs.map _).length; rw [List.length_map]; exact hk) h
  rw [out_sc hk] at q; exact q
theorem rests_set {p : Ply} (hr : plOK p = true) {k : Nat} (hk : k < p.scs.length) {l : List Int} (hl : l.length ≤ 10) (hd : plsOK p (sc p k) l = true) : APure Tryz.prog 58 [plA (setS p k (freeX (sc p k))), I k, ints l] (.tup [B (suits true p (freeX (sc p k)) l), I 0]) := by
  have h := free_OK hr hk
  have L := ok_lens h
  have e := setS_sc (p := p) (x := freeX (sc p k)) hk
  have q := xrests_ok (p := setS p k (freeX (sc p k))) L.1 L.2.1 L.2.2.1 L.2.2.2 (k := k) (by show k < (p.scs.set k _).length; rw [List.length_set]; exact hk) h (l := l) (by omega) (by rw [e]; exact hd)
  rw [e] at q; exact q
theorem rests_low {p : Ply} {n : Nat} (hr : plOK (lowP p n) = true) {k : Nat} (hk : k < p.scs.length) {l : List Int} (hl : l.length ≤ 10) (hd : plsOK p (sc p k) l = true) : APure Tryz.prog 58 [plA (lowP p n), I k, ints l] (.tup [B (suits true (lowP p n) (sc p k) l), I 0]) := by
  have L := ok_lens hr
  have eh : (lowP p n).hts.length = p.hts.length := by show (p.hts.map _).length = _; rw [List.length_map]
  have hd2 : plsOK (lowP p n) (sc p k) l = true := by
    obtain ⟨h1, h2⟩ := plsOK_iff.1 hd
    exact plsOK_iff.2 ⟨h1, by rw [eh]; exact h2⟩
  exact xrests_ok (p := lowP p n) L.1 L.2.1 L.2.2.1 L.2.2.2 (k := k) hk hr (l := l) (by omega) hd2
theorem copS1_call0 {p : Ply} {o0 : AObj} (hh : 0 < p.hts.length ∧ p.hts.length ≤ 1000000) (hf : 0 < p.figs.length ∧ p.figs.length ≤ 1000000) (hs : 0 < p.scs.length ∧ p.scs.length ≤ 1000000) : ACall Tryz.prog 59 [plA p] [o0] (fun y H' => ∃ cap l1 l2, p.scs.length ≤ cap ∧ y = .ret (.agg [I p.left, ints p.hts, fgs p.figs, .msl 5 0 p.scs.length cap]) ∧ H' = [o0, .cells l1, .cells l2, .dead, .dead, .cells ((p.scs.map scC).flatten ++ List.replicate ((cap - p.scs.length) * 4) .any)]) := by
  refine acall_of (rs := [.cell 2 26]) Tryz.func59 rfl rfl (Nat.le_of_ble_eq_true rfl) fun e0 he0 => ?_
  refine wz 4 ?_
  refine sq_append_msl2 rfl sf22.h Tryz.underlying22 (less_nilx _) jz (by simpa using hh.1) (by simp; omega) (by simp; omega) (fun c1 hc1 hc1b => ?_)
  simp only [List.length_map] at hc1 hc1b ⊢
  refine nz ?_
  refine wz 4 ?_
  refine sq_append_msl2 rfl sf23.h Tryz.underlying23 (less_nilx _) jz (by simpa using hf.1) (by simp; omega) (by simp; omega) (fun c2 hc2 hc2b => ?_)
  simp only [List.length_map] at hc2 hc2b ⊢
  refine nz ?_
  refine wz 4 ?_
  refine sq_append_msl2 rfl sf24.h Tryz.underlying24 (less_nilx _) jz (by simpa using hs.1) (by simp; omega) (by simp; omega) (fun c3 hc3 hc3b => ?_)
  simp only [List.length_map] at hc3 hc3b ⊢
  refine nz ?_
  refine vz 2 ?_
  refine sq_nil ?_
  refine aw_seq ?_
  refine aw_sub (sub_freeze (j := 3) (n := p.hts.length) (cap := c1) (sz := 1) (es := p.hts.map (fun x => [I x])) (rest := List.replicate ((c1 - p.hts.length) * 1) .any) (sl' := [(1, .ptr 1 0), (2, .ptr 2 0)]) rfl (by simp) (fun q hq => by obtain ⟨x, _, rfl⟩ := List.mem_map.1 hq; rfl) (fun q hq => ?_) (FzH.same _ (by decide) (FzH.cells (by decide) (FzL.cons (Fz.same _) (FzL.cons Fz.frozen (FzL.cons (Fz.same _) (FzL.cons (Fz.same _) FzL.nil)))) (FzH.same _ (by decide) (FzH.dead _ rfl (FzH.same _ (by decide) (FzH.same _ (by decide) (FzH.nil _)))))))) ?_
  ·simp only [List.mem_cons, List.not_mem_nil, or_false] at hq; rcases hq with rfl | rfl <;> exact Fz.same _
  refine nz ?_
  refine aw_sub (sub_freeze (j := 4) (n := p.figs.length) (cap := c2) (sz := 3) (es := p.figs.map fgC) (rest := List.replicate ((c2 - p.figs.length) * 3) .any) (sl' := [(1, .ptr 1 0), (2, .ptr 2 0)]) rfl (by simp) (fun q hq => by obtain ⟨x, _, rfl⟩ := List.mem_map.1 hq; rfl) (fun q hq => ?_) (FzH.same _ (by decide) (FzH.cells (by decide) (FzL.cons (Fz.same _) (FzL.cons (Fz.same _) (FzL.cons Fz.frozen (FzL.cons (Fz.same _) FzL.nil)))) (FzH.same _ (by decide) (FzH.same _ (by decide) (FzH.dead _ rfl (FzH.same _ (by decide) (FzH.nil _)))))))) ?_
  ·simp only [List.mem_cons, List.not_mem_nil, or_false] at hq; rcases hq with rfl | rfl <;> exact Fz.same _
  refine nz ?_
  refine wz 2 ?_
  exact ⟨rfl, _, rfl, c3, _, _, hc3, rfl, rfl⟩
theorem copS1_call {p : Ply} {o0 : AObj} (hh : 0 < p.hts.length ∧ p.hts.length ≤ 1000000) (hf : 0 < p.figs.length ∧ p.figs.length ≤ 1000000) (hs : 0 < p.scs.length ∧ p.scs.length ≤ 1000000) : ACall Tryz.prog 59 [plA p] [o0] (fun y H' => ∃ cap, p.scs.length ≤ cap ∧ y = .ret (.agg [I p.left, ints p.hts, fgs p.figs, .msl 5 0 p.scs.length cap]) ∧ H' = [o0, .dead, .dead, .dead, .dead, .cells ((p.scs.map scC).flatten ++ List.replicate ((cap - p.scs.length) * 4) .any)]) :=
  acall_wk (copS1_call0 hh hf hs) fun y H1 ⟨cap, l1, l2, hcap, hy, hH⟩ => ⟨_, _, _, hy, Less.rfl' _, by subst hH; exact .cons (.same _) (.cons (.dead _) (.cons (.dead _) (.cons (.same _) (.cons (.same _) (.cons (.same _) (.nil)))))), cap, hcap, rfl, rfl⟩
theorem law14_a {p : Ply} {n : Int} {l : List Int} {d g : Int} (hs : shB p = false) : APure Tryz.prog 14 [plA p, I n, ints l, I d, I g] (B true) := by
  refine ap Tryz.func14 (fun e0 he0 => ?_)
  refine wz 3 ?_
  refine kz az (short_f hs) ?_
  refine wz 39 ?_
  refine kz az (known_pure) ?_
  refine wz 1 ?_
  exact rz rfl jz
theorem law14_b {p : Ply} {n : Int} {l : List Int} {d g : Int} (hs : shB p = true) (hl : ¬ l.length ≤ 10) : APure Tryz.prog 14 [plA p, I n, ints l, I d, I g] (B true) := by
  refine ap Tryz.func14 (fun e0 he0 => ?_)
  refine wz 3 ?_
  refine kz az (short_t hs) ?_
  refine wz 7 ?_
  refine sz 31 (fun g1_8 g1_8' => ?_) (fun g1_8 g1_8' => ?_)
  ·refine wz 32 ?_
   refine kz az (known_pure) ?_
   refine wz 1 ?_
   exact rz rfl jz
  exfalso
  omega
theorem law14_c {p : Ply} {n : Int} {l : List Int} {d g : Int} (hs : shB p = true) (hl : l.length ≤ 10) (hr : plOK p = false) : APure Tryz.prog 14 [plA p, I n, ints l, I d, I g] (B true) := by
  refine ap Tryz.func14 (fun e0 he0 => ?_)
  refine wz 3 ?_
  refine kz az (short_t hs) ?_
  refine wz 7 ?_
  refine sz 31 (fun g1_8 g1_8' => ?_) (fun g1_8 g1_8' => ?_)
  ·exfalso
   omega
  refine wz 1 ?_
  refine ky az (pl_f hs hr) ?_
  refine wz 30 ?_
  refine kz az (known_pure) ?_
  refine wz 1 ?_
  exact rz rfl jz
theorem law14_d {p : Ply} {n : Int} {l : List Int} {d g : Int} (hs : shB p = true) (hl : l.length ≤ 10) (hr : plOK p = true) (hi : scIn p n = false) : APure Tryz.prog 14 [plA p, I n, ints l, I d, I g] (B true) := by
  refine ap Tryz.func14 (fun e0 he0 => ?_)
  refine wz 3 ?_
  refine kz az (short_t hs) ?_
  refine wz 7 ?_
  refine sz 31 (fun g1_8 g1_8' => ?_) (fun g1_8 g1_8' => ?_)
  ·exfalso
   omega
  refine wz 1 ?_
  refine ky az (pl_t hs hr) ?_
  refine wz 5 ?_
  refine ky az (scn_f hs hi) ?_
  refine wz 24 ?_
  refine kz az (known_pure) ?_
  refine wz 1 ?_
  exact rz rfl jz
theorem law14_e {p : Ply} {k : Nat} {l : List Int} {d g : Int} (hs : shB p = true) (hl : l.length ≤ 10) (hr : plOK p = true) (hi : scIn p k = true) (hn : k < p.scs.length) (hd : plsOK p (sc p k) l = false) : APure Tryz.prog 14 [plA p, I k, ints l, I d, I g] (B true) := by
  refine ap Tryz.func14 (fun e0 he0 => ?_)
  refine wz 3 ?_
  refine kz az (short_t hs) ?_
  refine wz 7 ?_
  refine sz 31 (fun g1_8 g1_8' => ?_) (fun g1_8 g1_8' => ?_)
  ·exfalso
   omega
  refine wz 1 ?_
  refine ky az (pl_t hs hr) ?_
  refine wz 5 ?_
  refine ky az (scn_t hs hi) ?_
  refine wz 6 ?_
  refine ky az (list_f hs hr hn hl hd) ?_
  refine wz 17 ?_
  refine kz az (known_pure) ?_
  refine wz 1 ?_
  exact rz rfl jz
theorem law14_f {p : Ply} {k : Nat} {l : List Int} {d g : Int} (hs : shB p = true) (hl : l.length ≤ 10) (hr : plOK p = true) (hi : scIn p k = true) (hn : k < p.scs.length) (hd : plsOK p (sc p k) l = true) (h9 : d < 0) : APure Tryz.prog 14 [plA p, I k, ints l, I d, I g] (B true) := by
  refine ap Tryz.func14 (fun e0 he0 => ?_)
  refine wz 3 ?_
  refine kz az (short_t hs) ?_
  refine wz 7 ?_
  refine sz 31 (fun g1_8 g1_8' => ?_) (fun g1_8 g1_8' => ?_)
  ·exfalso
   omega
  refine wz 1 ?_
  refine ky az (pl_t hs hr) ?_
  refine wz 5 ?_
  refine ky az (scn_t hs hi) ?_
  refine wz 6 ?_
  refine ky az (list_t hs hr hn hl hd) ?_
  refine wz 7 ?_
  refine sz 53 (fun g1_30 g1_30' => ?_) (fun g1_30 g1_30' => ?_)
  ·refine wz 10 ?_
   refine kz az (known_pure) ?_
   refine wz 1 ?_
   exact rz rfl jz
  exfalso
  omega
theorem law14_g {p : Ply} {k : Nat} {l : List Int} {d g : Int} (hs : shB p = true) (hl : l.length ≤ 10) (hr : plOK p = true) (hi : scIn p k = true) (hn : k < p.scs.length) (hd : plsOK p (sc p k) l = true) (h9 : 9 < d) : APure Tryz.prog 14 [plA p, I k, ints l, I d, I g] (B true) := by
  refine ap Tryz.func14 (fun e0 he0 => ?_)
  refine wz 3 ?_
  refine kz az (short_t hs) ?_
  refine wz 7 ?_
  refine sz 31 (fun g1_8 g1_8' => ?_) (fun g1_8 g1_8' => ?_)
  ·exfalso
   omega
  refine wz 1 ?_
  refine ky az (pl_t hs hr) ?_
  refine wz 5 ?_
  refine ky az (scn_t hs hi) ?_
  refine wz 6 ?_
  refine ky az (list_t hs hr hn hl hd) ?_
  refine wz 7 ?_
  refine sz 53 (fun g1_30 g1_30' => ?_) (fun g1_30 g1_30' => ?_)
  ·exfalso
   omega
  refine wz 4 ?_
  refine sz 57 (fun g1_34 g1_34' => ?_) (fun g1_34 g1_34' => ?_)
  ·refine wz 6 ?_
   refine kz az (known_pure) ?_
   refine wz 1 ?_
   exact rz rfl jz
  exfalso
  omega
theorem law14_h {p : Ply} {k : Nat} {l : List Int} {d : Nat} {g : Int} (hs : shB p = true) (hl : l.length ≤ 10) (hr : plOK p = true) (hi : scIn p k = true) (hn : k < p.scs.length) (hd : plsOK p (sc p k) l = true) (h9 : d ≤ 9) (hg : fgIn p g = false) : APure Tryz.prog 14 [plA p, I k, ints l, I d, I g] (B true) := by
  refine ap Tryz.func14 (fun e0 he0 => ?_)
  refine wz 3 ?_
  refine kz az (short_t hs) ?_
  refine wz 7 ?_
  refine sz 31 (fun g1_8 g1_8' => ?_) (fun g1_8 g1_8' => ?_)
  ·exfalso
   omega
  refine wz 1 ?_
  refine ky az (pl_t hs hr) ?_
  refine wz 5 ?_
  refine ky az (scn_t hs hi) ?_
  refine wz 6 ?_
  refine ky az (list_t hs hr hn hl hd) ?_
  refine wz 7 ?_
  refine sz 53 (fun g1_30 g1_30' => ?_) (fun g1_30 g1_30' => ?_)
  ·exfalso
   omega
  refine wz 4 ?_
  refine sz 57 (fun g1_34 g1_34' => ?_) (fun g1_34 g1_34' => ?_)
  ·exfalso
   omega
  refine wz 2 ?_
  refine ky az (fg_f hs hg) ?_
  refine wz 3 ?_
  refine kz az (known_pure) ?_
  refine wz 1 ?_
  exact rz rfl jz
theorem law14_i {p : Ply} {k : Nat} {l : List Int} {d : Nat} {g : Int} (hs : shB p = true) (hl : l.length ≤ 10) (hr : plOK p = true) (hi : scIn p k = true) (hn : k < p.scs.length) (hd : plsOK p (sc p k) l = true) (h9 : d ≤ 9) (hg : fgIn p g = true) (hb : suits true p (sc p k) l = true) : APure Tryz.prog 14 [plA p, I k, ints l, I d, I g] (B true) := by
  refine ap Tryz.func14 (fun e0 he0 => ?_)
  refine wz 3 ?_
  refine kz az (short_t hs) ?_
  refine wz 7 ?_
  refine sz 31 (fun g1_8 g1_8' => ?_) (fun g1_8 g1_8' => ?_)
  ·exfalso
   omega
  refine wz 1 ?_
  refine ky az (pl_t hs hr) ?_
  refine wz 5 ?_
  refine ky az (scn_t hs hi) ?_
  refine wz 6 ?_
  refine ky az (list_t hs hr hn hl hd) ?_
  refine wz 7 ?_
  refine sz 53 (fun g1_30 g1_30' => ?_) (fun g1_30 g1_30' => ?_)
  ·exfalso
   omega
  refine wz 4 ?_
  refine sz 57 (fun g1_34 g1_34' => ?_) (fun g1_34 g1_34' => ?_)
  ·exfalso
   omega
  refine wz 2 ?_
  refine ky az (fg_t hs hg) ?_
  refine vz 3 ?_
  refine aw_skip ?_
  refine aw_seq ?_
  have esc := sc_at hn
  refine wz 3 ?_
  refine kz az (rests_e hs hr hn (by omega) hd hb) ?_
  refine wz 7 ?_
  refine kz az (xcan_ok (shB_len hs).1 (shB_len hs).2.1 (shB_len hs).2.2.1 (shB_len hs).2.2.2 hn hr) ?_
  refine wz 7 ?_
  refine sq_ev rfl (ev_buildSlice (es := [[_]]) sf22.h rfl rfl rfl rfl) ?_
  refine sq_ev rfl (ev_call en40.h jz (rwithout_pure (plOK_B hr) (F := [g]) (by simp)) ⟨jz, Less.trans (less_slx _ _) (Less.eq rfl), trivial⟩) ?_
  refine wz 1 ?_
  refine kz az (can_out hr hn [g]) ?_
  refine wz 6 ?_
  refine sq_call (args := [plA p]) rfl en59.h jz ⟨jz, trivial⟩ (copS1_call (pl_bd (plOK_B hr)).1 (pl_bd (plOK_B hr)).2.1 (pl_bd (plOK_B hr)).2.2) ?_ (by rintro v H' ⟨_, _, h, _⟩; cases h)
  rintro v H' ⟨cap, hcap, h, rfl⟩
  cases h
  refine wz 5 ?_
  refine sq_ev rfl (ev_index_msl (k := k) sl24.h jz jz rfl hn) ?_
  refine wz 1 ?_
  refine sq_store (a := ints []) (j := 5) (off := 0 + k * 4 + 3) rfl jz (less_nil 1) rfl rfl ty22.h rfl (row_len p.scs _ (j := 3) hn (by decide)) ?_
  refine sq_nil ?_
  refine aw_seq ?_
  refine aw_sub (sub_freeze (j := 5) (n := p.scs.length) (cap := cap) (sz := 4) (es := (p.scs.set k (freeX (sc p k))).map scC) (rest := List.replicate ((cap - p.scs.length) * 4) .any) (sl' := [(1, I k), (2, ints l), (3, I d), (5, .ptr 0 0), (11, B true), (12, I 0), (13, B (St.can p (sc p k))), (14, I 0), (15, B (St.can p (cutX [g] (sc p k)))), (16, I 0), (17, .ptr 6 0)]) (congrArg (fun l => some (AObj.cells l)) (fl_fld p.scs _ (j := 3) hn (by decide) (ints []) (freeX (sc p k)) (by rw [← esc]; rfl))) (by simp) (fun q hq => by obtain ⟨x, _, rfl⟩ := List.mem_map.1 hq; rfl) (fun q hq => ?_) (FzH.same _ (by decide) (FzH.same _ (by decide) (FzH.same _ (by decide) (FzH.same _ (by decide) (FzH.same _ (by decide) (FzH.dead _ rfl (FzH.cells (by decide) (FzL.cons (Fz.same _) (FzL.cons (Fz.same _) (FzL.cons (Fz.same _) (FzL.cons Fz.frozen FzL.nil)))) (FzH.nil _))))))))) ?_
  ·simp only [List.mem_cons, List.not_mem_nil, or_false] at hq; rcases hq with rfl | rfl | rfl | rfl | rfl | rfl | rfl | rfl | rfl | rfl | rfl <;> exact Fz.same _
  refine nz ?_
  refine wz 3 ?_
  refine kz az (rests_set hr hn hl hd) ?_
  refine vz 5 ?_
  refine sq_nil ?_
  refine aw_seq ?_
  refine aw_seq ?_
  refine aw_join [(127, B (!suits true p (freeX (sc p k)) l))] [1, 2, 3, 5, 11] ?_ ?_
  ·refine wz 17 ?_
   refine sz 116 (fun g9_16 g9_16' => ?_) (fun g9_16 g9_16' => ?_)
   ·have hst : St.can p (cutX [g] (sc p k)) = true := can_cut (plOK_B hr) (sc_B (plOK_B hr) hn) [g] (by simpa using g9_16)
    refine wz 5 ?_
    refine sz 121 (fun g9_21 g9_21' => ?_) (fun g9_21 g9_21' => ?_)
    ·exfalso
     first | (rw [hst] at g9_21; simp at g9_21; done) | (simp at g9_21; done)
    refine wz 6 ?_
    exact ⟨⟨jz, jz, jz, jz, jz, jz, trivial⟩, rfl, rfl⟩
   refine wz 11 ?_
   exact ⟨⟨jz, jz, jz, jz, jz, jz, trivial⟩, rfl, rfl⟩
  ·refine nz ?_
   refine iz (fun c_127 c_127' => ?_) (fun c_127 c_127' => ?_)
   ·exfalso
    rw [free_suits (plsOK_iff.1 hd).1 hb] at c_127
    simp at c_127
   refine wz 2 ?_
   refine kz az (rlow_pure (plOK_B hr) (n := d) (by omega)) ?_
   refine wz 3 ?_
   refine kz az (low_pl hr d) ?_
   refine wz 1 ?_
   refine iz (fun c_133 c_133' => ?_) (fun c_133 c_133' => ?_)
   ·refine wz 0 ?_
    refine kz az (known_pure) ?_
    refine wz 1 ?_
    exact rz rfl jz
   refine wz 3 ?_
   refine kz az (rests_low (by simpa using c_133) hn hl hd) ?_
   refine wz 10 ?_
   refine sz 146 (fun g15_4 g15_4' => ?_) (fun g15_4 g15_4' => ?_)
   ·refine wz 5 ?_
    refine ky az (known_pure) ?_
    refine wz 2 ?_
    exact rz rfl jz
   exfalso
   rw [low_suits (plsOK_iff.1 hd).1 (plsOK_iff.1 hd).2 hb] at g15_4
   simp at g15_4
theorem law14_j {p : Ply} {k : Nat} {l : List Int} {d : Nat} {g : Int} (hs : shB p = true) (hl : l.length ≤ 10) (hr : plOK p = true) (hi : scIn p k = true) (hn : k < p.scs.length) (hd : plsOK p (sc p k) l = true) (h9 : d ≤ 9) (hg : fgIn p g = true) (hb : suits true p (sc p k) l = false) : APure Tryz.prog 14 [plA p, I k, ints l, I d, I g] (B true) := by
  refine ap Tryz.func14 (fun e0 he0 => ?_)
  refine wz 3 ?_
  refine kz az (short_t hs) ?_
  refine wz 7 ?_
  refine sz 31 (fun g1_8 g1_8' => ?_) (fun g1_8 g1_8' => ?_)
  ·exfalso
   omega
  refine wz 1 ?_
  refine ky az (pl_t hs hr) ?_
  refine wz 5 ?_
  refine ky az (scn_t hs hi) ?_
  refine wz 6 ?_
  refine ky az (list_t hs hr hn hl hd) ?_
  refine wz 7 ?_
  refine sz 53 (fun g1_30 g1_30' => ?_) (fun g1_30 g1_30' => ?_)
  ·exfalso
   omega
  refine wz 4 ?_
  refine sz 57 (fun g1_34 g1_34' => ?_) (fun g1_34 g1_34' => ?_)
  ·exfalso
   omega
  refine wz 2 ?_
  refine ky az (fg_t hs hg) ?_
  refine vz 3 ?_
  refine aw_skip ?_
  refine aw_seq ?_
  have esc := sc_at hn
  refine wz 3 ?_
  refine kz az (rests_e hs hr hn (by omega) hd hb) ?_
  refine wz 7 ?_
  refine kz az (xcan_ok (shB_len hs).1 (shB_len hs).2.1 (shB_len hs).2.2.1 (shB_len hs).2.2.2 hn hr) ?_
  refine wz 7 ?_
  refine sq_ev rfl (ev_buildSlice (es := [[_]]) sf22.h rfl rfl rfl rfl) ?_
  refine sq_ev rfl (ev_call en40.h jz (rwithout_pure (plOK_B hr) (F := [g]) (by simp)) ⟨jz, Less.trans (less_slx _ _) (Less.eq rfl), trivial⟩) ?_
  refine wz 1 ?_
  refine kz az (can_out hr hn [g]) ?_
  refine wz 6 ?_
  refine sq_call (args := [plA p]) rfl en59.h jz ⟨jz, trivial⟩ (copS1_call (pl_bd (plOK_B hr)).1 (pl_bd (plOK_B hr)).2.1 (pl_bd (plOK_B hr)).2.2) ?_ (by rintro v H' ⟨_, _, h, _⟩; cases h)
  rintro v H' ⟨cap, hcap, h, rfl⟩
  cases h
  refine wz 5 ?_
  refine sq_ev rfl (ev_index_msl (k := k) sl24.h jz jz rfl hn) ?_
  refine wz 1 ?_
  refine sq_store (a := ints []) (j := 5) (off := 0 + k * 4 + 3) rfl jz (less_nil 1) rfl rfl ty22.h rfl (row_len p.scs _ (j := 3) hn (by decide)) ?_
  refine sq_nil ?_
  refine aw_seq ?_
  refine aw_sub (sub_freeze (j := 5) (n := p.scs.length) (cap := cap) (sz := 4) (es := (p.scs.set k (freeX (sc p k))).map scC) (rest := List.replicate ((cap - p.scs.length) * 4) .any) (sl' := [(1, I k), (2, ints l), (3, I d), (5, .ptr 0 0), (11, B false), (12, I 0), (13, B (St.can p (sc p k))), (14, I 0), (15, B (St.can p (cutX [g] (sc p k)))), (16, I 0), (17, .ptr 6 0)]) (congrArg (fun l => some (AObj.cells l)) (fl_fld p.scs _ (j := 3) hn (by decide) (ints []) (freeX (sc p k)) (by rw [← esc]; rfl))) (by simp) (fun q hq => by obtain ⟨x, _, rfl⟩ := List.mem_map.1 hq; rfl) (fun q hq => ?_) (FzH.same _ (by decide) (FzH.same _ (by decide) (FzH.same _ (by decide) (FzH.same _ (by decide) (FzH.same _ (by decide) (FzH.dead _ rfl (FzH.cells (by decide) (FzL.cons (Fz.same _) (FzL.cons (Fz.same _) (FzL.cons (Fz.same _) (FzL.cons Fz.frozen FzL.nil)))) (FzH.nil _))))))))) ?_
  ·simp only [List.mem_cons, List.not_mem_nil, or_false] at hq; rcases hq with rfl | rfl | rfl | rfl | rfl | rfl | rfl | rfl | rfl | rfl | rfl <;> exact Fz.same _
  refine nz ?_
  refine wz 3 ?_
  refine kz az (rests_set hr hn hl hd) ?_
  refine vz 5 ?_
  refine sq_nil ?_
  refine aw_seq ?_
  refine aw_seq ?_
  refine aw_join [(127, B false)] [1, 2, 3, 5, 11] ?_ ?_
  ·refine wz 17 ?_
   refine sz 116 (fun g9_16 g9_16' => ?_) (fun g9_16 g9_16' => ?_)
   ·have hst : St.can p (cutX [g] (sc p k)) = true := can_cut (plOK_B hr) (sc_B (plOK_B hr) hn) [g] (by simpa using g9_16)
    refine wz 5 ?_
    refine sz 121 (fun g9_21 g9_21' => ?_) (fun g9_21 g9_21' => ?_)
    ·exfalso
     first | (rw [hst] at g9_21; simp at g9_21; done) | (simp at g9_21; done)
    refine wz 6 ?_
    exact ⟨⟨jz, jz, jz, jz, jz, jz, trivial⟩, rfl, rfl⟩
   refine wz 11 ?_
   exact ⟨⟨jz, jz, jz, jz, jz, jz, trivial⟩, rfl, rfl⟩
  ·refine nz ?_
   refine wz 3 ?_
   refine kz az (rlow_pure (plOK_B hr) (n := d) (by omega)) ?_
   refine wz 3 ?_
   refine kz az (low_pl hr d) ?_
   refine wz 1 ?_
   refine iz (fun c_133 c_133' => ?_) (fun c_133 c_133' => ?_)
   ·refine wz 0 ?_
    refine kz az (known_pure) ?_
    refine wz 1 ?_
    exact rz rfl jz
   refine wz 3 ?_
   refine kz az (rests_low (by simpa using c_133) hn hl hd) ?_
   refine wz 10 ?_
   refine sz 146 (fun g15_4 g15_4' => ?_) (fun g15_4 g15_4' => ?_)
   ·refine wz 5 ?_
    refine ky az (known_pure) ?_
    refine wz 2 ?_
    exact rz rfl jz
   refine wz 5 ?_
   refine ky az (known_pure) ?_
   refine wz 2 ?_
   exact rz rfl jz
/-- **StemMore.** -/
theorem law14 (p : Ply) (n : Int) (_ : -9223372036854775808 ≤ n) (_ : n ≤ 9223372036854775807) (l : List Int) (hl63 : (l.length : Int) ≤ 9223372036854775807) (d : Int) (_ : -9223372036854775808 ≤ d) (_ : d ≤ 9223372036854775807) (g : Int) (_ : -9223372036854775808 ≤ g) (_ : g ≤ 9223372036854775807) : APure Tryz.prog 14 [plA p, I n, ints l, I d, I g] (B true) := by
  cases hs : shB p with
  | false => exact law14_a hs
  | true =>
    by_cases hl : l.length ≤ 10
    · cases hr : plOK p with
      | false => exact law14_c hs hl hr
      | true =>
        cases hi : scIn p n with
        | false => exact law14_d hs hl hr hi
        | true =>
          obtain ⟨k, rfl, hn⟩ := scIn_iff.1 hi
          cases hd : plsOK p (sc p k) l with
          | false => exact law14_e hs hl hr hi hn hd
          | true =>
            by_cases h9 : d < 0
            · exact law14_f hs hl hr hi hn hd h9
            · by_cases h9' : 9 < d
              · exact law14_g hs hl hr hi hn hd h9'
              · obtain ⟨m, rfl⟩ : ∃ m : Nat, d = (m : Int) := ⟨d.toNat, by omega⟩
                cases hg : fgIn p g with
                | false => exact law14_h hs hl hr hi hn hd (by omega) hg
                | true =>
                  cases hb : suits true p (sc p k) l with
                  | true => exact law14_i hs hl hr hi hn hd (by omega) hg hb
                  | false => exact law14_j hs hl hr hi hn hd (by omega) hg hb
    · exact law14_b hs hl
end Go.Proofs.YtfmpabgblbbcdaaGreatDoor
