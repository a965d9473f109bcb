/-
  A part of the proof: conditions: none beyond each theorem's own.
-/
import Derived.Test.YtfmpabgblbbcdaaGreatDoorLogicA
import Derived.Test.YtfmpabgblbbcdaaGreatDoorLogicD
import Derived.Laws.Small
import Derived.Test.YtfmpabgblbbcdaaGreatDoorLogicC
import Derived.Deep.Slices
import Derived.OpenShut
import Derived.Carry
import Derived.Test.YtfmpabgblbbcdaaGreatDoorSpecA
import Derived.Test.YtfmpabgblbbcdaaGreatDoorProg
import Derived.KernelRfl
import Derived.Lib.LaidTab
import Derived.Lib.ItoaNum
import Derived.Test.YtfmpabgblbbcdaaGreatDoorWalkB
import Derived.Test.YtfmpabgblbbcdaaGreatDoorWalkG
import Derived.Laws.IdiomStrings
import Derived.Laws.IdiomCopy
import Derived.Test.YtfmpabgblbbcdaaGreatDoorLogicB
import Derived.Test.YtfmpabgblbbcdaaGreatDoorLogicE
import Derived.Test.YtfmpabgblbbcdaaGreatDoorShelf
import Derived.Test.YtfmpabgblbbcdaaGreatDoorWalkA
import Derived.Test.YtfmpabgblbbcdaaGreatDoorWalkC
import Derived.Test.YtfmpabgblbbcdaaGreatDoorWalkD
import Derived.Test.YtfmpabgblbbcdaaGreatDoorWalkE
import Derived.Test.YtfmpabgblbbcdaaGreatDoorWalkF
import Derived.Test.YtfmpabgblbbcdaaGreatDoorRow
set_option linter.all false
set_option maxRecDepth 100000
set_option maxHeartbeats 8000000
namespace Go.Ab
variable [Tabs]
theorem FW_room (r : Option Nat) (n : Nat) : (FW r).room n := fun _ h => by simp [FW] at h
variable {c : Ctx} {Q : AExit → St → Prop} {s : St}
end Go.Ab
namespace Go.Ab
variable [Tabs]
section
variable {P : Program} {r : Option Nat} {H : List AObj} {ρ : Operand → AV}
variable {d : Option Tmp} {t : TypeId} {p : String} {af : Array Edge} {g : Option (Nat × Bool)} {x y : Operand}
theorem ev_neqB {a b : Bool} {xt yt : TypeId} (ht : P.underlying xt = some .bool) (hx : Less (ρ x) (.raw (.bool a))) (hy : Less (ρ y) (.raw (.bool b))) :
    Ev P r ⟨d, .binOp .neq xt x y yt, t, p, af, g⟩ H ρ (.raw (.bool (!(a == b)))) :=
  ev_bool2 hx hy fun w e => ⟨_, run_neq_bool w xt a b ht, by rw [Rep]⟩
end
end Go.Ab
namespace Go.Ab
open Go.ChangeShapes Go.WideShapes
variable [Tabs]
theorem env0_ok {w : World} (h : Tabs.is w) (hb : ∀ b, Tabs.blk b → b < w.heap.size) : EnvOK (env0 w) :=
  ⟨fun b hb => by have hb' : w.heap.size ≤ b := hb
                  have : w.heap[b]? = none := by simpa using hb'
                  simp [env0, this], fun i o h => by simp [env0] at h, fun i j b hi => by simp [env0] at hi, fun i b hi => by simp [env0] at hi, h, fun b hk => ⟨hb b hk, fun i hi => by simp [env0] at hi⟩⟩
section
variable {H : Type} {enc : TypeId × Value → H} {P : Program} {w : World} {base : Nat} {spare : Nat → Bool} {held : Bool}
theorem trodAll_stays (hl : laidOutB P = true) {W W' : World} (hheap : ∀ b, b < W.heap.size → W'.heap[b]? = W.heap[b]?) {sp' : Nat → Bool} :
    ∀ {ts : List TypeId} {vs : List Value} {ds : List (DataW H)} {ps : List MemPlace}, (∀ t ∈ ts, P.readableRec t = true ∧ t < P.types.size) → DataW.TrodAll enc P W base (fun _ => true) true ts vs ds ps → (∀ p ∈ ps, p.block < W.heap.size) → (∀ p ∈ ps, sp' p.block = true) →
      DataW.TrodAll enc P W' base sp' true ts vs ds ps
  | [], _, _, _, _, h, _, _ => by
    obtain ⟨rfl, rfl, rfl⟩ := trodAll_nil h
    exact trodAll_mk0
  | t :: ts, _, _, _, ht, h, hlt, hs => by
    obtain ⟨v, vs1, d, ds1, a, b, rfl, rfl, rfl, h1, h2⟩ := trodAll_cons h
    refine trodAll_cons_mk (WideElems.Trod_stays hl (ht t (by simp)).1 (ht t (by simp)).2 h1 (fun p hp => ?_) (fun p hp => hs p (by simp [hp]))) (trodAll_stays hl hheap (fun u hu => ht u (List.mem_cons_of_mem _ hu)) h2 (fun p hp => hlt p (by simp [hp])) (fun p hp => hs p (by simp [hp])))
    have hb := hheap p.block (hlt p (by simp [hp]))
    cases p with
    | cell b o => exact cell?_of_heap hb
    | map b => exact hb
/-- **What a law's row asks of a call that returns true and leaves what it met.** -/
theorem post_true {f : Func} {s : ChangeSpec} {W W' : World} {args : Array Value} {ds gs : List (DataW H)} {before : List MemPlace} {tb : TypeId} (hl : laidOutB P = true) (hread : ∀ t ∈ f.params.toList, P.readableRec t = true ∧ t < P.types.size)
    (hres : f.resultTypes = #[tb]) (htb : P.underlying tb = some .bool) (hvars : s.vars = []) (hspec : (s.fn H ds).results = [.lit (.bool true)] ∧ (s.fn H ds).args = ds ∧ (s.fn H ds).vars = [])
    (hW : DataW.Whole enc P f.params.toList s.vars false W args.toList ds gs before) (hheap : ∀ b, b < W.heap.size → W'.heap[b]? = W.heap[b]?) (hst : Still W W') :
    s.post enc P f false true false false W args (.bool true) W' := by
  have hlt := hW.lt
  have hW0 := hW
  obtain ⟨p, q, h1, h2, rfl, _, _⟩ := hW
  rw [hvars] at h2
  obtain ⟨rfl, rfl⟩ := trodVars_none h2
  simp only [List.append_nil] at hlt
  obtain ⟨e1, e2, e3⟩ := hspec
  refine ⟨ds, [], p ++ [], [], p, [], hW0, ?_, ?_, ?_, ?_, fun h => by cases h⟩
  · rw [List.append_nil, e1, hres]
    exact trodAll_cons_mk (RowKit.shut_bool htb _) trodAll_mk0
  · rw [List.append_nil, e2]
    exact trodAll_stays hl hheap hread h1 hlt (fun p hp => by simpa using hlt p hp)
  · rw [List.append_nil, e3, hvars]; rfl
  · refine ⟨hst.1, hst.2, fun i hi => ?_⟩
    rw [hheap i hi]
    split <;> simp_all
theorem APure.law {f : FuncId} {args : List AV} {W : World} {vs : Array Value} (hc : APure P f args (.raw (.bool true))) (ht : Tabs.is W) (hb : ∀ b, Tabs.blk b → b < W.heap.size) (hr : RepL (env0 W) args vs.toList) :
    Calls P f vs W fun x W' => x = .returned (.bool true) ∧ (∀ b, b < W.heap.size → W'.heap[b]? = W.heap[b]?) ∧ Still W W' := by
  refine ((hc (env0 W) vs (env0_ok ht hb) hr).calls (fun k => FW_room none k)).mono ?_
  rintro x w' ⟨u, e', rfl, rfl, hx, hu⟩
  rw [Rep] at hu; subst hu
  exact ⟨rfl, hx.heap, hx.still⟩
end
end Go.Ab
namespace Hd
open Ni (inn)
def lex : List Int → List Int → Bool
  | [], [] => false
  | [], _ :: _ => true
  | _ :: _, [] => false
  | x :: a, y :: b => if x = y then lex a b else decide (x < y)
section best
variable {α : Type} (c : α → List Int)
end best
theorem lex_irr : ∀ a : List Int, lex a a = false
  | [] => rfl
  | x :: a => by simp [lex, lex_irr a]
end Hd
namespace Hd
open Ni (inn)
def befB : List Int → List Int → Bool
  | x :: a, y :: b => if x = y then befB a b else decide (x < y)
  | _, _ => false
end Hd
namespace St
open Ni (inn)
open Hd (every getD_at mem_every)
def plIn (p : Ply) (n : Int) : Bool := inn n 0 (p.hts.length - 1)
end St
namespace St
open Ni (inn)
open Hd (every getD_at mem_every lex every_rising)
theorem dfs_pre {ok : List Int → Bool} {n k : Nat} {now l : List Int} (h : l ∈ dfs ok n k now) : l.take now.length = now := (mem_dfs.1 h).2.1
theorem lex_app (l a b : List Int) : lex (l ++ a) (l ++ b) = lex a b := by
  induction l with
  | nil => rfl
  | cons x l ih => simp [lex, ih]
theorem lex_lt {a b : List Int} {x y : Int} (h : x < y) : lex (x :: a) (y :: b) = true := by unfold lex; rw [if_neg (by omega)]; exact decide_eq_true h
theorem dfs_lex {ok : List Int → Bool} {n : Nat} : ∀ (k : Nat) (now : List Int), (dfs ok n k now).Pairwise fun a b => lex a b = true
  | 0, now => by unfold dfs; exact List.pairwise_singleton _ _
  | k + 1, now => by
    unfold dfs
    rw [List.pairwise_flatMap]
    refine ⟨fun a _ => by split; exact dfs_lex k _; exact List.Pairwise.nil, ?_⟩
    refine (every_rising n).imp fun {a b} hab x hx y hy => ?_
    split at hx
    · split at hy
      · have e1 := dfs_pre hx
        have e2 := dfs_pre hy
        rw [← List.take_append_drop (now ++ [a]).length x, e1, ← List.take_append_drop (now ++ [b]).length y, e2, List.append_assoc, List.append_assoc, lex_app]
        exact lex_lt hab
      · simp at hy
    · simp at hx
theorem okL_inj {b : Bool} {p : Ply} {x : Scn} {l : List Int} (h : okL b p x l = true) : inj l = true := by
  unfold okL okI plc at h; unfold inj
  simp only [Bool.and_eq_true, Bool.not_eq_true', decide_eq_false_iff_not] at h ⊢
  exact fun q => h.1.1 (.inr q)
theorem arr_filter (b : Bool) (p : Ply) (x : Scn) : arr b p x = (dfs inj p.hts.length x.rest.length []).filter (suits b p x) := by
  unfold arr
  rw [dfs_filter (ok := inj) (fun l h => okL_inj h)]
  exact List.filter_congr fun l _ => suits_good b p x l
theorem arr_lex (b : Bool) (p : Ply) (x : Scn) : (arr b p x).Pairwise fun a b => lex a b = true := dfs_lex _ _
end St
namespace Go.Proofs.YtfmpabgblbbcdaaGreatDoor
open Go Go.Ab Ni St
open Hd hiding sz
abbrev C (c : UInt8) : AV := .raw (.int .u8 c.toNat)
theorem rin_pure (n lo hi : Int) : APure Tryz.prog 77 [I n, I lo, I hi] (B (inn n lo hi)) := by
  refine ap Tryz.func77 (fun e0 he0 => ?_)
  refine wz 5 ?_
  refine sz 10 (fun g1 g1' => ?_) (fun g1 g1' => ?_)
  ·refine wz 5 ?_
   exact rz rfl (Less.eq (by simp [inn, *]))
  refine wz 5 ?_
  exact rz rfl (Less.eq (by simp [inn, *]))
end Go.Proofs.YtfmpabgblbbcdaaGreatDoor
namespace Go.Proofs.YtfmpabgblbbcdaaGreatDoor
open Go Go.Ab Ni St
open Hd hiding sz
def plsOK (p : Ply) (x : Scn) (l : List Int) : Bool := decide (l.length = x.rest.length) && !l.any fun n => !inn n 0 (p.hts.length - 1)
theorem plsOK_iff {p : Ply} {x : Scn} {l : List Int} : plsOK p x l = true ↔ l.length = x.rest.length ∧ ∀ a ∈ l, 0 ≤ a ∧ a < p.hts.length := by
  unfold plsOK inn
  rw [Bool.and_eq_true, decide_eq_true_eq, Bool.not_eq_true', List.any_eq_false]
  simp only [Bool.not_eq_true', Bool.not_eq_false, decide_eq_false_iff_not, Decidable.not_not, Bool.not_eq_true]
  exact ⟨fun h => ⟨h.1, fun a ha => by have := h.2 a ha; simp at this; omega⟩, fun h => ⟨h.1, fun a ha => by have := h.2 a ha; simp; omega⟩⟩
theorem suits_no {b : Bool} {p : Ply} {x : Scn} {l : List Int} {k : Nat} (hkl : k < l.length) (h : okL b p x (l.take (k + 1)) = false) : suits b p x l = false := by
  rw [okL_take hkl] at h
  unfold suits; rw [decide_eq_false_iff_not]; intro q; rw [q k hkl] at h; cases h
theorem arepl1_pure (p : Ply) (x : Scn) (n : Int) (hh : p.hts.length ≤ 1000000) : APure Tryz.prog 160 [I n, .iptr (stC p x)] (B (!inn n 0 (p.hts.length - 1))) := by
  refine ap Tryz.func160 (fun e0 he0 => ?_)
  refine wz 7 ?_
  refine kz az (in_pure _ _ _) ?_
  refine wz 2 ?_
  exact rz rfl jz
theorem arepl_pure (p : Ply) (x : Scn) (l : List Int) (hl : l.length ≤ 1000000) (hh : p.hts.length ≤ 1000000) (hr : x.rest.length ≤ 1000000) : APure Tryz.prog 119 [stA p x, ints l] (B (plsOK p x l)) := by
  refine ap Tryz.func119 (fun e0 he0 => ?_)
  refine vz 2 ?_
  refine sq_nil ?_
  refine aw_seq ?_
  refine aw_sub (sub_iptrK [1, 4] 2 (j := 0) (l := stC p x) rfl rfl) ?_
  refine wz 8 ?_
  refine sz 12 (fun g1_7 g1_7' => ?_) (fun g1_7 g1_7' => ?_)
  ·have hlr : l.length = x.rest.length := by omega
   refine wz 2 ?_
   refine sq_yes rfl rfl (less_b g1_7) rfl (ev_call en130.h jz (intF_any (cap := [.iptr (stC p x)]) (q := fun n => !inn n 0 (p.hts.length - 1)) l hl en160.h (fun i hi => arepl1_pure p x _ hh) (by simp [AV.pureL, AV.pureB])) ⟨jz, jz, trivial⟩) ?_
   refine wz 3 ?_
   exact rz rfl (Less.eq (congrArg B (by unfold plsOK; simp [hlr])))
  have hlr : ¬ l.length = x.rest.length := by omega
  refine wz 6 ?_
  exact rz rfl (Less.eq (congrArg B (by unfold plsOK; simp [hlr])))
theorem rests_pure {p : Ply} (gP : PlB p) {x : Scn} (gX : ScB p x) {l : List Int} (hl : l.length = x.rest.length) (hm : ∀ a ∈ l, 0 ≤ a ∧ a < p.hts.length) : APure Tryz.prog 120 [stA p x, ints l] (B (suits true p x l)) := by
  refine ap Tryz.func120 (fun e0 he0 => ?_)
  refine aw_seq ?_
  have hr4 := gX.r4
  refine wz 5 ?_
  refine aw_loopk (ι := { k : Nat // k ≤ l.length ∧ ∀ i, i < k → okI true p x l i = true }) [1, 2, 9] (fun k => [(10, I (k.1 : Nat))]) (fun H k => H) (fun k => l.length - k.1) (⟨0, Nat.zero_le _, by omega⟩) ⟨jz, jz, jz, jz, trivial⟩ rfl ?_
  rintro ⟨k, hk, hok⟩
  refine nz ?_
  refine wz 1 ?_
  refine iz (fun c_11 c_11' => ?_) (fun c_11 c_11' => ?_)
  ·have hkl : k < l.length := by omega
   have htl : k + 1 = (l.take (k + 1)).length := by rw [List.length_take]; omega
   refine wz 2 ?_
   refine kz az (rules_pure) ?_
   refine wz 1 ?_
   refine aw_loopk (ι := { j : Nat // j ≤ 3 ∧ ∀ i, i < j → rV p x (l.take (k + 1)) k i = true }) [1, 2, 5, 9, 10, 13] (fun j => [(14, I (j.1 : Nat))]) (fun H j => H) (fun j => 3 - j.1) (⟨0, by omega, by omega⟩) ⟨jz, jz, jz, jz, jz, jz, jz, trivial⟩ rfl ?_
   rintro ⟨j, hj, hall⟩
   refine nz ?_
   refine wz 1 ?_
   refine iz (fun c_15 c_15' => ?_) (fun c_15 c_15' => ?_)
   ·have hj3 : j < 3 := by omega
    refine wz 0 ?_
    refine sq_ev rfl (ev_indexv (k := j) (v := .fn (.func (rF j)) [] []) ar192.h ty191.h jz jz rfl hj3 (by match j, hj3 with | 0, _ => rfl | 1, _ => rfl | 2, _ => rfl)) ?_
    refine wz 1 ?_
    refine aw_draw 8 mo (by kernel_rfl) ?_
    refine dz 5 ?_
    refine dr_ev rfl (ev_less (ev_slice (lo := 0) (hi := k + 1) sl22.h jz rfl (less_int (by omega)) (by omega) (by simp; omega)) (Less.eq (b := ints (l.take (k + 1))) (by rw [List.drop_zero, ← List.map_take]))) ?_
    refine dr_ev rfl (ev_call (rF_ent j hj3) jz (rF_pure gP gX (i := k) (l := l.take (k + 1)) htl (by omega) (fun a ha => hm a (List.mem_of_mem_take ha)) j hj3) ⟨jz, jz, trivial⟩) ?_
    refine dz 1 ?_
    refine wz 0 ?_
    refine iz (fun c_24 c_24' => ?_) (fun c_24 c_24' => ?_)
    ·have hno : suits true p x l = false := suits_no hkl (rV_no htl (show j < many true from hj3) (by simpa using c_24))
     refine wz 1 ?_
     exact rz rfl (Less.eq (by rw [hno]))
    have hrv : rV p x (l.take (k + 1)) k j = true := by simpa using c_24
    refine wz 2 ?_
    exact ⟨⟨j + 1, by omega, fun i hi => by rcases Nat.lt_or_ge i j with z | z; exact hall i z; (obtain rfl : i = j := by omega); exact hrv⟩, by simp only; omega, Sub.slots ⟨jz, jz, jz, jz, jz, jz, jz, trivial⟩⟩
   obtain rfl : j = 3 := by omega
   have hst : okI true p x l k = true := by rw [← okL_take hkl]; exact rV_all htl hall
   refine wz 2 ?_
   exact ⟨⟨k + 1, by omega, fun i hi => by rcases Nat.lt_or_ge i k with z | z; exact hok i z; (obtain rfl : i = k := by omega); exact hst⟩, by simp only; omega, Sub.slots ⟨jz, jz, jz, jz, trivial⟩⟩
  obtain rfl : k = l.length := by omega
  have hall : suits true p x l = true := decide_eq_true hok
  refine wz 1 ?_
  exact rz rfl (Less.eq (by rw [hall]))
end Go.Proofs.YtfmpabgblbbcdaaGreatDoor
namespace Go.Proofs.YtfmpabgblbbcdaaGreatDoor
open Go Go.Ab Ni St
open Hd hiding sz
theorem xcount_ok {p : Ply} (hh : p.hts.length ≤ 1000000) (hf : p.figs.length ≤ 1000000) (hs : p.scs.length ≤ 1000000) (hx : ∀ x ∈ p.scs, x.moved.length ≤ 1000000 ∧ x.rest.length ≤ 1000000 ∧ x.taken.length ≤ 1000000) {k : Nat} (hk : k < p.scs.length) (h1 : plOK p = true) : APure Tryz.prog 43 [plA p, I k] (.tup [I ((arr true p (sc p k)).length : Nat), I 0]) := by
  refine ap Tryz.func43 (fun e0 he0 => ?_)
  refine vz 3 ?_
  refine sq_nil ?_
  refine aw_seq ?_
  refine aw_seq ?_
  have hpl := isplay_pure p hh hf hs hx
  rw [h1] at hpl
  have hsc := isscene_pure p (k : Int) hs
  rw [scIn_nat hk] at hsc
  have gP := plOK_B h1
  have gX := sc_B gP hk
  refine wz 1 ?_
  refine kz az (hpl) ?_
  refine wz 4 ?_
  refine ky az (hsc) ?_
  refine wz 5 ?_
  refine kz az (stage_pure hk hs) ?_
  refine kz az (arrs_pure p (sc p k)) ?_
  refine kz az (collect_pure (l := arr true p (sc p k)) (by have := arr_len gP gX true; omega) en171.h (lists_iter gP gX true) (by simp [AV.pureL, AV.pureB])) ?_
  refine wz 3 ?_
  exact retQ_pure (v := .tup [.raw _, .raw _]) rfl rfl (less_tup ⟨jz, jz, trivial⟩)
theorem xcan_ok {p : Ply} (hh : p.hts.length ≤ 1000000) (hf : p.figs.length ≤ 1000000) (hs : p.scs.length ≤ 1000000) (hx : ∀ x ∈ p.scs, x.moved.length ≤ 1000000 ∧ x.rest.length ≤ 1000000 ∧ x.taken.length ≤ 1000000) {k : Nat} (hk : k < p.scs.length) (h1 : plOK p = true) : APure Tryz.prog 49 [plA p, I k] (.tup [B (St.can p (sc p k)), I 0]) := by
  refine ap Tryz.func49 (fun e0 he0 => ?_)
  refine vz 3 ?_
  refine sq_nil ?_
  refine aw_seq ?_
  refine aw_seq ?_
  have hpl := isplay_pure p hh hf hs hx
  rw [h1] at hpl
  have hsc := isscene_pure p (k : Int) hs
  rw [scIn_nat hk] at hsc
  have gP := plOK_B h1
  have gX := sc_B gP hk
  refine wz 1 ?_
  refine kz az (hpl) ?_
  refine wz 4 ?_
  refine ky az (hsc) ?_
  refine wz 5 ?_
  refine kz az (can_pure gP hk) ?_
  refine wz 2 ?_
  exact retQ_pure (v := .tup [.raw _, .raw _]) rfl rfl (less_tup ⟨jz, jz, trivial⟩)
theorem xrests_ok {p : Ply} (hh : p.hts.length ≤ 1000000) (hf : p.figs.length ≤ 1000000) (hs : p.scs.length ≤ 1000000) (hx : ∀ x ∈ p.scs, x.moved.length ≤ 1000000 ∧ x.rest.length ≤ 1000000 ∧ x.taken.length ≤ 1000000) {k : Nat} (hk : k < p.scs.length) (h1 : plOK p = true) {l : List Int} (hl : l.length ≤ 1000000) (h3 : plsOK p (sc p k) l = true) : APure Tryz.prog 58 [plA p, I k, ints l] (.tup [B (suits true p (sc p k) l), I 0]) := by
  refine ap Tryz.func58 (fun e0 he0 => ?_)
  refine vz 3 ?_
  refine sq_nil ?_
  refine aw_seq ?_
  refine aw_seq ?_
  have hpl := isplay_pure p hh hf hs hx
  rw [h1] at hpl
  have hsc := isscene_pure p (k : Int) hs
  rw [scIn_nat hk] at hsc
  have gP := plOK_B h1
  have gX := sc_B gP hk
  have hap := arepl_pure p (sc p k) l hl hh (by have := gX.r4; omega)
  rw [h3] at hap
  obtain ⟨hll, hlm⟩ := plsOK_iff.1 h3
  refine wz 1 ?_
  refine kz az (hpl) ?_
  refine wz 4 ?_
  refine ky az (hsc) ?_
  refine wz 5 ?_
  refine ky az (stage_pure hk hs) ?_
  refine wz 1 ?_
  refine ky az (hap) ?_
  refine wz 5 ?_
  refine kz az (stage_pure hk hs) ?_
  refine wz 1 ?_
  refine kz az (rests_pure gP gX hll hlm) ?_
  refine wz 2 ?_
  exact retQ_pure (v := .tup [.raw _, .raw _]) rfl rfl (less_tup ⟨jz, jz, trivial⟩)
end Go.Proofs.YtfmpabgblbbcdaaGreatDoor
namespace Go.Proofs.YtfmpabgblbbcdaaGreatDoor
open Go Go.Ab Ni St
open Hd hiding sz
instance en118 : EnT Tryz.prog 118 := ⟨Ent.of Tryz.func118 (by kernel_rfl) rfl⟩
instance en19 : EnT Tryz.prog 19 := ⟨Ent.of Tryz.func19 (by kernel_rfl) rfl⟩
instance en22 : EnT Tryz.prog 22 := ⟨Ent.of Tryz.func22 (by kernel_rfl) rfl⟩
instance en26 : EnT Tryz.prog 26 := ⟨Ent.of Tryz.func26 (by kernel_rfl) rfl⟩
instance en27 : EnT Tryz.prog 27 := ⟨Ent.of Tryz.func27 (by kernel_rfl) rfl⟩
instance en41 : EnT Tryz.prog 41 := ⟨Ent.of Tryz.func41 (by kernel_rfl) rfl⟩
instance en57 : EnT Tryz.prog 57 := ⟨Ent.of Tryz.func57 (by kernel_rfl) rfl⟩
instance en77 : EnT Tryz.prog 77 := ⟨Ent.of Tryz.func77 (by kernel_rfl) rfl⟩
instance en78 : EnT Tryz.prog 78 := ⟨Ent.of Tryz.func78 (by kernel_rfl) rfl⟩
instance en95 : EnT Tryz.prog 95 := ⟨Ent.of Tryz.func95 (by kernel_rfl) rfl⟩
theorem all_of {α : Type} {q : α → Bool} {l : List α} (h : ∀ j, (hj : j < l.length) → q l[j] = true) : l.all q = true := List.all_eq_true.2 fun x hx => by obtain ⟨j, hj, rfl⟩ := List.getElem_of_mem hx; exact h j hj
theorem all_bad {α : Type} {q : α → Bool} {l : List α} {i : Nat} (hi : i < l.length) (h : q l[i] = false) : l.all q = false := by rw [List.all_eq_false]; exact ⟨_, List.getElem_mem hi, by rw [h]; simp⟩
theorem all_sym (a b : List Int) : (a.all fun n => !decide (n ∈ b)) = b.all fun n => !decide (n ∈ a) := by
  rw [Bool.eq_iff_iff, List.all_eq_true, List.all_eq_true]
  simp only [Bool.not_eq_true', decide_eq_false_iff_not]
  exact ⟨fun h n hn hm => h n hm hn, fun h n hn hm => h n hm hn⟩
def shX (x : Scn) : Bool := decide (x.moved.length ≤ 10) && decide (x.rest.length ≤ 10) && decide (x.taken.length ≤ 10)
def shB (p : Ply) : Bool := decide (p.hts.length ≤ 10) && decide (p.figs.length ≤ 8) && decide (p.scs.length ≤ 7) && decide (∀ i, (hi : i < p.scs.length) → i < 8 → shX p.scs[i] = true)
theorem shB_row {p : Ply} {i : Nat} (hi : i < p.scs.length) (h8 : i < 8) (h : shX p.scs[i] = false) : shB p = false := by
  unfold shB
  rw [decide_eq_false (p := ∀ i, (hi : i < p.scs.length) → i < 8 → shX p.scs[i] = true) (fun q => by rw [q i hi h8] at h; cases h)]; simp
theorem shB_fin {p : Ply} (h : ∀ i, (hi : i < p.scs.length) → i < 8 → shX p.scs[i] = true) : shB p = (decide (p.hts.length ≤ 10) && decide (p.figs.length ≤ 8) && decide (p.scs.length ≤ 7)) := by
  unfold shB; rw [decide_eq_true h, Bool.and_true]
theorem shB_len {p : Ply} (h : shB p = true) : p.hts.length ≤ 1000000 ∧ p.figs.length ≤ 1000000 ∧ p.scs.length ≤ 1000000 ∧ ∀ x ∈ p.scs, x.moved.length ≤ 1000000 ∧ x.rest.length ≤ 1000000 ∧ x.taken.length ≤ 1000000 := by
  unfold shB at h
  simp only [Bool.and_eq_true, decide_eq_true_eq] at h
  refine ⟨by omega, by omega, by omega, fun x hx => ?_⟩
  obtain ⟨i, hi, rfl⟩ := List.getElem_of_mem hx
  have := h.2 i hi (by omega)
  unfold shX at this
  simp only [Bool.and_eq_true, decide_eq_true_eq] at this
  omega
theorem befB_at : ∀ {a b : List Int} {k : Nat} (ha : k < a.length) (hb : k < b.length), (∀ i, (h1 : i < a.length) → (h2 : i < b.length) → i < k → a[i] = b[i]) → a[k] ≠ b[k] → befB a b = decide (a[k] < b[k])
  | x :: l, y :: m, 0, _, _, _, h => by unfold befB; rw [if_neg (by simpa using h)]; simp
  | x :: l, y :: m, k + 1, ha, hb, hk, h => by
    have h0 := hk 0 (by simp) (by simp) (by omega)
    unfold befB; rw [if_pos (by simpa using h0)]
    have := befB_at (a := l) (b := m) (k := k) (by simpa using ha) (by simpa using hb) (fun i h1 h2 hi => by have := hk (i + 1) (by simpa using h1) (by simpa using h2) (by omega); simpa using this) (by simpa using h)
    simpa using this
theorem befB_no : ∀ {a b : List Int}, (∀ i, (h1 : i < a.length) → (h2 : i < b.length) → a[i] = b[i]) → befB a b = false
  | [], _, _ => by unfold befB; rfl
  | _ :: _, [], _ => by unfold befB; rfl
  | x :: l, y :: m, h => by
    have h0 := h 0 (by simp) (by simp)
    unfold befB; rw [if_pos (by simpa using h0)]
    exact befB_no fun i h1 h2 => by have := h (i + 1) (by simpa using h1) (by simpa using h2); simpa using this
theorem pls_any {p : Ply} {l : List Int} : (!l.any fun n => !inn n 0 (p.hts.length - 1)) = l.all (plIn p) := by
  rw [List.not_any_eq_all_not]; congr 1; funext n; unfold plIn; simp
theorem has_pure (l : List Int) (n : Int) (hl : l.length ≤ 1000000) : APure Tryz.prog 27 [ints l, I n] (B (decide (n ∈ l))) := by
  refine ap Tryz.func27 (fun e0 he0 => ?_)
  refine wz 2 ?_
  refine aw_loopk (ι := { k : Nat // k ≤ l.length ∧ ∀ i, (hi : i < l.length) → i < k → l[i] ≠ n }) [0, 1] (fun i => [(5, I i.1)]) (fun H i => H) (fun i => l.length - i.1) (⟨0, Nat.zero_le _, by omega⟩) ⟨jz, jz, jz, trivial⟩ rfl ?_
  rintro ⟨k, hk, hok⟩
  refine nz ?_
  refine wz 4 ?_
  refine iz (fun c_9 c_9' => ?_) (fun c_9 c_9' => ?_)
  ·have hkL : k < l.length := by omega
   refine wz 6 ?_
   refine iz (fun c_17 c_17' => ?_) (fun c_17 c_17' => ?_)
   ·have hmem : n ∈ l := by have h5 := of_decide_eq_true c_17; exact h5 ▸ List.getElem_mem hkL
    refine wz 1 ?_
    exact rz rfl (Less.eq (by rw [decide_eq_true hmem]))
   refine wz 3 ?_
   exact ⟨⟨k + 1, by omega, fun i hi h => (by by_cases e : i = k; (subst e; simpa using c_17); exact hok i hi (by omega))⟩, by simp only; omega, Sub.slots ⟨jz, jz, jz, trivial⟩⟩
  obtain rfl : k = l.length := by omega
  have hno : ¬ n ∈ l := fun h => by obtain ⟨i, hi, h6⟩ := List.getElem_of_mem h; exact hok i hi hi h6
  refine wz 1 ?_
  exact rz rfl (Less.eq (by rw [decide_eq_false hno]))
theorem rrising_pure (l : List Int) (n : Nat) (hl : l.length ≤ 1000000) (hn : n ≤ 1000000) : APure Tryz.prog 95 [ints l, I n] (B (rising l n)) := by
  refine ap Tryz.func95 (fun e0 he0 => ?_)
  refine wz 2 ?_
  refine aw_loopk (ι := { k : Nat // k ≤ l.length ∧ ∀ i, (hi : i < l.length) → i < k → (0 ≤ l[i] ∧ l[i] < n) ∧ (0 < i → l[i - 1] < l[i]) }) [0, 1] (fun i => [(5, I i.1)]) (fun H i => H) (fun i => l.length - i.1) (⟨0, Nat.zero_le _, by omega⟩) ⟨jz, jz, jz, trivial⟩ rfl ?_
  rintro ⟨k, hk1, hok⟩
  refine nz ?_
  refine wz 4 ?_
  refine iz (fun c_9 c_9' => ?_) (fun c_9 c_9' => ?_)
  ·have hkl : k < l.length := by omega
   have hin : inn l[k] 0 ((n : Int) - 1) = true ↔ 0 ≤ l[k] ∧ l[k] ≤ (n : Int) - 1 := by unfold inn; simp
   refine wz 0 ?_
   refine aw_draw 24 mo (by kernel_rfl) ?_
   refine dz 6 ?_
   refine dkz az (rin_pure _ _ _) ?_
   refine dz 2 ?_
   refine dsz 20 (fun g4_8 g4_8' => ?_) (fun g4_8 g4_8' => ?_)
   ·have hb0 : ¬ (0 ≤ l[k] ∧ l[k] ≤ (n : Int) - 1) := fun q => by rw [hin.2 q] at g4_8; simp at g4_8
    have hno : rising l n = false := rising_no hkl (fun q => hb0 (by omega))
    refine dz 15 ?_
    refine wz 2 ?_
    exact rz rfl (Less.eq (by rw [hno]))
   have hb1 : 0 ≤ l[k] ∧ l[k] ≤ (n : Int) - 1 := hin.1 (by simpa using g4_8)
   refine dz 3 ?_
   refine dsz 23 (fun g4_11 g4_11' => ?_) (fun g4_11 g4_11' => ?_)
   ·refine dz 7 ?_
    refine dr_yes rfl rfl (less_b g4_11) rfl (ev_index_map (k := k - 1) sl22.h jz jz (by omega) (by omega)) ?_
    refine dz 4 ?_
    refine wz 0 ?_
    refine iz (fun c_35 c_35' => ?_) (fun c_35 c_35' => ?_)
    ·have hno : rising l n = false := rising_no hkl (fun q => by have h5 := q.2 (by omega); have h6 := of_decide_eq_true c_35; omega)
     refine wz 1 ?_
     exact rz rfl (Less.eq (by rw [hno]))
    have hst : (0 ≤ l[k] ∧ l[k] < n) ∧ (0 < k → l[k - 1] < l[k]) := ⟨by omega, fun q => by have := of_decide_eq_false c_35; omega⟩
    refine wz 3 ?_
    exact ⟨⟨k + 1, by omega, fun i hi q => by rcases Nat.lt_or_ge i k with q2 | q2; exact hok i hi q2; (obtain rfl : i = k := by omega); exact hst⟩, by simp only; omega, Sub.slots ⟨jz, jz, jz, trivial⟩⟩
   have hst : (0 ≤ l[k] ∧ l[k] < n) ∧ (0 < k → l[k - 1] < l[k]) := ⟨by omega, fun q => by omega⟩
   refine dz 12 ?_
   refine wz 4 ?_
   exact ⟨⟨k + 1, by omega, fun i hi q => by rcases Nat.lt_or_ge i k with q2 | q2; exact hok i hi q2; (obtain rfl : i = k := by omega); exact hst⟩, by simp only; omega, Sub.slots ⟨jz, jz, jz, trivial⟩⟩
  obtain rfl : k = l.length := by omega
  have hall := rising_yes fun i hi => hok i hi hi
  refine wz 1 ?_
  exact rz rfl (Less.eq (by rw [hall]))
theorem rscene_pure (p : Ply) (x : Scn) (h1 : x.moved.length ≤ 1000000) (h2 : x.rest.length ≤ 1000000) (h3 : x.taken.length ≤ 1000000) (hh : p.hts.length ≤ 1000000) (hf : p.figs.length ≤ 1000000) : APure Tryz.prog 78 [plA p, .agg (scC x)] (B (scOK p x)) := by
  refine ap Tryz.func78 (fun e0 he0 => ?_)
  refine wz 8 ?_
  refine kz az (rrising_pure x.moved p.figs.length h1 hf) ?_
  refine wz 2 ?_
  refine sz 13 (fun g1_7 g1_7' => ?_) (fun g1_7 g1_7' => ?_)
  ·refine wz 31 ?_
   exact rz rfl (Less.eq (congrArg B (by unfold scOK; simp [*])))
  refine wz 5 ?_
  refine ky az (rrising_pure x.rest p.figs.length h2 hf) ?_
  refine wz 3 ?_
  refine sz 22 (fun g1_16 g1_16' => ?_) (fun g1_16 g1_16' => ?_)
  ·refine wz 22 ?_
   exact rz rfl (Less.eq (congrArg B (by unfold scOK; simp [*])))
  refine wz 5 ?_
  refine ky az (rrising_pure x.taken p.hts.length h3 hh) ?_
  refine wz 3 ?_
  refine sz 31 (fun g1_25 g1_25' => ?_) (fun g1_25 g1_25' => ?_)
  ·refine wz 13 ?_
   exact rz rfl (Less.eq (congrArg B (by unfold scOK; simp [*])))
  refine wz 6 ?_
  refine sz 37 (fun g1_31 g1_31' => ?_) (fun g1_31 g1_31' => ?_)
  ·have k31 : ¬ x.rest.length ≤ 4 := by omega
   refine wz 7 ?_
   exact rz rfl (Less.eq (congrArg B (by unfold scOK; simp [*])))
  have k31 : x.rest.length ≤ 4 := by omega
  refine wz 2 ?_
  refine ky az (rin_pure _ _ _) ?_
  refine wz 2 ?_
  refine iz (fun c_42 c_42' => ?_) (fun c_42 c_42' => ?_)
  ·refine wz 1 ?_
   exact rz rfl (Less.eq (congrArg B (by unfold scOK; simp [*])))
  refine wz 1 ?_
  refine aw_loopk (ι := { k : Nat // k ≤ x.rest.length ∧ ∀ i, (hi : i < x.rest.length) → i < k → (!decide (x.rest[i] ∈ x.moved)) = true }) [3] (fun i => [(5, I i.1)]) (fun H i => H) (fun i => x.rest.length - i.1) (⟨0, Nat.zero_le _, by omega⟩) ⟨jz, jz, trivial⟩ rfl ?_
  rintro ⟨k, hk, hok⟩
  refine nz ?_
  refine wz 5 ?_
  refine iz (fun c_47 c_47' => ?_) (fun c_47 c_47' => ?_)
  ·have hkL : k < x.rest.length := by omega
   refine wz 0 ?_
   refine aw_draw 8 mo (by kernel_rfl) ?_
   refine dz 7 ?_
   refine dkz az (has_pure _ _ h1) ?_
   refine dr_end ?_
   refine wz 0 ?_
   refine iz (fun c_57 c_57' => ?_) (fun c_57 c_57' => ?_)
   ·have hbad : (x.rest.all fun n => !decide (n ∈ x.moved)) = false := all_bad hkL (by rw [decide_eq_true (of_decide_eq_true c_57)]; rfl)
    refine wz 1 ?_
    exact rz rfl (Less.eq (congrArg B (by unfold scOK; rw [all_sym, hbad]; simp)))
   refine wz 3 ?_
   exact ⟨⟨k + 1, by omega, fun i hi h => (by by_cases e : i = k; (subst e; rw [decide_eq_false (of_decide_eq_false c_57)]; rfl); exact hok i hi (by omega))⟩, by simp only; omega, Sub.slots ⟨jz, jz, trivial⟩⟩
  obtain rfl : k = x.rest.length := by omega
  have hall : (x.rest.all fun n => !decide (n ∈ x.moved)) = true := all_of fun j hj => hok j hj hj
  refine wz 1 ?_
  exact rz rfl (Less.eq (congrArg B (by unfold scOK; rw [all_sym, hall]; simp_all)))
theorem rplay_pure (p : Ply) (hh : p.hts.length ≤ 1000000) (hf : p.figs.length ≤ 1000000) (hs : p.scs.length ≤ 1000000) (hx : ∀ x ∈ p.scs, x.moved.length ≤ 1000000 ∧ x.rest.length ≤ 1000000 ∧ x.taken.length ≤ 1000000) : APure Tryz.prog 22 [plA p] (B (plOK p)) := by
  refine ap Tryz.func22 (fun e0 he0 => ?_)
  refine wz 5 ?_
  refine kz az (rin_pure _ _ _) ?_
  refine wz 2 ?_
  refine sz 12 (fun g1_5 g1_5' => ?_) (fun g1_5 g1_5' => ?_)
  ·refine wz 24 ?_
   exact rz rfl (Less.eq (by unfold plOK; simp_all))
  refine wz 3 ?_
  refine ky az (rin_pure _ _ _) ?_
  refine wz 3 ?_
  refine sz 19 (fun g1_12 g1_12' => ?_) (fun g1_12 g1_12' => ?_)
  ·refine wz 17 ?_
   exact rz rfl (Less.eq (by unfold plOK; simp_all))
  refine wz 3 ?_
  refine ky az (rin_pure _ _ _) ?_
  refine wz 3 ?_
  refine sz 26 (fun g1_19 g1_19' => ?_) (fun g1_19 g1_19' => ?_)
  ·refine wz 10 ?_
   exact rz rfl (Less.eq (by unfold plOK; simp_all))
  refine wz 5 ?_
  refine ky az (rin_pure _ _ _) ?_
  refine wz 2 ?_
  refine iz (fun c_34 c_34' => ?_) (fun c_34 c_34' => ?_)
  ·refine wz 1 ?_
   exact rz rfl (Less.eq (by unfold plOK; simp_all))
  refine wz 1 ?_
  refine aw_loopk (ι := { k : Nat // k ≤ p.hts.length ∧ ∀ i, (hi : i < p.hts.length) → i < k → inn p.hts[i] 1 9 = true }) [1] (fun i => [(3, I i.1)]) (fun H i => H) (fun i => p.hts.length - i.1) (⟨0, Nat.zero_le _, by omega⟩) ⟨jz, jz, trivial⟩ rfl ?_
  rintro ⟨k, hk, hok⟩
  refine nz ?_
  refine wz 5 ?_
  refine iz (fun c_39 c_39' => ?_) (fun c_39 c_39' => ?_)
  ·have hkl : k < p.hts.length := by omega
   refine wz 5 ?_
   refine kz az (rin_pure _ _ _) ?_
   refine wz 1 ?_
   refine iz (fun c_48 c_48' => ?_) (fun c_48 c_48' => ?_)
   ·have hbad : (p.hts.all fun n => inn n 1 9) = false := all_bad hkl (by simpa using c_48)
    refine wz 1 ?_
    exact rz rfl (Less.eq (by unfold plOK; rw [hbad]; simp))
   refine wz 3 ?_
   exact ⟨⟨k + 1, by omega, fun i hi h => (by by_cases e : i = k; (subst e; simpa using c_48); exact hok i hi (by omega))⟩, by simp only; omega, Sub.slots ⟨jz, jz, trivial⟩⟩
  obtain rfl : k = p.hts.length := by omega
  have hall1 : (p.hts.all fun n => inn n 1 9) = true := all_of fun j hj => hok j hj hj
  refine wz 1 ?_
  refine aw_loopk (ι := { k : Nat // k ≤ p.figs.length ∧ ∀ i, (hi : i < p.figs.length) → i < k → fgOK p.figs[i] = true }) [1] (fun i => [(4, I i.1)]) (fun H i => H) (fun i => p.figs.length - i.1) (⟨0, Nat.zero_le _, by omega⟩) ⟨jz, jz, trivial⟩ rfl ?_
  rintro ⟨k, hk2, hok2⟩
  refine nz ?_
  refine wz 5 ?_
  refine iz (fun c_53 c_53' => ?_) (fun c_53 c_53' => ?_)
  ·have hfl : k < p.figs.length := by omega
   have hfe : fgOK p.figs[k] = ((!decide (p.figs[k].side < 1) && !decide (p.figs[k].side > 3)) && inn p.figs[k].rank 1 9 && inn p.figs[k].hands 1 2) := by unfold fgOK; rw [show inn p.figs[k].side 1 3 = (!(decide (p.figs[k].side < 1)) && !(decide (p.figs[k].side > 3))) by unfold inn; rw [Bool.eq_iff_iff]; simp]
   refine wz 11 ?_
   refine sz 64 (fun g12_3 g12_3' => ?_) (fun g12_3 g12_3' => ?_)
   ·have hbad : p.figs.all fgOK = false := all_bad hfl (by rw [hfe]; simp [*])
    refine wz 18 ?_
    exact rz rfl (Less.eq (by unfold plOK; rw [hbad]; simp))
   refine wz 5 ?_
   refine sz 69 (fun g12_8 g12_8' => ?_) (fun g12_8 g12_8' => ?_)
   ·have hbad : p.figs.all fgOK = false := all_bad hfl (by rw [hfe]; simp [*])
    refine wz 13 ?_
    exact rz rfl (Less.eq (by unfold plOK; rw [hbad]; simp))
   refine wz 2 ?_
   refine ky az (rin_pure _ _ _) ?_
   refine wz 3 ?_
   refine sz 75 (fun g12_14 g12_14' => ?_) (fun g12_14 g12_14' => ?_)
   ·have hbad : p.figs.all fgOK = false := all_bad hfl (by rw [hfe]; simp [*])
    refine wz 7 ?_
    exact rz rfl (Less.eq (by unfold plOK; rw [hbad]; simp))
   refine wz 2 ?_
   refine ky az (rin_pure _ _ _) ?_
   refine wz 2 ?_
   refine iz (fun c_80 c_80' => ?_) (fun c_80 c_80' => ?_)
   ·have hbad : p.figs.all fgOK = false := all_bad hfl (by rw [hfe]; simp [*])
    refine wz 1 ?_
    exact rz rfl (Less.eq (by unfold plOK; rw [hbad]; simp))
   have hfg : fgOK p.figs[k] = true := by rw [hfe]; simp [*]
   refine wz 3 ?_
   exact ⟨⟨k + 1, by omega, fun i hi h => (by by_cases e : i = k; (subst e; exact hfg); exact hok2 i hi (by omega))⟩, by simp only; omega, sb 1 ⟨jz, jz, trivial⟩⟩
  obtain rfl : k = p.figs.length := by omega
  have hall2 : p.figs.all fgOK = true := all_of fun j hj => hok2 j hj hj
  refine wz 1 ?_
  refine aw_loopk (ι := { k : Nat // k ≤ p.scs.length ∧ ∀ i, (hi : i < p.scs.length) → i < k → scOK p p.scs[i] = true }) [1] (fun i => [(6, I i.1)]) (fun H i => H) (fun i => p.scs.length - i.1) (⟨0, Nat.zero_le _, by omega⟩) ⟨jz, jz, trivial⟩ rfl ?_
  rintro ⟨k, hk3, hok3⟩
  refine nz ?_
  refine wz 5 ?_
  refine iz (fun c_85 c_85' => ?_) (fun c_85 c_85' => ?_)
  ·have hsl : k < p.scs.length := by omega
   have hxk := hx _ (List.getElem_mem hsl)
   refine wz 0 ?_
   refine aw_draw 8 mo (by kernel_rfl) ?_
   refine dz 6 ?_
   refine dkz az (rscene_pure p _ hxk.1 hxk.2.1 hxk.2.2 hh hf) ?_
   refine dz 1 ?_
   refine wz 0 ?_
   refine iz (fun c_95 c_95' => ?_) (fun c_95 c_95' => ?_)
   ·have hbad : p.scs.all (scOK p) = false := all_bad hsl (by simpa using c_95)
    refine wz 1 ?_
    exact rz rfl (Less.eq (by unfold plOK; rw [hbad]; simp))
   refine wz 3 ?_
   exact ⟨⟨k + 1, by omega, fun i hi h => (by by_cases e : i = k; (subst e; simpa using c_95); exact hok3 i hi (by omega))⟩, by simp only; omega, Sub.slots ⟨jz, jz, trivial⟩⟩
  obtain rfl : k = p.scs.length := by omega
  have hall3 : p.scs.all (scOK p) = true := all_of fun j hj => hok3 j hj hj
  refine wz 1 ?_
  exact rz rfl (Less.eq (by unfold plOK; rw [hall1, hall2, hall3]; simp_all))
theorem rscn_pure (p : Ply) (n : Int) (hs : p.scs.length ≤ 1000000) : APure Tryz.prog 26 [plA p, I n] (B (scIn p n)) := by
  refine ap Tryz.func26 (fun e0 he0 => ?_)
  refine wz 7 ?_
  refine kz az (rin_pure _ _ _) ?_
  refine wz 1 ?_
  exact rz rfl jz
theorem rplace_pure (p : Ply) (n : Int) (hh : p.hts.length ≤ 1000000) : APure Tryz.prog 118 [plA p, I n] (B (plIn p n)) := by
  refine ap Tryz.func118 (fun e0 he0 => ?_)
  refine wz 7 ?_
  refine kz az (rin_pure _ _ _) ?_
  refine wz 1 ?_
  exact rz rfl jz
theorem rlist_pure (p : Ply) {k : Nat} (hk : k < p.scs.length) (hh : p.hts.length ≤ 1000000) (hs : p.scs.length ≤ 1000000) (l : List Int) (hl : l.length ≤ 1000000) (hr : (sc p k).rest.length ≤ 1000000) : APure Tryz.prog 57 [plA p, I k, ints l] (B (plsOK p (sc p k) l)) := by
  refine ap Tryz.func57 (fun e0 he0 => ?_)
  refine aw_seq ?_
  have hse := sc_at hk
  rw [hse] at hr
  refine wz 3 ?_
  refine aw_loopk (ι := { m : Nat // m ≤ l.length ∧ ∀ i, (hi : i < l.length) → i < m → plIn p l[i] = true }) [1, 2, 3] (fun i => [(7, I i.1)]) (fun H i => H) (fun i => l.length - i.1) (⟨0, Nat.zero_le _, by omega⟩) ⟨jz, jz, jz, jz, trivial⟩ rfl ?_
  rintro ⟨m, hm, hok⟩
  refine nz ?_
  refine wz 4 ?_
  refine iz (fun c_11 c_11' => ?_) (fun c_11 c_11' => ?_)
  ·have hml : m < l.length := by omega
   refine wz 0 ?_
   refine aw_draw 7 mo (by kernel_rfl) ?_
   refine dz 5 ?_
   refine dkz az (rplace_pure p _ hh) ?_
   refine dz 1 ?_
   refine wz 0 ?_
   refine iz (fun c_20 c_20' => ?_) (fun c_20 c_20' => ?_)
   ·have hbad : l.all (plIn p) = false := all_bad hml (by simpa using c_20)
    refine wz 1 ?_
    exact rz rfl (Less.eq (congrArg B (by unfold plsOK; rw [pls_any, hbad]; simp)))
   refine wz 3 ?_
   exact ⟨⟨m + 1, by omega, fun i hi h => (by by_cases e : i = m; (subst e; simpa using c_20); exact hok i hi (by omega))⟩, by simp only; omega, Sub.slots ⟨jz, jz, jz, jz, trivial⟩⟩
  obtain rfl : m = l.length := by omega
  have hall : l.all (plIn p) = true := all_of fun j hj => hok j hj hj
  refine wz 11 ?_
  exact rz rfl (Less.eq (congrArg B (by unfold plsOK; rw [pls_any, hall, hse]; simp; omega)))
theorem short_pure (p : Ply) : APure Tryz.prog 19 [plA p] (B (shB p)) := by
  refine ap Tryz.func19 (fun e0 he0 => ?_)
  refine wz 3 ?_
  refine aw_loopk (ι := { k : Nat // k ≤ p.scs.length ∧ k ≤ 8 ∧ ∀ i, (hi : i < p.scs.length) → i < k → shX p.scs[i] = true }) [1] (fun i => [(3, I i.1)]) (fun H i => H) (fun i => p.scs.length - i.1) (⟨0, Nat.zero_le _, by omega, by omega⟩) ⟨jz, jz, trivial⟩ rfl ?_
  rintro ⟨k, hk, hk8, hok⟩
  refine nz ?_
  refine wz 6 ?_
  refine sz 10 (fun g2_5 g2_5' => ?_) (fun g2_5 g2_5' => ?_)
  ·have hkl : k < p.scs.length := by omega
   refine wz 3 ?_
   refine iz (fun c_13 c_13' => ?_) (fun c_13 c_13' => ?_)
   ·have hk8b : k < 8 := by have := of_decide_eq_true c_13; omega
    refine wz 12 ?_
    refine sz 25 (fun g5_4 g5_4' => ?_) (fun g5_4 g5_4' => ?_)
    ·have hbad := shB_row hkl hk8b (by unfold shX; simp; omega)
     refine wz 13 ?_
     exact rz rfl (Less.eq (by rw [hbad]))
    refine wz 6 ?_
    refine sz 31 (fun g5_10 g5_10' => ?_) (fun g5_10 g5_10' => ?_)
    ·have hbad := shB_row hkl hk8b (by unfold shX; simp; omega)
     refine wz 7 ?_
     exact rz rfl (Less.eq (by rw [hbad]))
    refine wz 5 ?_
    refine iz (fun c_36 c_36' => ?_) (fun c_36 c_36' => ?_)
    ·have h6 := of_decide_eq_true c_36
     have hbad := shB_row hkl hk8b (by unfold shX; simp; omega)
     refine wz 1 ?_
     exact rz rfl (Less.eq (by rw [hbad]))
    have h6 := of_decide_eq_false c_36
    have hsx : shX p.scs[k] = true := by unfold shX; simp; omega
    refine wz 3 ?_
    exact ⟨⟨k + 1, by omega, by omega, fun i hi h => (by by_cases e : i = k; (subst e; exact hsx); exact hok i hi (by omega))⟩, by simp only; omega, sb 1 ⟨jz, jz, trivial⟩⟩
   refine wz 5 ?_
   refine sz 41 (fun g7_4 g7_4' => ?_) (fun g7_4 g7_4' => ?_)
   ·refine wz 6 ?_
    refine sz 47 (fun g7_10 g7_10' => ?_) (fun g7_10 g7_10' => ?_)
    ·refine wz 6 ?_
     exact rz rfl (Less.eq (congrArg B (by have h9 := of_decide_eq_false c_13; rw [shB_fin (fun i hi h8 => hok i hi (by omega)), Bool.eq_iff_iff]; simp; omega)))
    refine wz 6 ?_
    exact rz rfl (Less.eq (congrArg B (by have h9 := of_decide_eq_false c_13; rw [shB_fin (fun i hi h8 => hok i hi (by omega)), Bool.eq_iff_iff]; simp; omega)))
   refine wz 12 ?_
   exact rz rfl (Less.eq (congrArg B (by have h9 := of_decide_eq_false c_13; rw [shB_fin (fun i hi h8 => hok i hi (by omega)), Bool.eq_iff_iff]; simp; omega)))
  obtain rfl : k = p.scs.length := by omega
  refine wz 9 ?_
  refine sz 41 (fun g7_4 g7_4' => ?_) (fun g7_4 g7_4' => ?_)
  ·refine wz 6 ?_
   refine sz 47 (fun g7_10 g7_10' => ?_) (fun g7_10 g7_10' => ?_)
   ·refine wz 6 ?_
    exact rz rfl (Less.eq (congrArg B (by rw [shB_fin (fun i hi _ => hok i hi hi), Bool.eq_iff_iff]; simp; omega)))
   refine wz 6 ?_
   exact rz rfl (Less.eq (congrArg B (by rw [shB_fin (fun i hi _ => hok i hi hi), Bool.eq_iff_iff]; simp; omega)))
  refine wz 12 ?_
  exact rz rfl (Less.eq (congrArg B (by rw [shB_fin (fun i hi _ => hok i hi hi), Bool.eq_iff_iff]; simp; omega)))
theorem before_pure (a b : List Int) (ha : a.length ≤ 1000000) (hb : b.length ≤ 1000000) : APure Tryz.prog 41 [ints a, ints b] (B (befB a b)) := by
  refine ap Tryz.func41 (fun e0 he0 => ?_)
  refine wz 2 ?_
  refine aw_loopk (ι := { k : Nat // k ≤ a.length ∧ ∀ i, (h1 : i < a.length) → (h2 : i < b.length) → i < k → a[i] = b[i] }) [0, 1] (fun g => [(5, I g.1)]) (fun H g => H) (fun g => a.length - g.1) (⟨0, Nat.zero_le _, by omega⟩) ⟨jz, jz, jz, trivial⟩ rfl ?_
  rintro ⟨k, hk, hok⟩
  refine nz ?_
  refine wz 5 ?_
  refine sz 10 (fun g2_4 g2_4' => ?_) (fun g2_4 g2_4' => ?_)
  ·have hka : k < a.length := by omega
   refine wz 5 ?_
   refine iz (fun c_15 c_15' => ?_) (fun c_15 c_15' => ?_)
   ·have hkb : k < b.length := by have := of_decide_eq_true c_15; omega
    refine wz 0 ?_
    refine aw_draw 9 mo (by kernel_rfl) ?_
    refine dz 9 ?_
    refine wz 0 ?_
    refine iz (fun c_26 c_26' => ?_) (fun c_26 c_26' => ?_)
    ·have hat := befB_at hka hkb hok (by simpa using c_26)
     refine wz 0 ?_
     refine aw_draw 10 mo (by kernel_rfl) ?_
     refine dz 10 ?_
     refine wz 0 ?_
     exact rz rfl (Less.eq (by rw [hat]))
    refine wz 3 ?_
    exact ⟨⟨k + 1, by omega, fun i h1 h2 h => (by by_cases e : i = k; (subst e; simpa using c_26); exact hok i h1 h2 (by omega))⟩, by simp only; omega, Sub.slots ⟨jz, jz, jz, trivial⟩⟩
   have hno := befB_no (a := a) (b := b) (fun i h1 h2 => hok i h1 h2 (by have := of_decide_eq_false c_15; omega))
   refine wz 1 ?_
   exact rz rfl (Less.eq (by rw [hno]))
  have hno := befB_no (a := a) (b := b) (fun i h1 h2 => hok i h1 h2 (by omega))
  refine wz 7 ?_
  exact rz rfl (Less.eq (by rw [hno]))
end Go.Proofs.YtfmpabgblbbcdaaGreatDoor
namespace Go.Proofs.YtfmpabgblbbcdaaGreatDoor
open Go Go.Ab Ni St
open Hd hiding sz
instance en20 : EnT Tryz.prog 20 := ⟨Ent.of Tryz.func20 (by kernel_rfl) rfl⟩
section
variable [Tabs]
section seq
variable {c : Ctx} {ops : Array Oper} {Q : AExit → St → Prop} {rest : List Oper} {s : St} {i : Nat}
variable {d : Option Tmp} {t : TypeId} {p : String} {af : Array Edge}
end seq
section ev
variable {P : Program} {r : Option Nat} {H : List AObj} {ρ : Operand → AV}
variable {d : Option Tmp} {t : TypeId} {p : String} {af : Array Edge} {g : Option (Nat × Bool)}
end ev
end
theorem short_t {p : Ply} (h : shB p = true) : APure Tryz.prog 19 [plA p] (B true) := by have q := short_pure p; rw [h] at q; exact q
theorem short_f {p : Ply} (h : shB p = false) : APure Tryz.prog 19 [plA p] (B false) := by have q := short_pure p; rw [h] at q; exact q
theorem pl_t {p : Ply} (hs : shB p = true) (h : plOK p = true) : APure Tryz.prog 22 [plA p] (B true) := by have q := rplay_pure p (shB_len hs).1 (shB_len hs).2.1 (shB_len hs).2.2.1 (shB_len hs).2.2.2; rw [h] at q; exact q
theorem pl_f {p : Ply} (hs : shB p = true) (h : plOK p = false) : APure Tryz.prog 22 [plA p] (B false) := by have q := rplay_pure p (shB_len hs).1 (shB_len hs).2.1 (shB_len hs).2.2.1 (shB_len hs).2.2.2; rw [h] at q; exact q
end Go.Proofs.YtfmpabgblbbcdaaGreatDoor
namespace Go.Proofs.YtfmpabgblbbcdaaGreatDoor
open Go Go.Ab Ni St
open Hd hiding sz
abbrev lst (p : Ply) (k : Nat) (now : List Int) : List (List Int) := dfs inj p.hts.length k now
theorem arr_lst (b : Bool) (p : Ply) (x : Scn) : arr b p x = (lst p x.rest.length []).filter (suits b p x) := arr_filter b p x
theorem cmp_inv {l : List Int} (hs : l.Pairwise (· ≤ ·)) : ∀ m, m ≤ l.length → (Lib.compactUpTo l.toArray m).Pairwise (· < ·) ∧ ∀ x, x ∈ Lib.compactUpTo l.toArray m ↔ x ∈ l.take m
  | 0, _ => ⟨by simp [Lib.compactUpTo], by simp [Lib.compactUpTo]⟩
  | m + 1, h => by
    obtain ⟨h1, h2⟩ := cmp_inv hs m (by omega)
    have hm : m < l.length := by omega
    have em : l.toArray[m]! = l[m] := by simp [getElem!_pos, hm]
    rw [Lib.compactUpTo_succ, List.take_succ_eq_append_getElem hm, em]
    by_cases hk : Lib.keeps l.toArray m = true
    · rw [if_pos hk]
      refine ⟨List.pairwise_append.2 ⟨h1, List.pairwise_singleton _ _, fun x hx y hy => ?_⟩, fun x => by rw [List.mem_append, List.mem_append, h2]⟩
      rw [List.mem_singleton] at hy; subst hy
      obtain ⟨i, hi, rfl⟩ := List.getElem_of_mem ((h2 x).1 hx)
      rw [List.length_take] at hi
      rw [List.getElem_take]
      have hm1 : m - 1 < l.length := by omega
      have e1 : l.toArray[m - 1]! = l[m - 1] := by simp [getElem!_pos, hm1]
      have hne : l[m] ≠ l[m - 1] := by
        unfold Lib.keeps at hk
        rw [decide_eq_true_eq, em, e1] at hk
        rcases hk with hk | hk
        · omega
        · exact hk
      have le1 : l[m - 1] ≤ l[m] := List.pairwise_iff_getElem.1 hs (m - 1) m (by omega) hm (by omega)
      have le2 : l[i] ≤ l[m - 1] := by
        rcases Nat.lt_or_ge i (m - 1) with q | q
        · exact List.pairwise_iff_getElem.1 hs i (m - 1) (by omega) (by omega) q
        · have e : i = m - 1 := by omega
          subst e; exact Int.le_refl _
      omega
    · rw [if_neg hk, List.append_nil]
      refine ⟨h1, fun x => ?_⟩
      rw [h2, List.mem_append, List.mem_singleton]
      have hm1 : m - 1 < l.length := by omega
      have e1 : l.toArray[m - 1]! = l[m - 1] := by simp [getElem!_pos, hm1]
      unfold Lib.keeps at hk
      rw [decide_eq_true_eq, em, e1] at hk
      have h0 : m ≠ 0 := fun q => hk (.inl q)
      have he : l[m] = l[m - 1] := by
        by_cases q : l[m] = l[m - 1]
        · exact q
        · exact absurd (.inr q) hk
      exact ⟨fun q => .inl q, fun q => by
        rcases q with q | q
        · exact q
        · subst q; rw [he]
          exact List.mem_take_iff_getElem.2 ⟨m - 1, by omega, rfl⟩⟩
theorem rise_ext {l m : List Int} (h1 : l.Pairwise (· < ·)) (h2 : m.Pairwise (· < ·)) (h : ∀ x, x ∈ l ↔ x ∈ m) : l = m := by
  have s1 := Hd.sub_rising h1 h2 fun x hx => (h x).1 hx
  have s2 := Hd.sub_rising h2 h1 fun x hx => (h x).2 hx
  exact s1.eq_of_length_le s2.length_le
def metP (p : Ply) (x : Scn) (i : Nat) (c : Int) : Bool := (arr true p x).any fun l => decide (l.getD i 0 = c)
theorem places_met (p : Ply) (x : Scn) {i : Nat} (hi : i < x.rest.length) : placesOf p x i = (every p.hts.length).filter (metP p x i) := by
  have hsrt : (srtOf (valsOf p x i)).Pairwise (· ≤ ·) := by
    have := List.pairwise_mergeSort (le := fun x y : Int => decide (x ≤ y)) (fun a b c h1 h2 => by simp at *; omega) (fun a b => by simp; omega) (valsOf p x i)
    exact this.imp fun h => by simpa using h
  obtain ⟨h1, h2⟩ := cmp_inv hsrt _ (Nat.le_refl _)
  refine rise_ext (l := placesOf p x i) h1 ((Hd.every_rising _).filter _) fun c => ?_
  have h3 : c ∈ placesOf p x i ↔ c ∈ valsOf p x i := by
    refine (h2 c).trans ?_
    rw [List.take_length]
    exact (List.mergeSort_perm (valsOf p x i) _).mem_iff
  rw [h3, List.mem_filter, Hd.mem_every]
  unfold valsOf metP
  rw [List.mem_map, List.any_eq_true]
  constructor
  · rintro ⟨l, hl, rfl⟩
    obtain ⟨e1, e2, _⟩ := mem_arr.1 hl
    have hil : i < l.length := by omega
    refine ⟨?_, l, hl, by simp⟩
    rw [getD_at hil]; exact e2 _ (List.getElem_mem hil)
  · rintro ⟨_, l, hl, e⟩
    exact ⟨l, hl, of_decide_eq_true e⟩
end Go.Proofs.YtfmpabgblbbcdaaGreatDoor
namespace Go.Proofs.YtfmpabgblbbcdaaGreatDoor
open Go Go.Ab Ni St
open Hd hiding sz
instance en43 : EnT Tryz.prog 43 := ⟨Ent.of Tryz.func43 (by kernel_rfl) rfl⟩
instance en49 : EnT Tryz.prog 49 := ⟨Ent.of Tryz.func49 (by kernel_rfl) rfl⟩
instance en58 : EnT Tryz.prog 58 := ⟨Ent.of Tryz.func58 (by kernel_rfl) rfl⟩
theorem scn_t {p : Ply} {n : Int} (hs : shB p = true) (h : scIn p n = true) : APure Tryz.prog 26 [plA p, I n] (B true) := by have q := rscn_pure p n (shB_len hs).2.2.1; rw [h] at q; exact q
theorem scn_f {p : Ply} {n : Int} (hs : shB p = true) (h : scIn p n = false) : APure Tryz.prog 26 [plA p, I n] (B false) := by have q := rscn_pure p n (shB_len hs).2.2.1; rw [h] at q; exact q
theorem rest_len {p : Ply} (hr : plOK p = true) {k : Nat} (hk : k < p.scs.length) : (sc p k).rest.length ≤ 4 := (sc_B (plOK_B hr) hk).r4
theorem list_t {p : Ply} {k : Nat} {l : List Int} (hs : shB p = true) (hr : plOK p = true) (hk : k < p.scs.length) (hl : l.length ≤ 10) (h : plsOK p (sc p k) l = true) : APure Tryz.prog 57 [plA p, I k, ints l] (B true) := by
  have q := rlist_pure p hk (shB_len hs).1 (shB_len hs).2.2.1 l (by omega) (by have := rest_len hr hk; omega); rw [h] at q; exact q
theorem list_f {p : Ply} {k : Nat} {l : List Int} (hs : shB p = true) (hr : plOK p = true) (hk : k < p.scs.length) (hl : l.length ≤ 10) (h : plsOK p (sc p k) l = false) : APure Tryz.prog 57 [plA p, I k, ints l] (B false) := by
  have q := rlist_pure p hk (shB_len hs).1 (shB_len hs).2.2.1 l (by omega) (by have := rest_len hr hk; omega); rw [h] at q; exact q
theorem has_t {l : List Int} {g : Int} (hl : l.length ≤ 1000000) (h : g ∈ l) : APure Tryz.prog 27 [ints l, I g] (B true) := by have q := has_pure l g hl; rw [decide_eq_true h] at q; exact q
theorem headD_at {α : Type} : ∀ {l : List α} {d : α} (h : 0 < l.length), l.headD d = l[0]
  | a :: l, d, _ => rfl
theorem first_n {p : Ply} {k : Nat} (hs : shB p = true) (hr : plOK p = true) (hn : k < p.scs.length) (hz : arr true p (sc p k) = []) : APure Tryz.prog 44 [plA p, I k] (.tup [ints [], I 5]) := by
  have q := xfirst_ok (shB_len hs).1 (shB_len hs).2.1 (shB_len hs).2.2.1 (shB_len hs).2.2.2 hn hr; rw [if_pos hz, hz] at q; exact q
theorem first_s {p : Ply} {k : Nat} (hs : shB p = true) (hr : plOK p = true) (hn : k < p.scs.length) (hz : 0 < (arr true p (sc p k)).length) : APure Tryz.prog 44 [plA p, I k] (.tup [ints (arr true p (sc p k))[0], I 0]) := by
  have q := xfirst_ok (shB_len hs).1 (shB_len hs).2.1 (shB_len hs).2.2.1 (shB_len hs).2.2.2 hn hr
  rw [if_neg (fun h => by rw [h] at hz; simp at hz), headD_at hz] at q; exact q
theorem count_n {p : Ply} {k : Nat} (hs : shB p = true) (hr : plOK p = true) (hn : k < p.scs.length) (hz : arr true p (sc p k) = []) : APure Tryz.prog 43 [plA p, I k] (.tup [I 0, I 0]) := by
  have q := xcount_ok (shB_len hs).1 (shB_len hs).2.1 (shB_len hs).2.2.1 (shB_len hs).2.2.2 hn hr; rw [hz] at q; exact q
theorem places_s {p : Ply} {k : Nat} {g : Int} {i : Nat} (hs : shB p = true) (hr : plOK p = true) (hn : k < p.scs.length) (hi : i < (sc p k).rest.length) (h3 : ixQ (fun x => decide (g = x)) (sc p k).rest = (i : Int)) (hz : 0 < (arr true p (sc p k)).length) : APure Tryz.prog 45 [plA p, I k, I g] (.tup [ints (placesOf p (sc p k) i), I 0]) := by
  have q := xplaces_ok (shB_len hs).1 (shB_len hs).2.1 (shB_len hs).2.2.1 (shB_len hs).2.2.2 hn hr hi h3; rw [if_neg (fun h => by rw [h] at hz; simp at hz)] at q; exact q
theorem placesOf_len {p : Ply} (gP : PlB p) {x : Scn} {i : Nat} (hi : i < x.rest.length) : (placesOf p x i).length ≤ 6 := by
  rw [places_met p x hi]
  have h1 := List.length_filter_le (metP p x i) (every p.hts.length)
  have h2 : (every p.hts.length).length = p.hts.length := by simp [every]
  have := gP.nh; omega
end Go.Proofs.YtfmpabgblbbcdaaGreatDoor
namespace Go.Proofs.YtfmpabgblbbcdaaGreatDoor
open Go Go.Ab Ni St
open Hd hiding sz
theorem no_suits {b : Bool} {p : Ply} {x : Scn} {l : List Int} (h : arr b p x = []) (ho : plsOK p x l = true) : suits b p x l = false := by
  cases e : suits b p x l with
  | false => rfl
  | true =>
    have := mem_arr.2 ⟨(plsOK_iff.1 ho).1, (plsOK_iff.1 ho).2, e⟩
    rw [h] at this; cases this
theorem can_t {p : Ply} {k : Nat} {b : Bool} (hs : shB p = true) (hr : plOK p = true) (hn : k < p.scs.length) (e : St.can p (sc p k) = b) : APure Tryz.prog 49 [plA p, I k] (.tup [B b, I 0]) := by
  have q := xcan_ok (shB_len hs).1 (shB_len hs).2.1 (shB_len hs).2.2.1 (shB_len hs).2.2.2 hn hr; rw [e] at q; exact q
theorem rests_e {p : Ply} {k : Nat} {l : List Int} {b : Bool} (hs : shB p = true) (hr : plOK p = true) (hn : k < p.scs.length) (hl : l.length ≤ 1000000) (ho : plsOK p (sc p k) l = true) (e : suits true p (sc p k) l = b) : APure Tryz.prog 58 [plA p, I k, ints l] (.tup [B b, I 0]) := by
  have q := xrests_ok (shB_len hs).1 (shB_len hs).2.1 (shB_len hs).2.2.1 (shB_len hs).2.2.2 hn hr hl ho; rw [e] at q; exact q
end Go.Proofs.YtfmpabgblbbcdaaGreatDoor
namespace Go.Proofs.YtfmpabgblbbcdaaGreatDoor
open Go Go.Ab Ni St
open Hd hiding sz
theorem lst_360 : ∀ n : Fin 7, ∀ k : Fin 5, (dfs inj n.val k.val []).length ≤ 360 := by decide +kernel
theorem arr_360 {p : Ply} (gP : PlB p) {x : Scn} (gX : ScB p x) : (arr true p x).length ≤ 360 := by
  rw [arr_lst]
  have h1 := List.length_filter_le (suits true p x) (lst p x.rest.length [])
  have hn := gP.nh
  have hk := gX.r4
  have h2 := lst_360 ⟨p.hts.length, by omega⟩ ⟨x.rest.length, by omega⟩
  exact Nat.le_trans h1 h2
theorem ix_self {l : List Int} (hs : l.Pairwise (· < ·)) {i : Nat} (hi : i < l.length) : ixQ (fun x => decide (l[i] = x)) l = (i : Int) :=
  ixQ_at (q := fun x => decide (l[i] = x)) hi (decide_eq_true rfl) fun j hj q => decide_eq_false fun e => by have := List.pairwise_iff_getElem.1 hs j i hj hi q; omega
theorem at_place {p : Ply} {x : Scn} {i : Nat} (hi : i < x.rest.length) {l : List Int} (h : l ∈ arr true p x) (hl : i < l.length) : l[i] ∈ placesOf p x i := by
  rw [places_met p x hi, List.mem_filter, Hd.mem_every]
  refine ⟨(mem_arr.1 h).2.1 _ (List.getElem_mem hl), ?_⟩
  unfold metP; rw [List.any_eq_true]
  exact ⟨l, h, by rw [getD_at hl]; simp⟩
theorem lex_bef {a b : List Int} (hl : a.length = b.length) (h : Hd.lex a b = true) : befB b a = false := by
  induction a generalizing b with
  | nil => cases b with
    | nil => rfl
    | cons y b => simp at hl
  | cons x a ih => cases b with
    | nil => simp at hl
    | cons y b =>
      unfold Hd.lex at h; unfold befB
      by_cases e : x = y
      · rw [if_pos e] at h; rw [if_pos e.symm]; exact ih (by simpa using hl) h
      · rw [if_neg e] at h; rw [if_neg (fun q => e q.symm)]; have := of_decide_eq_true h; exact decide_eq_false (by omega)
theorem bef_irr : ∀ l : List Int, befB l l = false
  | [] => rfl
  | x :: l => by unfold befB; rw [if_pos rfl]; exact bef_irr l
theorem lex_irr : ∀ l : List Int, Hd.lex l l = false
  | [] => rfl
  | x :: l => by unfold Hd.lex; rw [if_pos rfl]; exact lex_irr l
theorem first_bef {p : Ply} {x : Scn} (hz : 0 < (arr true p x).length) {l : List Int} (h : l ∈ arr true p x) : befB l (arr true p x)[0] = false := by
  obtain ⟨i, hi, rfl⟩ := List.getElem_of_mem h
  rcases Nat.eq_zero_or_pos i with q | q
  · subst q; exact bef_irr _
  · have h1 := List.pairwise_iff_getElem.1 (arr_lex true p x) 0 i hz hi q
    exact lex_bef (by rw [(mem_arr.1 (List.getElem_mem hz)).1, (mem_arr.1 (List.getElem_mem hi)).1]) h1
def moreB (p : Ply) (x : Scn) (n : Nat) : Bool := decide (∃ j, j < n ∧ 1 < (placesOf p x j).length)
theorem moreB_succ (p : Ply) (x : Scn) (n : Nat) : moreB p x (n + 1) = (moreB p x n || decide (1 < (placesOf p x n).length)) := by
  unfold moreB
  rw [Bool.eq_iff_iff, Bool.or_eq_true, decide_eq_true_eq, decide_eq_true_eq, decide_eq_true_eq]
  constructor
  · rintro ⟨j, h1, h2⟩
    rcases Nat.lt_or_ge j n with q | q
    · exact .inl ⟨j, q, h2⟩
    · obtain rfl : j = n := by omega
      exact .inr h2
  · rintro (⟨j, h1, h2⟩ | h)
    · exact ⟨j, by omega, h2⟩
    · exact ⟨n, by omega, h⟩
theorem two_len {l : List Int} {a b : Int} (ha : a ∈ l) (hb : b ∈ l) (h : a ≠ b) : 1 < l.length := by
  match l, ha, hb with
  | [c], ha, hb => rw [List.mem_singleton] at ha hb; exact absurd (ha.trans hb.symm) h
  | c :: d :: l, _, _ => simp
theorem two_arr {l : List (List Int)} {a b : List Int} (ha : a ∈ l) (hb : b ∈ l) (h : a ≠ b) : 1 < l.length := by
  match l, ha, hb with
  | [c], ha, hb => rw [List.mem_singleton] at ha hb; exact absurd (ha.trans hb.symm) h
  | c :: d :: l, _, _ => simp
theorem more_iff {p : Ply} {x : Scn} : moreB p x x.rest.length = decide (((arr true p x).length : Int) > 1) := by
  unfold moreB
  rw [decide_eq_decide]
  constructor
  · rintro ⟨j, hj, h⟩
    have hr : (placesOf p x j).Pairwise (· < ·) := by rw [places_met p x hj]; exact (Hd.every_rising _).filter _
    have h01 := List.pairwise_iff_getElem.1 hr 0 1 (by omega) h (by omega)
    have key : ∀ (c : Int), c ∈ placesOf p x j → ∃ l, l ∈ arr true p x ∧ l.getD j 0 = c := fun c hc => by
      rw [places_met p x hj, List.mem_filter] at hc
      have := hc.2; unfold metP at this; rw [List.any_eq_true] at this
      obtain ⟨l, h1, h2⟩ := this
      exact ⟨l, h1, of_decide_eq_true h2⟩
    obtain ⟨a, ha, ea⟩ := key _ (List.getElem_mem (show 0 < (placesOf p x j).length by omega))
    obtain ⟨b, hb, eb⟩ := key _ (List.getElem_mem h)
    have := two_arr ha hb (fun e => by subst e; omega)
    omega
  · intro h
    have h0 : 0 < (arr true p x).length := by omega
    have h1 : 1 < (arr true p x).length := by omega
    have hlex := List.pairwise_iff_getElem.1 (arr_lex true p x) 0 1 h0 h1 (by omega)
    have l0 := (mem_arr.1 (List.getElem_mem h0)).1
    have l1 := (mem_arr.1 (List.getElem_mem h1)).1
    have hne : (arr true p x)[0] ≠ (arr true p x)[1] := fun e => by rw [e, lex_irr] at hlex; cases hlex
    by_cases hq : ∃ j, j < x.rest.length ∧ (arr true p x)[0].getD j 0 ≠ (arr true p x)[1].getD j 0
    · obtain ⟨j, hj, hd⟩ := hq
      refine ⟨j, hj, two_len (at_place hj (List.getElem_mem h0) (by omega)) (at_place hj (List.getElem_mem h1) (by omega)) (fun e => hd ?_)⟩
      rw [getD_at (by omega), getD_at (by omega)]; exact e
    · exfalso
      refine hne (List.ext_getElem (by omega) fun j hj1 hj2 => ?_)
      have : (arr true p x)[0].getD j 0 = (arr true p x)[1].getD j 0 := by
        by_cases q : (arr true p x)[0].getD j 0 = (arr true p x)[1].getD j 0
        · exact q
        · exact absurd ⟨j, by omega, q⟩ hq
      rwa [getD_at hj1, getD_at hj2] at this
theorem can_pos {p : Ply} {x : Scn} (hz : 0 < (arr true p x).length) : St.can p x = decide (hands p x ≤ 2) := by
  unfold St.can
  cases h : arr true p x with
  | nil => rw [h] at hz; simp at hz
  | cons a m => simp
theorem can_nil {p : Ply} {x : Scn} (hz : arr true p x = []) : St.can p x = false := by unfold St.can; rw [hz]; simp
theorem bef_f {a b : List Int} (ha : a.length ≤ 1000000) (hb : b.length ≤ 1000000) (h : befB a b = false) : APure Tryz.prog 41 [ints a, ints b] (B false) := by have q := before_pure a b ha hb; rw [h] at q; exact q
theorem pls_of {p : Ply} {x : Scn} {l : List Int} (h : l ∈ arr true p x) : plsOK p x l = true ∧ suits true p x l = true := ⟨plsOK_iff.2 ⟨(mem_arr.1 h).1, (mem_arr.1 h).2.1⟩, (mem_arr.1 h).2.2⟩
theorem law18_a {p : Ply} {n : Int} {l : List Int} (hs : shB p = false) : APure Tryz.prog 18 [plA p, I n, ints l] (B true) := by
  refine ap Tryz.func18 (fun e0 he0 => ?_)
  refine wz 3 ?_
  refine kz az (short_f hs) ?_
  refine wz 25 ?_
  refine kz az (known_pure) ?_
  refine wz 1 ?_
  exact rz rfl jz
theorem law18_b {p : Ply} {n : Int} {l : List Int} (hs : shB p = true) (hl : ¬ l.length ≤ 10) : APure Tryz.prog 18 [plA p, I n, ints l] (B true) := by
  refine ap Tryz.func18 (fun e0 he0 => ?_)
  refine wz 3 ?_
  refine kz az (short_t hs) ?_
  refine wz 7 ?_
  refine sz 31 (fun g1_8 g1_8' => ?_) (fun g1_8 g1_8' => ?_)
  ·refine wz 18 ?_
   refine kz az (known_pure) ?_
   refine wz 1 ?_
   exact rz rfl jz
  exfalso
  omega
theorem law18_c {p : Ply} {n : Int} {l : List Int} (hs : shB p = true) (hl : l.length ≤ 10) (hr : plOK p = false) : APure Tryz.prog 18 [plA p, I n, ints l] (B true) := by
  refine ap Tryz.func18 (fun e0 he0 => ?_)
  refine wz 3 ?_
  refine kz az (short_t hs) ?_
  refine wz 7 ?_
  refine sz 31 (fun g1_8 g1_8' => ?_) (fun g1_8 g1_8' => ?_)
  ·exfalso
   omega
  refine wz 1 ?_
  refine ky az (pl_f hs hr) ?_
  refine wz 16 ?_
  refine kz az (known_pure) ?_
  refine wz 1 ?_
  exact rz rfl jz
theorem law18_d {p : Ply} {n : Int} {l : List Int} (hs : shB p = true) (hl : l.length ≤ 10) (hr : plOK p = true) (hi : scIn p n = false) : APure Tryz.prog 18 [plA p, I n, ints l] (B true) := by
  refine ap Tryz.func18 (fun e0 he0 => ?_)
  refine wz 3 ?_
  refine kz az (short_t hs) ?_
  refine wz 7 ?_
  refine sz 31 (fun g1_8 g1_8' => ?_) (fun g1_8 g1_8' => ?_)
  ·exfalso
   omega
  refine wz 1 ?_
  refine ky az (pl_t hs hr) ?_
  refine wz 5 ?_
  refine ky az (scn_f hs hi) ?_
  refine wz 10 ?_
  refine kz az (known_pure) ?_
  refine wz 1 ?_
  exact rz rfl jz
theorem law18_e {p : Ply} {k : Nat} {l : List Int} (hs : shB p = true) (hl : l.length ≤ 10) (hr : plOK p = true) (hi : scIn p k = true) (hn : k < p.scs.length) (hd : plsOK p (sc p k) l = false) : APure Tryz.prog 18 [plA p, I k, ints l] (B true) := by
  refine ap Tryz.func18 (fun e0 he0 => ?_)
  refine wz 3 ?_
  refine kz az (short_t hs) ?_
  refine wz 7 ?_
  refine sz 31 (fun g1_8 g1_8' => ?_) (fun g1_8 g1_8' => ?_)
  ·exfalso
   omega
  refine wz 1 ?_
  refine ky az (pl_t hs hr) ?_
  refine wz 5 ?_
  refine ky az (scn_t hs hi) ?_
  refine wz 6 ?_
  refine ky az (list_f hs hr hn hl hd) ?_
  refine wz 3 ?_
  refine kz az (known_pure) ?_
  refine wz 1 ?_
  exact rz rfl jz
theorem law18_f {p : Ply} {k : Nat} {l : List Int} (hs : shB p = true) (hl : l.length ≤ 10) (hr : plOK p = true) (hi : scIn p k = true) (hn : k < p.scs.length) (hd : plsOK p (sc p k) l = true) (hz : arr true p (sc p k) = []) : APure Tryz.prog 18 [plA p, I k, ints l] (B true) := by
  refine ap Tryz.func18 (fun e0 he0 => ?_)
  refine wz 3 ?_
  refine kz az (short_t hs) ?_
  refine wz 7 ?_
  refine sz 31 (fun g1_8 g1_8' => ?_) (fun g1_8 g1_8' => ?_)
  ·exfalso
   omega
  refine wz 1 ?_
  refine ky az (pl_t hs hr) ?_
  refine wz 5 ?_
  refine ky az (scn_t hs hi) ?_
  refine wz 6 ?_
  refine ky az (list_t hs hr hn hl hd) ?_
  refine wz 6 ?_
  refine kz az (rests_e hs hr hn (by omega) hd (no_suits hz hd)) ?_
  refine wz 7 ?_
  refine kz az (count_n hs hr hn hz) ?_
  refine wz 7 ?_
  refine kz az (first_n hs hr hn hz) ?_
  refine wz 7 ?_
  refine kz az (can_t hs hr hn (can_nil hz)) ?_
  refine wz 7 ?_
  refine kz az (xhands_ok (shB_len hs).1 (shB_len hs).2.1 (shB_len hs).2.2.1 (shB_len hs).2.2.2 hn hr) ?_
  refine wz 63 ?_
  refine kz az (known_pure) ?_
  refine wz 1 ?_
  exact rz rfl jz
theorem law18_g {p : Ply} {k : Nat} {l : List Int} (hs : shB p = true) (hl : l.length ≤ 10) (hr : plOK p = true) (hi : scIn p k = true) (hn : k < p.scs.length) (hd : plsOK p (sc p k) l = true) (hz : 0 < (arr true p (sc p k)).length) (h36 : (arr true p (sc p k)).length ≤ 360) (hP : PlB p) (hX : ScB p (sc p k)) (hB : suits true p (sc p k) l = true → befB l (arr true p (sc p k))[0] = false) (hM : suits true p (sc p k) l = true → l ∈ (arr true p (sc p k))) (hb : suits true p (sc p k) l = true) : APure Tryz.prog 18 [plA p, I k, ints l] (B true) := by
  refine ap Tryz.func18 (fun e0 he0 => ?_)
  refine wz 3 ?_
  refine kz az (short_t hs) ?_
  refine wz 7 ?_
  refine sz 31 (fun g1_8 g1_8' => ?_) (fun g1_8 g1_8' => ?_)
  ·exfalso
   omega
  refine wz 1 ?_
  refine ky az (pl_t hs hr) ?_
  refine wz 5 ?_
  refine ky az (scn_t hs hi) ?_
  refine wz 6 ?_
  refine ky az (list_t hs hr hn hl hd) ?_
  refine vz 3 ?_
  refine aw_skip ?_
  refine aw_seq ?_
  have hr4 := hX.r4
  have hll := (plsOK_iff.1 hd).1
  have h0l := (mem_arr.1 (List.getElem_mem hz)).1
  refine wz 3 ?_
  refine kz az (rests_e hs hr hn (by omega) hd hb) ?_
  refine wz 7 ?_
  refine kz az (xcount_ok (shB_len hs).1 (shB_len hs).2.1 (shB_len hs).2.2.1 (shB_len hs).2.2.2 hn hr) ?_
  refine wz 7 ?_
  refine kz az (first_s hs hr hn hz) ?_
  refine wz 7 ?_
  refine kz az (can_t hs hr hn (can_pos hz)) ?_
  refine wz 7 ?_
  refine kz az (xhands_ok (shB_len hs).1 (shB_len hs).2.1 (shB_len hs).2.2.1 (shB_len hs).2.2.2 hn hr) ?_
  refine wz 32 ?_
  refine sz 107 (fun g8_26 g8_26' => ?_) (fun g8_26 g8_26' => ?_)
  ·exfalso
   omega
  refine wz 4 ?_
  refine sz 111 (fun g8_30 g8_30' => ?_) (fun g8_30 g8_30' => ?_)
  ·exfalso
   omega
  refine wz 7 ?_
  refine sz 118 (fun g8_37 g8_37' => ?_) (fun g8_37 g8_37' => ?_)
  ·exfalso
   have e : decide (((arr true p (sc p k)).length : Int) > 0) = true := decide_eq_true (by omega)
   rw [e] at g8_37
   simp at g8_37
  refine wz 4 ?_
  refine sz 122 (fun g8_41 g8_41' => ?_) (fun g8_41 g8_41' => ?_)
  ·refine wz 6 ?_
   refine sz 128 (fun g8_47 g8_47' => ?_) (fun g8_47 g8_47' => ?_)
   ·exfalso
    simp at g8_47
   refine wz 6 ?_
   refine iz (fun c_134 c_134' => ?_) (fun c_134 c_134' => ?_)
   ·exfalso
    omega
   refine wz 2 ?_
   refine iz (fun c_136 c_136' => ?_) (fun c_136 c_136' => ?_)
   ·exfalso
    omega
   refine wz 3 ?_
   refine kz az (rests_e hs hr hn (by omega) (pls_of (List.getElem_mem hz)).1 (pls_of (List.getElem_mem hz)).2) ?_
   refine wz 8 ?_
   refine kz az (list_t hs hr hn (by omega) (pls_of (List.getElem_mem hz)).1) ?_
   refine wz 14 ?_
   refine ky az (bef_f (by omega) (by omega) (hB hb)) ?_
   refine wz 5 ?_
   refine aw_loopk (ι := { i : Nat // i ≤ l.length }) [1, 2, 3, 7, 9, 11] (fun g => [(19, B (moreB p (sc p k) g.1)), (20, I g.1)]) (fun H g => H) (fun g => l.length - g.1) (⟨0, Nat.zero_le _⟩) ⟨(by exact less_b (by unfold moreB; simp)), jz, jz, jz, jz, jz, jz, jz, trivial⟩ rfl ?_
   rintro ⟨i, hi⟩
   refine nz ?_
   refine wz 4 ?_
   refine iz (fun c_169 c_169' => ?_) (fun c_169 c_169' => ?_)
   ·have hil : i < l.length := by omega
    have hir : i < (sc p k).rest.length := by omega
    refine wz 0 ?_
    refine aw_draw 17 mo (by kernel_rfl) ?_
    refine dz 5 ?_
    refine dr_ev rfl (ev_less (ev_index_map (k := k) (xs := p.scs) sl24.h jz jz rfl hn) (Less.eq (b := .iptr (scC (sc p k))) (by rw [sc_at hn]))) ?_
    refine dz 3 ?_
    refine dr_ev rfl (ev_index_map (k := i) (xs := (sc p k).rest) sl22.h jz jz rfl hir) ?_
    refine dz 1 ?_
    refine dkz az (places_s hs hr hn hir (ix_self (rising_iff.1 hX.rs).1 hir) hz) ?_
    refine dz 5 ?_
    refine wz 8 ?_
    refine sz 194 (fun g20_7 g20_7' => ?_) (fun g20_7 g20_7' => ?_)
    ·exfalso
     have := placesOf_len hP (x := sc p k) hir
     omega
    refine wz 3 ?_
    refine sq_yes rfl rfl (less_b g20_7) rfl (ev_index_map (k := i) (xs := (arr true p (sc p k))[0]) sl22.h jz jz rfl (by omega)) ?_
    refine wz 1 ?_
    refine ky az (has_t (by have := placesOf_len hP (x := sc p k) hir; omega) (at_place hir (List.getElem_mem hz) (by omega))) ?_
    refine wz 10 ?_
    refine ky az (has_t (by have := placesOf_len hP (x := sc p k) hir; omega) (at_place hir (hM hb) hil)) ?_
    refine wz 6 ?_
    refine sz 216 (fun g22_1 g22_1' => ?_) (fun g22_1 g22_1' => ?_)
    ·refine wz 8 ?_
     exact ⟨⟨i + 1, by omega⟩, by simp only; omega, Sub.slots ⟨(by exact less_b (by rw [moreB_succ]; simp [*]; try omega)), jz, jz, jz, jz, jz, jz, jz, trivial⟩⟩
    refine wz 8 ?_
    exact ⟨⟨i + 1, by omega⟩, by simp only; omega, Sub.slots ⟨(by exact less_b (by rw [moreB_succ]; simp [*]; try omega)), jz, jz, jz, jz, jz, jz, jz, trivial⟩⟩
   obtain rfl : i = l.length := by omega
   rw [hll]
   refine wz 5 ?_
   refine sz 225 (fun g23_4 g23_4' => ?_) (fun g23_4 g23_4' => ?_)
   ·refine ky az (known_pure) ?_
    refine wz 2 ?_
    exact rz rfl jz
   exfalso
   have hmo := more_iff (p := p) (x := sc p k)
   rw [hmo] at g23_4
   simp at g23_4
  exfalso
  omega
theorem law18_h {p : Ply} {k : Nat} {l : List Int} (hs : shB p = true) (hl : l.length ≤ 10) (hr : plOK p = true) (hi : scIn p k = true) (hn : k < p.scs.length) (hd : plsOK p (sc p k) l = true) (hz : 0 < (arr true p (sc p k)).length) (h36 : (arr true p (sc p k)).length ≤ 360) (hP : PlB p) (hX : ScB p (sc p k)) (hB : suits true p (sc p k) l = true → befB l (arr true p (sc p k))[0] = false) (hM : suits true p (sc p k) l = true → l ∈ (arr true p (sc p k))) (hb : suits true p (sc p k) l = false) : APure Tryz.prog 18 [plA p, I k, ints l] (B true) := by
  refine ap Tryz.func18 (fun e0 he0 => ?_)
  refine wz 3 ?_
  refine kz az (short_t hs) ?_
  refine wz 7 ?_
  refine sz 31 (fun g1_8 g1_8' => ?_) (fun g1_8 g1_8' => ?_)
  ·exfalso
   omega
  refine wz 1 ?_
  refine ky az (pl_t hs hr) ?_
  refine wz 5 ?_
  refine ky az (scn_t hs hi) ?_
  refine wz 6 ?_
  refine ky az (list_t hs hr hn hl hd) ?_
  refine vz 3 ?_
  refine aw_skip ?_
  refine aw_seq ?_
  have hr4 := hX.r4
  have hll := (plsOK_iff.1 hd).1
  have h0l := (mem_arr.1 (List.getElem_mem hz)).1
  refine wz 3 ?_
  refine kz az (rests_e hs hr hn (by omega) hd hb) ?_
  refine wz 7 ?_
  refine kz az (xcount_ok (shB_len hs).1 (shB_len hs).2.1 (shB_len hs).2.2.1 (shB_len hs).2.2.2 hn hr) ?_
  refine wz 7 ?_
  refine kz az (first_s hs hr hn hz) ?_
  refine wz 7 ?_
  refine kz az (can_t hs hr hn (can_pos hz)) ?_
  refine wz 7 ?_
  refine kz az (xhands_ok (shB_len hs).1 (shB_len hs).2.1 (shB_len hs).2.2.1 (shB_len hs).2.2.2 hn hr) ?_
  refine wz 32 ?_
  refine sz 107 (fun g8_26 g8_26' => ?_) (fun g8_26 g8_26' => ?_)
  ·exfalso
   omega
  refine wz 4 ?_
  refine sz 111 (fun g8_30 g8_30' => ?_) (fun g8_30 g8_30' => ?_)
  ·exfalso
   omega
  refine wz 7 ?_
  refine sz 118 (fun g8_37 g8_37' => ?_) (fun g8_37 g8_37' => ?_)
  ·exfalso
   have e : decide (((arr true p (sc p k)).length : Int) > 0) = true := decide_eq_true (by omega)
   rw [e] at g8_37
   simp at g8_37
  refine wz 4 ?_
  refine sz 122 (fun g8_41 g8_41' => ?_) (fun g8_41 g8_41' => ?_)
  ·refine wz 6 ?_
   refine sz 128 (fun g8_47 g8_47' => ?_) (fun g8_47 g8_47' => ?_)
   ·exfalso
    simp at g8_47
   refine wz 9 ?_
   refine iz (fun c_136 c_136' => ?_) (fun c_136 c_136' => ?_)
   ·exfalso
    omega
   refine wz 3 ?_
   refine kz az (rests_e hs hr hn (by omega) (pls_of (List.getElem_mem hz)).1 (pls_of (List.getElem_mem hz)).2) ?_
   refine wz 8 ?_
   refine kz az (list_t hs hr hn (by omega) (pls_of (List.getElem_mem hz)).1) ?_
   refine wz 20 ?_
   refine aw_loopk (ι := { i : Nat // i ≤ l.length }) [1, 2, 3, 7, 9, 11] (fun g => [(19, B (moreB p (sc p k) g.1)), (20, I g.1)]) (fun H g => H) (fun g => l.length - g.1) (⟨0, Nat.zero_le _⟩) ⟨(by exact less_b (by unfold moreB; simp)), jz, jz, jz, jz, jz, jz, jz, trivial⟩ rfl ?_
   rintro ⟨i, hi⟩
   refine nz ?_
   refine wz 4 ?_
   refine iz (fun c_169 c_169' => ?_) (fun c_169 c_169' => ?_)
   ·have hil : i < l.length := by omega
    have hir : i < (sc p k).rest.length := by omega
    refine wz 0 ?_
    refine aw_draw 17 mo (by kernel_rfl) ?_
    refine dz 5 ?_
    refine dr_ev rfl (ev_less (ev_index_map (k := k) (xs := p.scs) sl24.h jz jz rfl hn) (Less.eq (b := .iptr (scC (sc p k))) (by rw [sc_at hn]))) ?_
    refine dz 3 ?_
    refine dr_ev rfl (ev_index_map (k := i) (xs := (sc p k).rest) sl22.h jz jz rfl hir) ?_
    refine dz 1 ?_
    refine dkz az (places_s hs hr hn hir (ix_self (rising_iff.1 hX.rs).1 hir) hz) ?_
    refine dz 5 ?_
    refine wz 8 ?_
    refine sz 194 (fun g20_7 g20_7' => ?_) (fun g20_7 g20_7' => ?_)
    ·exfalso
     have := placesOf_len hP (x := sc p k) hir
     omega
    refine wz 3 ?_
    refine sq_yes rfl rfl (less_b g20_7) rfl (ev_index_map (k := i) (xs := (arr true p (sc p k))[0]) sl22.h jz jz rfl (by omega)) ?_
    refine wz 1 ?_
    refine ky az (has_t (by have := placesOf_len hP (x := sc p k) hir; omega) (at_place hir (List.getElem_mem hz) (by omega))) ?_
    refine wz 17 ?_
    refine sz 216 (fun g22_1 g22_1' => ?_) (fun g22_1 g22_1' => ?_)
    ·refine wz 8 ?_
     exact ⟨⟨i + 1, by omega⟩, by simp only; omega, Sub.slots ⟨(by exact less_b (by rw [moreB_succ]; simp [*]; try omega)), jz, jz, jz, jz, jz, jz, jz, trivial⟩⟩
    refine wz 8 ?_
    exact ⟨⟨i + 1, by omega⟩, by simp only; omega, Sub.slots ⟨(by exact less_b (by rw [moreB_succ]; simp [*]; try omega)), jz, jz, jz, jz, jz, jz, jz, trivial⟩⟩
   obtain rfl : i = l.length := by omega
   rw [hll]
   refine wz 5 ?_
   refine sz 225 (fun g23_4 g23_4' => ?_) (fun g23_4 g23_4' => ?_)
   ·refine ky az (known_pure) ?_
    refine wz 2 ?_
    exact rz rfl jz
   exfalso
   have hmo := more_iff (p := p) (x := sc p k)
   rw [hmo] at g23_4
   simp at g23_4
  exfalso
  omega
/-- **StemFirst.** -/
theorem law18 (p : Ply) (n : Int) (_ : -9223372036854775808 ≤ n) (_ : n ≤ 9223372036854775807) (l : List Int) : APure Tryz.prog 18 [plA p, I n, ints l] (B true) := by
  cases hs : shB p with
  | false => exact law18_a hs
  | true =>
    by_cases hl : l.length ≤ 10
    · cases hr : plOK p with
      | false => exact law18_c hs hl hr
      | true =>
        cases hi : scIn p n with
        | false => exact law18_d hs hl hr hi
        | true =>
          obtain ⟨k, rfl, hn⟩ := scIn_iff.1 hi
          cases hd : plsOK p (sc p k) l with
          | false => exact law18_e hs hl hr hi hn hd
          | true =>
            have hP := plOK_B hr
            have hX := sc_B hP hn
            have hM : suits true p (sc p k) l = true → l ∈ arr true p (sc p k) := fun q => mem_arr.2 ⟨(plsOK_iff.1 hd).1, (plsOK_iff.1 hd).2, q⟩
            rcases Nat.eq_zero_or_pos (arr true p (sc p k)).length with hz | hz
            · exact law18_f hs hl hr hi hn hd (List.length_eq_zero_iff.1 hz)
            · cases hb : suits true p (sc p k) l with
              | true => exact law18_g hs hl hr hi hn hd hz (arr_360 hP hX) hP hX (fun q => first_bef hz (hM q)) hM hb
              | false => exact law18_h hs hl hr hi hn hd hz (arr_360 hP hX) hP hX (fun q => first_bef hz (hM q)) hM hb
    · exact law18_b hs hl
end Go.Proofs.YtfmpabgblbbcdaaGreatDoor
