/-
  A part of the proof: conditions: none beyond each theorem's own.
-/
import Derived.Test.YtfmpabgblbbcdaaGreatDoorLogicA
import Derived.Test.YtfmpabgblbbcdaaGreatDoorLogicD
import Derived.Laws.Small
import Derived.Test.YtfmpabgblbbcdaaGreatDoorLogicC
import Derived.Deep.Slices
import Derived.OpenShut
import Derived.Carry
import Derived.Test.YtfmpabgblbbcdaaGreatDoorSpecA
import Derived.Test.YtfmpabgblbbcdaaGreatDoorProg
import Derived.KernelRfl
import Derived.Lib.LaidTab
import Derived.Lib.ItoaNum
import Derived.Test.YtfmpabgblbbcdaaGreatDoorWalkB
import Derived.Test.YtfmpabgblbbcdaaGreatDoorWalkD
import Derived.Test.YtfmpabgblbbcdaaGreatDoorWalkG
import Derived.Laws.IdiomStrings
import Derived.Laws.IdiomCopy
import Derived.Test.YtfmpabgblbbcdaaGreatDoorLogicE
import Derived.Test.YtfmpabgblbbcdaaGreatDoorLogicB
import Derived.Test.YtfmpabgblbbcdaaGreatDoorShelf
import Derived.Test.YtfmpabgblbbcdaaGreatDoorWalkA
import Derived.Test.YtfmpabgblbbcdaaGreatDoorWalkC
import Derived.Test.YtfmpabgblbbcdaaGreatDoorWalkE
import Derived.Test.YtfmpabgblbbcdaaGreatDoorWalkF
import Derived.Test.YtfmpabgblbbcdaaGreatDoorRow
set_option linter.all false
set_option maxRecDepth 100000
set_option maxHeartbeats 8000000
namespace Go.Ab
variable [Tabs]
theorem FW_room (r : Option Nat) (n : Nat) : (FW r).room n := fun _ h => by simp [FW] at h
variable {c : Ctx} {Q : AExit → St → Prop} {s : St}
theorem aw_less {code : Code} (sl' : List (Nat × AV)) (h : ∀ p ∈ sl', Less (sget s.sl p.1) p.2) (k : AWP c code Q { s with sl := sl' }) : AWP c code Q s := by
  intro e a hs
  exact k e a ⟨hs.size, fun t => get_less h t _ _ (hs.slots t), hs.defers, hs.H, hs.ok, hs.fr⟩
end Go.Ab
namespace Go.Ab
variable [Tabs]
section
variable {P : Program} {r : Option Nat} {H : List AObj} {ρ : Operand → AV}
variable {d : Option Tmp} {t : TypeId} {p : String} {af : Array Edge} {g : Option (Nat × Bool)} {x y : Operand}
theorem ev_neqB {a b : Bool} {xt yt : TypeId} (ht : P.underlying xt = some .bool) (hx : Less (ρ x) (.raw (.bool a))) (hy : Less (ρ y) (.raw (.bool b))) :
    Ev P r ⟨d, .binOp .neq xt x y yt, t, p, af, g⟩ H ρ (.raw (.bool (!(a == b)))) :=
  ev_bool2 hx hy fun w e => ⟨_, run_neq_bool w xt a b ht, by rw [Rep]⟩
end
end Go.Ab
namespace Go.Ab
open Go.ChangeShapes Go.WideShapes
variable [Tabs]
theorem env0_ok {w : World} (h : Tabs.is w) (hb : ∀ b, Tabs.blk b → b < w.heap.size) : EnvOK (env0 w) :=
  ⟨fun b hb => by have hb' : w.heap.size ≤ b := hb
                  have : w.heap[b]? = none := by simpa using hb'
                  simp [env0, this], fun i o h => by simp [env0] at h, fun i j b hi => by simp [env0] at hi, fun i b hi => by simp [env0] at hi, h, fun b hk => ⟨hb b hk, fun i hi => by simp [env0] at hi⟩⟩
section
variable {H : Type} {enc : TypeId × Value → H} {P : Program} {w : World} {base : Nat} {spare : Nat → Bool} {held : Bool}
theorem trodAll_stays (hl : laidOutB P = true) {W W' : World} (hheap : ∀ b, b < W.heap.size → W'.heap[b]? = W.heap[b]?) {sp' : Nat → Bool} :
    ∀ {ts : List TypeId} {vs : List Value} {ds : List (DataW H)} {ps : List MemPlace}, (∀ t ∈ ts, P.readableRec t = true ∧ t < P.types.size) → DataW.TrodAll enc P W base (fun _ => true) true ts vs ds ps → (∀ p ∈ ps, p.block < W.heap.size) → (∀ p ∈ ps, sp' p.block = true) →
      DataW.TrodAll enc P W' base sp' true ts vs ds ps
  | [], _, _, _, _, h, _, _ => by
    obtain ⟨rfl, rfl, rfl⟩ := trodAll_nil h
    exact trodAll_mk0
  | t :: ts, _, _, _, ht, h, hlt, hs => by
    obtain ⟨v, vs1, d, ds1, a, b, rfl, rfl, rfl, h1, h2⟩ := trodAll_cons h
    refine trodAll_cons_mk (WideElems.Trod_stays hl (ht t (by simp)).1 (ht t (by simp)).2 h1 (fun p hp => ?_) (fun p hp => hs p (by simp [hp]))) (trodAll_stays hl hheap (fun u hu => ht u (List.mem_cons_of_mem _ hu)) h2 (fun p hp => hlt p (by simp [hp])) (fun p hp => hs p (by simp [hp])))
    have hb := hheap p.block (hlt p (by simp [hp]))
    cases p with
    | cell b o => exact cell?_of_heap hb
    | map b => exact hb
/-- **What a law's row asks of a call that returns true and leaves what it met.** -/
theorem post_true {f : Func} {s : ChangeSpec} {W W' : World} {args : Array Value} {ds gs : List (DataW H)} {before : List MemPlace} {tb : TypeId} (hl : laidOutB P = true) (hread : ∀ t ∈ f.params.toList, P.readableRec t = true ∧ t < P.types.size)
    (hres : f.resultTypes = #[tb]) (htb : P.underlying tb = some .bool) (hvars : s.vars = []) (hspec : (s.fn H ds).results = [.lit (.bool true)] ∧ (s.fn H ds).args = ds ∧ (s.fn H ds).vars = [])
    (hW : DataW.Whole enc P f.params.toList s.vars false W args.toList ds gs before) (hheap : ∀ b, b < W.heap.size → W'.heap[b]? = W.heap[b]?) (hst : Still W W') :
    s.post enc P f false true false false W args (.bool true) W' := by
  have hlt := hW.lt
  have hW0 := hW
  obtain ⟨p, q, h1, h2, rfl, _, _⟩ := hW
  rw [hvars] at h2
  obtain ⟨rfl, rfl⟩ := trodVars_none h2
  simp only [List.append_nil] at hlt
  obtain ⟨e1, e2, e3⟩ := hspec
  refine ⟨ds, [], p ++ [], [], p, [], hW0, ?_, ?_, ?_, ?_, fun h => by cases h⟩
  · rw [List.append_nil, e1, hres]
    exact trodAll_cons_mk (RowKit.shut_bool htb _) trodAll_mk0
  · rw [List.append_nil, e2]
    exact trodAll_stays hl hheap hread h1 hlt (fun p hp => by simpa using hlt p hp)
  · rw [List.append_nil, e3, hvars]; rfl
  · refine ⟨hst.1, hst.2, fun i hi => ?_⟩
    rw [hheap i hi]
    split <;> simp_all
theorem APure.law {f : FuncId} {args : List AV} {W : World} {vs : Array Value} (hc : APure P f args (.raw (.bool true))) (ht : Tabs.is W) (hb : ∀ b, Tabs.blk b → b < W.heap.size) (hr : RepL (env0 W) args vs.toList) :
    Calls P f vs W fun x W' => x = .returned (.bool true) ∧ (∀ b, b < W.heap.size → W'.heap[b]? = W.heap[b]?) ∧ Still W W' := by
  refine ((hc (env0 W) vs (env0_ok ht hb) hr).calls (fun k => FW_room none k)).mono ?_
  rintro x w' ⟨u, e', rfl, rfl, hx, hu⟩
  rw [Rep] at hu; subst hu
  exact ⟨rfl, hx.heap, hx.still⟩
end
end Go.Ab
namespace Hd
open Ni (inn)
theorem findSome_inv {α : Type} {f : Nat → Option α} : ∀ {n : Nat} {a : α}, (List.range n).findSome? f = some a → ∃ i, i < n ∧ f i = some a ∧ ∀ j, j < i → f j = none
  | 0, a, h => by simp at h
  | n + 1, a, h => by
    rw [List.range_succ, List.findSome?_append] at h
    cases hp : (List.range n).findSome? f with
    | some b =>
      rw [hp] at h; simp only [Option.some_or, Option.some.injEq] at h; subst h
      obtain ⟨i, h1, h2, h3⟩ := findSome_inv hp
      exact ⟨i, by omega, h2, h3⟩
    | none =>
      rw [hp] at h
      rw [List.findSome?_eq_none_iff] at hp
      refine ⟨n, by omega, by simpa using h, fun j hj => hp j (List.mem_range.2 hj)⟩
end Hd
namespace Hd
open Ni (inn)
def befB : List Int → List Int → Bool
  | x :: a, y :: b => if x = y then befB a b else decide (x < y)
  | _, _ => false
theorem plan_none_inv {ok : List Int → Bool} : ∀ {many : Nat} {cs now : List Int}, plan ok many cs now = none → ∀ q, List.Sublist q cs → q.length = many → ok (now ++ q) = false
  | 0, cs, now, h, q, hq, hl => by
    have : q = [] := List.length_eq_zero_iff.1 hl
    subst this
    unfold plan at h
    split at h
    · cases h
    · rename_i hn; rw [List.append_nil]; simpa using hn
  | many + 1, [], now, _, q, hq, hl => by
    have := List.Sublist.length_le hq
    simp only [List.length_nil] at this; omega
  | many + 1, c :: cs, now, h, q, hq, hl => by
    unfold plan at h
    split at h
    · cases h
    · rename_i hn
      cases hq with
      | cons _ hq => exact plan_none_inv h q hq hl
      | cons_cons _ hq =>
        rename_i q'
        have := plan_none_inv hn q' hq (by simpa using hl)
        rwa [List.append_assoc] at this
theorem plan_some_inv {ok : List Int → Bool} : ∀ {many : Nat} {cs now l : List Int}, cs.Pairwise (· < ·) → plan ok many cs now = some l →
    ∃ q, l = now ++ q ∧ List.Sublist q cs ∧ q.length = many ∧ ok l = true ∧ ∀ q', List.Sublist q' cs → q'.length = many → ok (now ++ q') = true → befB q' q = false
  | 0, cs, now, l, _, h => by
    unfold plan at h
    split at h
    · rename_i hn
      injection h with h; subst h
      exact ⟨[], by simp, List.nil_sublist _, rfl, hn, fun q' _ h2 _ => by have := List.length_eq_zero_iff.1 h2; subst this; rfl⟩
    · cases h
  | many + 1, [], now, l, _, h => by unfold plan at h; cases h
  | many + 1, c :: cs, now, l, hp, h => by
    have hp' := List.pairwise_cons.1 hp
    unfold plan at h
    split at h
    · rename_i l' hn
      injection h with h; subst h
      obtain ⟨q, h1, h2, h3, h4, h5⟩ := plan_some_inv hp'.2 hn
      refine ⟨c :: q, by rw [h1, List.append_assoc]; rfl, .cons_cons _ h2, by rw [List.length_cons, h3], h4, fun q' k1 k2 k3 => ?_⟩
      cases k1 with
      | cons _ k1 =>
        cases q' with
        | nil => cases k2
        | cons x q' =>
          have : c < x := hp'.1 x (k1.subset (by simp))
          unfold befB
          rw [if_neg (by omega)]; simp; omega
      | cons_cons _ k1 =>
        rename_i q''
        unfold befB
        rw [if_pos rfl]
        exact h5 q'' k1 (by simpa using k2) (by rwa [List.append_assoc])
    · rename_i hn
      obtain ⟨q, h1, h2, h3, h4, h5⟩ := plan_some_inv hp'.2 h
      refine ⟨q, h1, .cons _ h2, h3, h4, fun q' k1 k2 k3 => ?_⟩
      cases k1 with
      | cons _ k1 => exact h5 q' k1 k2 k3
      | cons_cons _ k1 =>
        rename_i q''
        have := plan_none_inv hn q'' k1 (by simpa using k2)
        rw [List.append_assoc] at this
        rw [show now ++ c :: q'' = now ++ ([c] ++ q'') from rfl, this] at k3; cases k3
theorem sub_ms {n : Nat} {l : List Int} (h : List.Sublist l (every n)) : msOK n l := ⟨(every_rising n).sublist h, fun x hx => mem_every.1 (h.subset hx)⟩
end Hd
namespace St
open Ni (inn)
open Hd (every getD_at mem_every every_rising)
def plays (p : Ply) : Bool := (failsAt p).isNone
theorem plays_iff {p : Ply} : plays p = true ↔ ∀ j, j < p.scs.length → can p (sc p j) = true := by
  unfold plays
  constructor
  · intro h; exact fails_none (Option.isNone_iff_eq_none.1 h)
  · intro h; rw [fails_no h]; rfl
end St
namespace Go.Proofs.YtfmpabgblbbcdaaGreatDoor
open Go Go.Ab Ni St
open Hd hiding sz
abbrev C (c : UInt8) : AV := .raw (.int .u8 c.toNat)
theorem rin_pure (n lo hi : Int) : APure Tryz.prog 77 [I n, I lo, I hi] (B (inn n lo hi)) := by
  refine ap Tryz.func77 (fun e0 he0 => ?_)
  refine wz 5 ?_
  refine sz 10 (fun g1 g1' => ?_) (fun g1 g1' => ?_)
  ·refine wz 5 ?_
   exact rz rfl (Less.eq (by simp [inn, *]))
  refine wz 5 ?_
  exact rz rfl (Less.eq (by simp [inn, *]))
end Go.Proofs.YtfmpabgblbbcdaaGreatDoor
namespace Go.Proofs.YtfmpabgblbbcdaaGreatDoor
open Go Go.Ab Ni St
open Hd hiding sz
theorem xfails_no {p : Ply} (hh : p.hts.length ≤ 1000000) (hf : p.figs.length ≤ 1000000) (hs : p.scs.length ≤ 1000000) (hx : ∀ x ∈ p.scs, x.moved.length ≤ 1000000 ∧ x.rest.length ≤ 1000000 ∧ x.taken.length ≤ 1000000) (h1 : plOK p = true) (h2 : failsAt p = none) : APure Tryz.prog 21 [plA p] (.tup [I 0, I 0, I 5]) := by
  refine ap Tryz.func21 (fun e0 he0 => ?_)
  refine vz 4 ?_
  refine sq_nil ?_
  refine aw_seq ?_
  refine aw_seq ?_
  have hpl := isplay_pure p hh hf hs hx
  rw [h1] at hpl
  have gP := plOK_B h1
  refine wz 1 ?_
  refine kz az (hpl) ?_
  refine wz 3 ?_
  refine kz az (fails_y gP h2) ?_
  refine sq_ev rfl (ev_mv (v := .tup [.agg [I 0, I 0], I 0]) jz) ?_
  refine wz 11 ?_
  exact retQ_pure (v := .tup [.raw _, .raw _, .raw _]) rfl rfl (less_tup ⟨jz, jz, jz, trivial⟩)
end Go.Proofs.YtfmpabgblbbcdaaGreatDoor
namespace Go.Proofs.YtfmpabgblbbcdaaGreatDoor
open Go Go.Ab Ni St
open Hd hiding sz
theorem xlower_no {p : Ply} (hh : p.hts.length ≤ 1000000) (hf : p.figs.length ≤ 1000000) (hs : p.scs.length ≤ 1000000) (hx : ∀ x ∈ p.scs, x.moved.length ≤ 1000000 ∧ x.rest.length ≤ 1000000 ∧ x.taken.length ≤ 1000000) (h1 : plOK p = true) (h2 : lower p = none) : APure Tryz.prog 34 [plA p] (.tup [I 0, I 5]) := by
  refine ap Tryz.func34 (fun e0 he0 => ?_)
  refine vz 3 ?_
  refine sq_nil ?_
  refine aw_seq ?_
  refine aw_seq ?_
  have hpl := isplay_pure p hh hf hs hx
  rw [h1] at hpl
  have gP := plOK_B h1
  have hns := gP.ns
  have hnh := gP.nh
  have hht := plOK_ht h1
  refine wz 1 ?_
  refine kz az (hpl) ?_
  refine vz 2 ?_
  refine aw_skip ?_
  refine aw_seq ?_
  refine aw_seq ?_
  refine aw_sub (sub_iptrK [] 1 (j := 0) (l := plC p) rfl rfl) ?_
  refine nz ?_
  refine wz 1 ?_
  refine aw_loopk (ι := { n : Nat // n ≤ 10 ∧ ∀ j, j < n → plays0 (lowP p j) = false }) [1] (fun g => [(12, I (g.1 : Nat))]) (fun H g => H) (fun g => 10 - g.1) (⟨0, Nat.zero_le _, by omega⟩) ⟨jz, jz, trivial⟩ rfl ?_
  rintro ⟨n, hn, hno⟩
  refine nz ?_
  refine wz 1 ?_
  refine iz (fun c_13 c_13' => ?_) (fun c_13 c_13' => ?_)
  ·have hn10 : n < 10 := by omega
   refine vz 5 ?_
   refine sq_nil ?_
   refine aw_seq ?_
   refine nz ?_
   refine wz 2 ?_
   refine sq_call (args := [ints p.hts]) rfl en91.h jz ⟨jz, trivial⟩ (clone_y (by omega) _) ?_ (by rintro v H' ⟨a, h, _⟩; cases h)
   rintro v H' ⟨a, h, ho⟩
   cases h
   rcases ho with ⟨_, hq1, _⟩ | ⟨cap, hq1, hq2, hq3, rfl, rfl⟩
   ·exfalso; rw [List.map_eq_nil_iff] at hq1; rw [hq1] at hnh; exact absurd hnh.1 (by decide)
   simp only [List.length_map] at hq1 ⊢
   refine nz ?_
   refine vz 2 ?_
   refine sq_nil ?_
   refine aw_seq ?_
   refine aw_seq ?_
   refine nz ?_
   refine wz 2 ?_
   refine sq_ev rfl (ev_len_msl sl22.h jz) ?_
   refine wz 1 ?_
   refine aw_loopk (ι := { i : Nat // i ≤ p.hts.length }) [1, 4, 5, 12, 22] (fun g => [(23, I (g.1 : Nat))]) (fun H g => [.dead, .cells [I p.left, .msl 2 0 p.hts.length cap, fgs p.figs, scs p.scs], .cells (((lowK p n g.1).map fun x => [I x]).flatten ++ List.replicate ((cap - p.hts.length) * 1) .any)]) (fun g => p.hts.length - g.1) (⟨0, Nat.zero_le _⟩) ⟨jz, jz, jz, jz, jz, jz, trivial⟩ (by show _ = _; rw [lowK_zero]; rfl) ?_
   rintro ⟨i, hi⟩
   refine nz ?_
   refine wz 1 ?_
   refine iz (fun c_24 c_24' => ?_) (fun c_24 c_24' => ?_)
   ·have hil : i < p.hts.length := by omega
    have eR := (fl_set (f := fun x => [I x]) (sz := 1) (fun a => rfl) (lowK p n i) (List.replicate ((cap - p.hts.length) * 1) AV.any) (i := i) (by rw [lowK_len (by omega)]; exact hil) (p.hts[i] - (n : Int))).trans (by rw [← lowK_succ hil])
    refine vz 2 ?_
    refine sq_nil ?_
    have hbh := hht _ (List.getElem_mem hil)
    refine wz 3 ?_
    refine sq_ev rfl (ev_index_msl (k := i) sl22.h jz jz rfl hil) ?_
    refine sq_ev rfl (ev_load (v := I p.hts[i]) jz rfl ty3.h (hts_row hil)) ?_
    refine wz 1 ?_
    refine sq_ev rfl (ev_sub (q := p.hts[i] - n) jz jz (wr (by omega) (by omega))) ?_
    refine sq_ev rfl (ev_index_msl (k := i) sl22.h jz jz rfl hil) ?_
    refine sq_store (j := 2) (off := 0 + i * 1) rfl jz jz rfl rfl ty3.h rfl (Nat.ble_eq_true_of_le (by rw [List.length_append, fl_len (f := fun x => [I x]) (sz := 1) (fun a => rfl), lowK_len (by omega)]; omega)) ?_
    refine wz 2 ?_
    exact ⟨⟨i + 1, by omega⟩, by simp only; omega, sb 3 ⟨jz, jz, jz, jz, jz, jz, trivial⟩ (hH := (congrArg (fun L => [AObj.dead, .cells [I p.left, .msl 2 0 p.hts.length cap, fgs p.figs, scs p.scs], .cells L]) eR)) (h2 := (by simp [objsIn, AObj.inB, AV.inB, AV.inL, inL_row]))⟩
   obtain rfl : i = p.hts.length := by omega
   refine aw_exit ?_
   refine aw_seq ?_
   rw [lowK_all]
   refine aw_sub (sub_freeze (j := 2) (n := p.hts.length) (cap := cap) (sz := 1) (es := (lowP p n).hts.map fun x => [I x]) (rest := List.replicate ((cap - p.hts.length) * 1) .any) (sl' := [(1, .iptr (plC p)), (4, I n), (5, .ptr 1 0), (12, I n)]) rfl (by simp [lowP]) (fun q hq => by obtain ⟨x, _, rfl⟩ := List.mem_map.1 hq; rfl) (fun q hq => ?_) (FzH.same _ (by decide) (FzH.cells (by decide) (FzL.cons (Fz.same _) (FzL.cons Fz.frozen (FzL.cons (Fz.same _) (FzL.cons (Fz.same _) FzL.nil)))) (FzH.dead _ rfl (FzH.nil _))))) ?_
   ·simp only [List.mem_cons, List.not_mem_nil, or_false] at hq; rcases hq with rfl | rfl | rfl | rfl <;> exact Fz.same _
   refine nz ?_
   obtain ⟨fa, fb, hfa⟩ := fails_any (lowP_B gP hht hn10)
   refine wz 1 ?_
   refine kz az (hfa) ?_
   refine wz 8 ?_
   refine iz (fun c_41 c_41' => ?_) (fun c_41 c_41' => ?_)
   ·exfalso
    have hpn : plays0 (lowP p n) = true := by have h := c_41; unfold plays0; cases hz : failsAt (lowP p n) with | some a => (rw [hz] at h; simp at h) | none => rfl
    have h3 := lower_some hn10 hpn hno
    rw [h2] at h3; cases h3
   have hpn : plays0 (lowP p n) = false := by have h := c_41; unfold plays0; cases hz : failsAt (lowP p n) with | none => (rw [hz] at h; simp at h) | some a => rfl
   refine wz 2 ?_
   exact ⟨⟨n + 1, by omega, fun j hj => (by by_cases e : j = n; (subst e; exact hpn); exact hno j (by omega))⟩, by simp only; omega, sb 1 ⟨jz, jz, trivial⟩⟩
  obtain rfl : n = 10 := by omega
  refine wz 2 ?_
  exact retQ_pure (v := .tup [.raw _, .raw _]) rfl rfl (less_tup ⟨jz, jz, trivial⟩)
end Go.Proofs.YtfmpabgblbbcdaaGreatDoor
namespace Go.Proofs.YtfmpabgblbbcdaaGreatDoor
open Go Go.Ab Ni St
open Hd hiding sz
instance en19 : EnT Tryz.prog 19 := ⟨Ent.of Tryz.func19 (by kernel_rfl) rfl⟩
instance en22 : EnT Tryz.prog 22 := ⟨Ent.of Tryz.func22 (by kernel_rfl) rfl⟩
instance en27 : EnT Tryz.prog 27 := ⟨Ent.of Tryz.func27 (by kernel_rfl) rfl⟩
instance en41 : EnT Tryz.prog 41 := ⟨Ent.of Tryz.func41 (by kernel_rfl) rfl⟩
instance en77 : EnT Tryz.prog 77 := ⟨Ent.of Tryz.func77 (by kernel_rfl) rfl⟩
instance en78 : EnT Tryz.prog 78 := ⟨Ent.of Tryz.func78 (by kernel_rfl) rfl⟩
instance en95 : EnT Tryz.prog 95 := ⟨Ent.of Tryz.func95 (by kernel_rfl) rfl⟩
theorem all_of {α : Type} {q : α → Bool} {l : List α} (h : ∀ j, (hj : j < l.length) → q l[j] = true) : l.all q = true := List.all_eq_true.2 fun x hx => by obtain ⟨j, hj, rfl⟩ := List.getElem_of_mem hx; exact h j hj
theorem all_bad {α : Type} {q : α → Bool} {l : List α} {i : Nat} (hi : i < l.length) (h : q l[i] = false) : l.all q = false := by rw [List.all_eq_false]; exact ⟨_, List.getElem_mem hi, by rw [h]; simp⟩
theorem all_sym (a b : List Int) : (a.all fun n => !decide (n ∈ b)) = b.all fun n => !decide (n ∈ a) := by
  rw [Bool.eq_iff_iff, List.all_eq_true, List.all_eq_true]
  simp only [Bool.not_eq_true', decide_eq_false_iff_not]
  exact ⟨fun h n hn hm => h n hm hn, fun h n hn hm => h n hm hn⟩
def shX (x : Scn) : Bool := decide (x.moved.length ≤ 10) && decide (x.rest.length ≤ 10) && decide (x.taken.length ≤ 10)
def shB (p : Ply) : Bool := decide (p.hts.length ≤ 10) && decide (p.figs.length ≤ 8) && decide (p.scs.length ≤ 7) && decide (∀ i, (hi : i < p.scs.length) → i < 8 → shX p.scs[i] = true)
theorem shB_row {p : Ply} {i : Nat} (hi : i < p.scs.length) (h8 : i < 8) (h : shX p.scs[i] = false) : shB p = false := by
  unfold shB
  rw [decide_eq_false (p := ∀ i, (hi : i < p.scs.length) → i < 8 → shX p.scs[i] = true) (fun q => by rw [q i hi h8] at h; cases h)]; simp
theorem shB_fin {p : Ply} (h : ∀ i, (hi : i < p.scs.length) → i < 8 → shX p.scs[i] = true) : shB p = (decide (p.hts.length ≤ 10) && decide (p.figs.length ≤ 8) && decide (p.scs.length ≤ 7)) := by
  unfold shB; rw [decide_eq_true h, Bool.and_true]
theorem shB_len {p : Ply} (h : shB p = true) : p.hts.length ≤ 1000000 ∧ p.figs.length ≤ 1000000 ∧ p.scs.length ≤ 1000000 ∧ ∀ x ∈ p.scs, x.moved.length ≤ 1000000 ∧ x.rest.length ≤ 1000000 ∧ x.taken.length ≤ 1000000 := by
  unfold shB at h
  simp only [Bool.and_eq_true, decide_eq_true_eq] at h
  refine ⟨by omega, by omega, by omega, fun x hx => ?_⟩
  obtain ⟨i, hi, rfl⟩ := List.getElem_of_mem hx
  have := h.2 i hi (by omega)
  unfold shX at this
  simp only [Bool.and_eq_true, decide_eq_true_eq] at this
  omega
theorem befB_at : ∀ {a b : List Int} {k : Nat} (ha : k < a.length) (hb : k < b.length), (∀ i, (h1 : i < a.length) → (h2 : i < b.length) → i < k → a[i] = b[i]) → a[k] ≠ b[k] → befB a b = decide (a[k] < b[k])
  | x :: l, y :: m, 0, _, _, _, h => by unfold befB; rw [if_neg (by simpa using h)]; simp
  | x :: l, y :: m, k + 1, ha, hb, hk, h => by
    have h0 := hk 0 (by simp) (by simp) (by omega)
    unfold befB; rw [if_pos (by simpa using h0)]
    have := befB_at (a := l) (b := m) (k := k) (by simpa using ha) (by simpa using hb) (fun i h1 h2 hi => by have := hk (i + 1) (by simpa using h1) (by simpa using h2) (by omega); simpa using this) (by simpa using h)
    simpa using this
theorem befB_no : ∀ {a b : List Int}, (∀ i, (h1 : i < a.length) → (h2 : i < b.length) → a[i] = b[i]) → befB a b = false
  | [], _, _ => by unfold befB; rfl
  | _ :: _, [], _ => by unfold befB; rfl
  | x :: l, y :: m, h => by
    have h0 := h 0 (by simp) (by simp)
    unfold befB; rw [if_pos (by simpa using h0)]
    exact befB_no fun i h1 h2 => by have := h (i + 1) (by simpa using h1) (by simpa using h2); simpa using this
theorem has_pure (l : List Int) (n : Int) (hl : l.length ≤ 1000000) : APure Tryz.prog 27 [ints l, I n] (B (decide (n ∈ l))) := by
  refine ap Tryz.func27 (fun e0 he0 => ?_)
  refine wz 2 ?_
  refine aw_loopk (ι := { k : Nat // k ≤ l.length ∧ ∀ i, (hi : i < l.length) → i < k → l[i] ≠ n }) [0, 1] (fun i => [(5, I i.1)]) (fun H i => H) (fun i => l.length - i.1) (⟨0, Nat.zero_le _, by omega⟩) ⟨jz, jz, jz, trivial⟩ rfl ?_
  rintro ⟨k, hk, hok⟩
  refine nz ?_
  refine wz 4 ?_
  refine iz (fun c_9 c_9' => ?_) (fun c_9 c_9' => ?_)
  ·have hkL : k < l.length := by omega
   refine wz 6 ?_
   refine iz (fun c_17 c_17' => ?_) (fun c_17 c_17' => ?_)
   ·have hmem : n ∈ l := by have h5 := of_decide_eq_true c_17; exact h5 ▸ List.getElem_mem hkL
    refine wz 1 ?_
    exact rz rfl (Less.eq (by rw [decide_eq_true hmem]))
   refine wz 3 ?_
   exact ⟨⟨k + 1, by omega, fun i hi h => (by by_cases e : i = k; (subst e; simpa using c_17); exact hok i hi (by omega))⟩, by simp only; omega, Sub.slots ⟨jz, jz, jz, trivial⟩⟩
  obtain rfl : k = l.length := by omega
  have hno : ¬ n ∈ l := fun h => by obtain ⟨i, hi, h6⟩ := List.getElem_of_mem h; exact hok i hi hi h6
  refine wz 1 ?_
  exact rz rfl (Less.eq (by rw [decide_eq_false hno]))
theorem rrising_pure (l : List Int) (n : Nat) (hl : l.length ≤ 1000000) (hn : n ≤ 1000000) : APure Tryz.prog 95 [ints l, I n] (B (rising l n)) := by
  refine ap Tryz.func95 (fun e0 he0 => ?_)
  refine wz 2 ?_
  refine aw_loopk (ι := { k : Nat // k ≤ l.length ∧ ∀ i, (hi : i < l.length) → i < k → (0 ≤ l[i] ∧ l[i] < n) ∧ (0 < i → l[i - 1] < l[i]) }) [0, 1] (fun i => [(5, I i.1)]) (fun H i => H) (fun i => l.length - i.1) (⟨0, Nat.zero_le _, by omega⟩) ⟨jz, jz, jz, trivial⟩ rfl ?_
  rintro ⟨k, hk1, hok⟩
  refine nz ?_
  refine wz 4 ?_
  refine iz (fun c_9 c_9' => ?_) (fun c_9 c_9' => ?_)
  ·have hkl : k < l.length := by omega
   have hin : inn l[k] 0 ((n : Int) - 1) = true ↔ 0 ≤ l[k] ∧ l[k] ≤ (n : Int) - 1 := by unfold inn; simp
   refine wz 0 ?_
   refine aw_draw 24 mo (by kernel_rfl) ?_
   refine dz 6 ?_
   refine dkz az (rin_pure _ _ _) ?_
   refine dz 2 ?_
   refine dsz 20 (fun g4_8 g4_8' => ?_) (fun g4_8 g4_8' => ?_)
   ·have hb0 : ¬ (0 ≤ l[k] ∧ l[k] ≤ (n : Int) - 1) := fun q => by rw [hin.2 q] at g4_8; simp at g4_8
    have hno : rising l n = false := rising_no hkl (fun q => hb0 (by omega))
    refine dz 15 ?_
    refine wz 2 ?_
    exact rz rfl (Less.eq (by rw [hno]))
   have hb1 : 0 ≤ l[k] ∧ l[k] ≤ (n : Int) - 1 := hin.1 (by simpa using g4_8)
   refine dz 3 ?_
   refine dsz 23 (fun g4_11 g4_11' => ?_) (fun g4_11 g4_11' => ?_)
   ·refine dz 7 ?_
    refine dr_yes rfl rfl (less_b g4_11) rfl (ev_index_map (k := k - 1) sl22.h jz jz (by omega) (by omega)) ?_
    refine dz 4 ?_
    refine wz 0 ?_
    refine iz (fun c_35 c_35' => ?_) (fun c_35 c_35' => ?_)
    ·have hno : rising l n = false := rising_no hkl (fun q => by have h5 := q.2 (by omega); have h6 := of_decide_eq_true c_35; omega)
     refine wz 1 ?_
     exact rz rfl (Less.eq (by rw [hno]))
    have hst : (0 ≤ l[k] ∧ l[k] < n) ∧ (0 < k → l[k - 1] < l[k]) := ⟨by omega, fun q => by have := of_decide_eq_false c_35; omega⟩
    refine wz 3 ?_
    exact ⟨⟨k + 1, by omega, fun i hi q => by rcases Nat.lt_or_ge i k with q2 | q2; exact hok i hi q2; (obtain rfl : i = k := by omega); exact hst⟩, by simp only; omega, Sub.slots ⟨jz, jz, jz, trivial⟩⟩
   have hst : (0 ≤ l[k] ∧ l[k] < n) ∧ (0 < k → l[k - 1] < l[k]) := ⟨by omega, fun q => by omega⟩
   refine dz 12 ?_
   refine wz 4 ?_
   exact ⟨⟨k + 1, by omega, fun i hi q => by rcases Nat.lt_or_ge i k with q2 | q2; exact hok i hi q2; (obtain rfl : i = k := by omega); exact hst⟩, by simp only; omega, Sub.slots ⟨jz, jz, jz, trivial⟩⟩
  obtain rfl : k = l.length := by omega
  have hall := rising_yes fun i hi => hok i hi hi
  refine wz 1 ?_
  exact rz rfl (Less.eq (by rw [hall]))
theorem rscene_pure (p : Ply) (x : Scn) (h1 : x.moved.length ≤ 1000000) (h2 : x.rest.length ≤ 1000000) (h3 : x.taken.length ≤ 1000000) (hh : p.hts.length ≤ 1000000) (hf : p.figs.length ≤ 1000000) : APure Tryz.prog 78 [plA p, .agg (scC x)] (B (scOK p x)) := by
  refine ap Tryz.func78 (fun e0 he0 => ?_)
  refine wz 8 ?_
  refine kz az (rrising_pure x.moved p.figs.length h1 hf) ?_
  refine wz 2 ?_
  refine sz 13 (fun g1_7 g1_7' => ?_) (fun g1_7 g1_7' => ?_)
  ·refine wz 31 ?_
   exact rz rfl (Less.eq (congrArg B (by unfold scOK; simp [*])))
  refine wz 5 ?_
  refine ky az (rrising_pure x.rest p.figs.length h2 hf) ?_
  refine wz 3 ?_
  refine sz 22 (fun g1_16 g1_16' => ?_) (fun g1_16 g1_16' => ?_)
  ·refine wz 22 ?_
   exact rz rfl (Less.eq (congrArg B (by unfold scOK; simp [*])))
  refine wz 5 ?_
  refine ky az (rrising_pure x.taken p.hts.length h3 hh) ?_
  refine wz 3 ?_
  refine sz 31 (fun g1_25 g1_25' => ?_) (fun g1_25 g1_25' => ?_)
  ·refine wz 13 ?_
   exact rz rfl (Less.eq (congrArg B (by unfold scOK; simp [*])))
  refine wz 6 ?_
  refine sz 37 (fun g1_31 g1_31' => ?_) (fun g1_31 g1_31' => ?_)
  ·have k31 : ¬ x.rest.length ≤ 4 := by omega
   refine wz 7 ?_
   exact rz rfl (Less.eq (congrArg B (by unfold scOK; simp [*])))
  have k31 : x.rest.length ≤ 4 := by omega
  refine wz 2 ?_
  refine ky az (rin_pure _ _ _) ?_
  refine wz 2 ?_
  refine iz (fun c_42 c_42' => ?_) (fun c_42 c_42' => ?_)
  ·refine wz 1 ?_
   exact rz rfl (Less.eq (congrArg B (by unfold scOK; simp [*])))
  refine wz 1 ?_
  refine aw_loopk (ι := { k : Nat // k ≤ x.rest.length ∧ ∀ i, (hi : i < x.rest.length) → i < k → (!decide (x.rest[i] ∈ x.moved)) = true }) [3] (fun i => [(5, I i.1)]) (fun H i => H) (fun i => x.rest.length - i.1) (⟨0, Nat.zero_le _, by omega⟩) ⟨jz, jz, trivial⟩ rfl ?_
  rintro ⟨k, hk, hok⟩
  refine nz ?_
  refine wz 5 ?_
  refine iz (fun c_47 c_47' => ?_) (fun c_47 c_47' => ?_)
  ·have hkL : k < x.rest.length := by omega
   refine wz 0 ?_
   refine aw_draw 8 mo (by kernel_rfl) ?_
   refine dz 7 ?_
   refine dkz az (has_pure _ _ h1) ?_
   refine dr_end ?_
   refine wz 0 ?_
   refine iz (fun c_57 c_57' => ?_) (fun c_57 c_57' => ?_)
   ·have hbad : (x.rest.all fun n => !decide (n ∈ x.moved)) = false := all_bad hkL (by rw [decide_eq_true (of_decide_eq_true c_57)]; rfl)
    refine wz 1 ?_
    exact rz rfl (Less.eq (congrArg B (by unfold scOK; rw [all_sym, hbad]; simp)))
   refine wz 3 ?_
   exact ⟨⟨k + 1, by omega, fun i hi h => (by by_cases e : i = k; (subst e; rw [decide_eq_false (of_decide_eq_false c_57)]; rfl); exact hok i hi (by omega))⟩, by simp only; omega, Sub.slots ⟨jz, jz, trivial⟩⟩
  obtain rfl : k = x.rest.length := by omega
  have hall : (x.rest.all fun n => !decide (n ∈ x.moved)) = true := all_of fun j hj => hok j hj hj
  refine wz 1 ?_
  exact rz rfl (Less.eq (congrArg B (by unfold scOK; rw [all_sym, hall]; simp_all)))
theorem rplay_pure (p : Ply) (hh : p.hts.length ≤ 1000000) (hf : p.figs.length ≤ 1000000) (hs : p.scs.length ≤ 1000000) (hx : ∀ x ∈ p.scs, x.moved.length ≤ 1000000 ∧ x.rest.length ≤ 1000000 ∧ x.taken.length ≤ 1000000) : APure Tryz.prog 22 [plA p] (B (plOK p)) := by
  refine ap Tryz.func22 (fun e0 he0 => ?_)
  refine wz 5 ?_
  refine kz az (rin_pure _ _ _) ?_
  refine wz 2 ?_
  refine sz 12 (fun g1_5 g1_5' => ?_) (fun g1_5 g1_5' => ?_)
  ·refine wz 24 ?_
   exact rz rfl (Less.eq (by unfold plOK; simp_all))
  refine wz 3 ?_
  refine ky az (rin_pure _ _ _) ?_
  refine wz 3 ?_
  refine sz 19 (fun g1_12 g1_12' => ?_) (fun g1_12 g1_12' => ?_)
  ·refine wz 17 ?_
   exact rz rfl (Less.eq (by unfold plOK; simp_all))
  refine wz 3 ?_
  refine ky az (rin_pure _ _ _) ?_
  refine wz 3 ?_
  refine sz 26 (fun g1_19 g1_19' => ?_) (fun g1_19 g1_19' => ?_)
  ·refine wz 10 ?_
   exact rz rfl (Less.eq (by unfold plOK; simp_all))
  refine wz 5 ?_
  refine ky az (rin_pure _ _ _) ?_
  refine wz 2 ?_
  refine iz (fun c_34 c_34' => ?_) (fun c_34 c_34' => ?_)
  ·refine wz 1 ?_
   exact rz rfl (Less.eq (by unfold plOK; simp_all))
  refine wz 1 ?_
  refine aw_loopk (ι := { k : Nat // k ≤ p.hts.length ∧ ∀ i, (hi : i < p.hts.length) → i < k → inn p.hts[i] 1 9 = true }) [1] (fun i => [(3, I i.1)]) (fun H i => H) (fun i => p.hts.length - i.1) (⟨0, Nat.zero_le _, by omega⟩) ⟨jz, jz, trivial⟩ rfl ?_
  rintro ⟨k, hk, hok⟩
  refine nz ?_
  refine wz 5 ?_
  refine iz (fun c_39 c_39' => ?_) (fun c_39 c_39' => ?_)
  ·have hkl : k < p.hts.length := by omega
   refine wz 5 ?_
   refine kz az (rin_pure _ _ _) ?_
   refine wz 1 ?_
   refine iz (fun c_48 c_48' => ?_) (fun c_48 c_48' => ?_)
   ·have hbad : (p.hts.all fun n => inn n 1 9) = false := all_bad hkl (by simpa using c_48)
    refine wz 1 ?_
    exact rz rfl (Less.eq (by unfold plOK; rw [hbad]; simp))
   refine wz 3 ?_
   exact ⟨⟨k + 1, by omega, fun i hi h => (by by_cases e : i = k; (subst e; simpa using c_48); exact hok i hi (by omega))⟩, by simp only; omega, Sub.slots ⟨jz, jz, trivial⟩⟩
  obtain rfl : k = p.hts.length := by omega
  have hall1 : (p.hts.all fun n => inn n 1 9) = true := all_of fun j hj => hok j hj hj
  refine wz 1 ?_
  refine aw_loopk (ι := { k : Nat // k ≤ p.figs.length ∧ ∀ i, (hi : i < p.figs.length) → i < k → fgOK p.figs[i] = true }) [1] (fun i => [(4, I i.1)]) (fun H i => H) (fun i => p.figs.length - i.1) (⟨0, Nat.zero_le _, by omega⟩) ⟨jz, jz, trivial⟩ rfl ?_
  rintro ⟨k, hk2, hok2⟩
  refine nz ?_
  refine wz 5 ?_
  refine iz (fun c_53 c_53' => ?_) (fun c_53 c_53' => ?_)
  ·have hfl : k < p.figs.length := by omega
   have hfe : fgOK p.figs[k] = ((!decide (p.figs[k].side < 1) && !decide (p.figs[k].side > 3)) && inn p.figs[k].rank 1 9 && inn p.figs[k].hands 1 2) := by unfold fgOK; rw [show inn p.figs[k].side 1 3 = (!(decide (p.figs[k].side < 1)) && !(decide (p.figs[k].side > 3))) by unfold inn; rw [Bool.eq_iff_iff]; simp]
   refine wz 11 ?_
   refine sz 64 (fun g12_3 g12_3' => ?_) (fun g12_3 g12_3' => ?_)
   ·have hbad : p.figs.all fgOK = false := all_bad hfl (by rw [hfe]; simp [*])
    refine wz 18 ?_
    exact rz rfl (Less.eq (by unfold plOK; rw [hbad]; simp))
   refine wz 5 ?_
   refine sz 69 (fun g12_8 g12_8' => ?_) (fun g12_8 g12_8' => ?_)
   ·have hbad : p.figs.all fgOK = false := all_bad hfl (by rw [hfe]; simp [*])
    refine wz 13 ?_
    exact rz rfl (Less.eq (by unfold plOK; rw [hbad]; simp))
   refine wz 2 ?_
   refine ky az (rin_pure _ _ _) ?_
   refine wz 3 ?_
   refine sz 75 (fun g12_14 g12_14' => ?_) (fun g12_14 g12_14' => ?_)
   ·have hbad : p.figs.all fgOK = false := all_bad hfl (by rw [hfe]; simp [*])
    refine wz 7 ?_
    exact rz rfl (Less.eq (by unfold plOK; rw [hbad]; simp))
   refine wz 2 ?_
   refine ky az (rin_pure _ _ _) ?_
   refine wz 2 ?_
   refine iz (fun c_80 c_80' => ?_) (fun c_80 c_80' => ?_)
   ·have hbad : p.figs.all fgOK = false := all_bad hfl (by rw [hfe]; simp [*])
    refine wz 1 ?_
    exact rz rfl (Less.eq (by unfold plOK; rw [hbad]; simp))
   have hfg : fgOK p.figs[k] = true := by rw [hfe]; simp [*]
   refine wz 3 ?_
   exact ⟨⟨k + 1, by omega, fun i hi h => (by by_cases e : i = k; (subst e; exact hfg); exact hok2 i hi (by omega))⟩, by simp only; omega, sb 1 ⟨jz, jz, trivial⟩⟩
  obtain rfl : k = p.figs.length := by omega
  have hall2 : p.figs.all fgOK = true := all_of fun j hj => hok2 j hj hj
  refine wz 1 ?_
  refine aw_loopk (ι := { k : Nat // k ≤ p.scs.length ∧ ∀ i, (hi : i < p.scs.length) → i < k → scOK p p.scs[i] = true }) [1] (fun i => [(6, I i.1)]) (fun H i => H) (fun i => p.scs.length - i.1) (⟨0, Nat.zero_le _, by omega⟩) ⟨jz, jz, trivial⟩ rfl ?_
  rintro ⟨k, hk3, hok3⟩
  refine nz ?_
  refine wz 5 ?_
  refine iz (fun c_85 c_85' => ?_) (fun c_85 c_85' => ?_)
  ·have hsl : k < p.scs.length := by omega
   have hxk := hx _ (List.getElem_mem hsl)
   refine wz 0 ?_
   refine aw_draw 8 mo (by kernel_rfl) ?_
   refine dz 6 ?_
   refine dkz az (rscene_pure p _ hxk.1 hxk.2.1 hxk.2.2 hh hf) ?_
   refine dz 1 ?_
   refine wz 0 ?_
   refine iz (fun c_95 c_95' => ?_) (fun c_95 c_95' => ?_)
   ·have hbad : p.scs.all (scOK p) = false := all_bad hsl (by simpa using c_95)
    refine wz 1 ?_
    exact rz rfl (Less.eq (by unfold plOK; rw [hbad]; simp))
   refine wz 3 ?_
   exact ⟨⟨k + 1, by omega, fun i hi h => (by by_cases e : i = k; (subst e; simpa using c_95); exact hok3 i hi (by omega))⟩, by simp only; omega, Sub.slots ⟨jz, jz, trivial⟩⟩
  obtain rfl : k = p.scs.length := by omega
  have hall3 : p.scs.all (scOK p) = true := all_of fun j hj => hok3 j hj hj
  refine wz 1 ?_
  exact rz rfl (Less.eq (by unfold plOK; rw [hall1, hall2, hall3]; simp_all))
theorem short_pure (p : Ply) : APure Tryz.prog 19 [plA p] (B (shB p)) := by
  refine ap Tryz.func19 (fun e0 he0 => ?_)
  refine wz 3 ?_
  refine aw_loopk (ι := { k : Nat // k ≤ p.scs.length ∧ k ≤ 8 ∧ ∀ i, (hi : i < p.scs.length) → i < k → shX p.scs[i] = true }) [1] (fun i => [(3, I i.1)]) (fun H i => H) (fun i => p.scs.length - i.1) (⟨0, Nat.zero_le _, by omega, by omega⟩) ⟨jz, jz, trivial⟩ rfl ?_
  rintro ⟨k, hk, hk8, hok⟩
  refine nz ?_
  refine wz 6 ?_
  refine sz 10 (fun g2_5 g2_5' => ?_) (fun g2_5 g2_5' => ?_)
  ·have hkl : k < p.scs.length := by omega
   refine wz 3 ?_
   refine iz (fun c_13 c_13' => ?_) (fun c_13 c_13' => ?_)
   ·have hk8b : k < 8 := by have := of_decide_eq_true c_13; omega
    refine wz 12 ?_
    refine sz 25 (fun g5_4 g5_4' => ?_) (fun g5_4 g5_4' => ?_)
    ·have hbad := shB_row hkl hk8b (by unfold shX; simp; omega)
     refine wz 13 ?_
     exact rz rfl (Less.eq (by rw [hbad]))
    refine wz 6 ?_
    refine sz 31 (fun g5_10 g5_10' => ?_) (fun g5_10 g5_10' => ?_)
    ·have hbad := shB_row hkl hk8b (by unfold shX; simp; omega)
     refine wz 7 ?_
     exact rz rfl (Less.eq (by rw [hbad]))
    refine wz 5 ?_
    refine iz (fun c_36 c_36' => ?_) (fun c_36 c_36' => ?_)
    ·have h6 := of_decide_eq_true c_36
     have hbad := shB_row hkl hk8b (by unfold shX; simp; omega)
     refine wz 1 ?_
     exact rz rfl (Less.eq (by rw [hbad]))
    have h6 := of_decide_eq_false c_36
    have hsx : shX p.scs[k] = true := by unfold shX; simp; omega
    refine wz 3 ?_
    exact ⟨⟨k + 1, by omega, by omega, fun i hi h => (by by_cases e : i = k; (subst e; exact hsx); exact hok i hi (by omega))⟩, by simp only; omega, sb 1 ⟨jz, jz, trivial⟩⟩
   refine wz 5 ?_
   refine sz 41 (fun g7_4 g7_4' => ?_) (fun g7_4 g7_4' => ?_)
   ·refine wz 6 ?_
    refine sz 47 (fun g7_10 g7_10' => ?_) (fun g7_10 g7_10' => ?_)
    ·refine wz 6 ?_
     exact rz rfl (Less.eq (congrArg B (by have h9 := of_decide_eq_false c_13; rw [shB_fin (fun i hi h8 => hok i hi (by omega)), Bool.eq_iff_iff]; simp; omega)))
    refine wz 6 ?_
    exact rz rfl (Less.eq (congrArg B (by have h9 := of_decide_eq_false c_13; rw [shB_fin (fun i hi h8 => hok i hi (by omega)), Bool.eq_iff_iff]; simp; omega)))
   refine wz 12 ?_
   exact rz rfl (Less.eq (congrArg B (by have h9 := of_decide_eq_false c_13; rw [shB_fin (fun i hi h8 => hok i hi (by omega)), Bool.eq_iff_iff]; simp; omega)))
  obtain rfl : k = p.scs.length := by omega
  refine wz 9 ?_
  refine sz 41 (fun g7_4 g7_4' => ?_) (fun g7_4 g7_4' => ?_)
  ·refine wz 6 ?_
   refine sz 47 (fun g7_10 g7_10' => ?_) (fun g7_10 g7_10' => ?_)
   ·refine wz 6 ?_
    exact rz rfl (Less.eq (congrArg B (by rw [shB_fin (fun i hi _ => hok i hi hi), Bool.eq_iff_iff]; simp; omega)))
   refine wz 6 ?_
   exact rz rfl (Less.eq (congrArg B (by rw [shB_fin (fun i hi _ => hok i hi hi), Bool.eq_iff_iff]; simp; omega)))
  refine wz 12 ?_
  exact rz rfl (Less.eq (congrArg B (by rw [shB_fin (fun i hi _ => hok i hi hi), Bool.eq_iff_iff]; simp; omega)))
theorem before_pure (a b : List Int) (ha : a.length ≤ 1000000) (hb : b.length ≤ 1000000) : APure Tryz.prog 41 [ints a, ints b] (B (befB a b)) := by
  refine ap Tryz.func41 (fun e0 he0 => ?_)
  refine wz 2 ?_
  refine aw_loopk (ι := { k : Nat // k ≤ a.length ∧ ∀ i, (h1 : i < a.length) → (h2 : i < b.length) → i < k → a[i] = b[i] }) [0, 1] (fun g => [(5, I g.1)]) (fun H g => H) (fun g => a.length - g.1) (⟨0, Nat.zero_le _, by omega⟩) ⟨jz, jz, jz, trivial⟩ rfl ?_
  rintro ⟨k, hk, hok⟩
  refine nz ?_
  refine wz 5 ?_
  refine sz 10 (fun g2_4 g2_4' => ?_) (fun g2_4 g2_4' => ?_)
  ·have hka : k < a.length := by omega
   refine wz 5 ?_
   refine iz (fun c_15 c_15' => ?_) (fun c_15 c_15' => ?_)
   ·have hkb : k < b.length := by have := of_decide_eq_true c_15; omega
    refine wz 0 ?_
    refine aw_draw 9 mo (by kernel_rfl) ?_
    refine dz 9 ?_
    refine wz 0 ?_
    refine iz (fun c_26 c_26' => ?_) (fun c_26 c_26' => ?_)
    ·have hat := befB_at hka hkb hok (by simpa using c_26)
     refine wz 0 ?_
     refine aw_draw 10 mo (by kernel_rfl) ?_
     refine dz 10 ?_
     refine wz 0 ?_
     exact rz rfl (Less.eq (by rw [hat]))
    refine wz 3 ?_
    exact ⟨⟨k + 1, by omega, fun i h1 h2 h => (by by_cases e : i = k; (subst e; simpa using c_26); exact hok i h1 h2 (by omega))⟩, by simp only; omega, Sub.slots ⟨jz, jz, jz, trivial⟩⟩
   have hno := befB_no (a := a) (b := b) (fun i h1 h2 => hok i h1 h2 (by have := of_decide_eq_false c_15; omega))
   refine wz 1 ?_
   exact rz rfl (Less.eq (by rw [hno]))
  have hno := befB_no (a := a) (b := b) (fun i h1 h2 => hok i h1 h2 (by omega))
  refine wz 7 ?_
  exact rz rfl (Less.eq (by rw [hno]))
end Go.Proofs.YtfmpabgblbbcdaaGreatDoor
namespace Go.Proofs.YtfmpabgblbbcdaaGreatDoor
open Go Go.Ab Ni St
open Hd hiding sz
instance en20 : EnT Tryz.prog 20 := ⟨Ent.of Tryz.func20 (by kernel_rfl) rfl⟩
section
variable [Tabs]
section seq
variable {c : Ctx} {ops : Array Oper} {Q : AExit → St → Prop} {rest : List Oper} {s : St} {i : Nat}
variable {d : Option Tmp} {t : TypeId} {p : String} {af : Array Edge}
end seq
section ev
variable {P : Program} {r : Option Nat} {H : List AObj} {ρ : Operand → AV}
variable {d : Option Tmp} {t : TypeId} {p : String} {af : Array Edge} {g : Option (Nat × Bool)}
end ev
end
theorem short_t {p : Ply} (h : shB p = true) : APure Tryz.prog 19 [plA p] (B true) := by have q := short_pure p; rw [h] at q; exact q
theorem short_f {p : Ply} (h : shB p = false) : APure Tryz.prog 19 [plA p] (B false) := by have q := short_pure p; rw [h] at q; exact q
theorem pl_t {p : Ply} (hs : shB p = true) (h : plOK p = true) : APure Tryz.prog 22 [plA p] (B true) := by have q := rplay_pure p (shB_len hs).1 (shB_len hs).2.1 (shB_len hs).2.2.1 (shB_len hs).2.2.2; rw [h] at q; exact q
theorem pl_f {p : Ply} (hs : shB p = true) (h : plOK p = false) : APure Tryz.prog 22 [plA p] (B false) := by have q := rplay_pure p (shB_len hs).1 (shB_len hs).2.1 (shB_len hs).2.2.1 (shB_len hs).2.2.2; rw [h] at q; exact q
end Go.Proofs.YtfmpabgblbbcdaaGreatDoor
namespace Go.Proofs.YtfmpabgblbbcdaaGreatDoor
open Go Go.Ab Ni St
open Hd hiding sz
theorem fil_succ {α : Type} {q : α → Bool} {l : List α} {i : Nat} (h : i < l.length) : (l.take (i + 1)).filter q = (l.take i).filter q ++ (if q l[i] = true then [l[i]] else []) := by
  rw [List.take_succ_eq_append_getElem h, List.filter_append]
  congr 1
  by_cases h1 : q l[i] = true
  · rw [if_pos h1, List.filter_cons_of_pos h1]; rfl
  · rw [if_neg h1, List.filter_cons_of_neg h1]; rfl
end Go.Proofs.YtfmpabgblbbcdaaGreatDoor
namespace Go.Proofs.YtfmpabgblbbcdaaGreatDoor
open Go Go.Ab Ni St
open Hd hiding sz
theorem bef_f {a b : List Int} (ha : a.length ≤ 1000000) (hb : b.length ≤ 1000000) (h : befB a b = false) : APure Tryz.prog 41 [ints a, ints b] (B false) := by have q := before_pure a b ha hb; rw [h] at q; exact q
end Go.Proofs.YtfmpabgblbbcdaaGreatDoor
namespace Go.Proofs.YtfmpabgblbbcdaaGreatDoor
open Go Go.Ab Ni St
open Hd hiding sz
theorem can_iff {p : Ply} {x : Scn} : St.can p x = true ↔ hands p x ≤ 2 ∧ ∃ l, l ∈ arr true p x := by
  unfold St.can
  rw [Bool.and_eq_true, decide_eq_true_eq]
  cases h : arr true p x with
  | nil => simp
  | cons a m => simp
theorem scOK_iff {p : Ply} {x : Scn} : scOK p x = true ↔ ScB p x ∧ ∀ n ∈ x.moved, n ∉ x.rest := by
  unfold scOK
  simp only [Bool.and_eq_true, inn, decide_eq_true_eq, List.all_eq_true, Bool.not_eq_true', decide_eq_false_iff_not]
  constructor
  · rintro ⟨⟨⟨⟨⟨a1, a2⟩, a3⟩, a4⟩, a5⟩, a6⟩; exact ⟨⟨a1, a2, a3, a4, a5⟩, a6⟩
  · rintro ⟨⟨a1, a2, a3, a4, a5⟩, a6⟩; exact ⟨⟨⟨⟨⟨a1, a2⟩, a3⟩, a4⟩, a5⟩, a6⟩
theorem plOK_sc {p : Ply} (h : plOK p = true) : ∀ x ∈ p.scs, scOK p x = true := by
  unfold plOK at h
  simp only [Bool.and_eq_true, List.all_eq_true] at h
  exact h.2
theorem plOK_like {p q : Ply} (h : plOK p = true) (h1 : q.hts = p.hts) (h2 : q.left = p.left) (h3 : q.figs = p.figs) (h4 : q.scs.length = p.scs.length) : plOK q = q.scs.all (scOK q) := by
  unfold plOK at *
  simp only [Bool.and_eq_true] at h
  rw [h1, h2, h3, h4]
  obtain ⟨⟨⟨⟨⟨⟨a1, a2⟩, a3⟩, a4⟩, a5⟩, a6⟩, _⟩ := h
  rw [a1, a2, a3, a4, a5, a6]; rfl
theorem out_OK {p : Ply} (h : plOK p = true) (F : List Int) : plOK (outP p F) = true := by
  rw [plOK_like (q := outP p F) h rfl rfl rfl (by show (p.scs.map _).length = _; rw [List.length_map]), List.all_eq_true]
  intro y hy
  have hB := (outP_B (plOK_B h) F).sc y hy
  obtain ⟨x, hx, rfl⟩ := List.mem_map.1 (show y ∈ p.scs.map _ from hy)
  exact scOK_iff.2 ⟨hB, fun n hn hr => (scOK_iff.1 (plOK_sc h x hx)).2 n (List.mem_filter.1 hn).1 (List.mem_filter.1 hr).1⟩
theorem out_sc {p : Ply} {F : List Int} {k : Nat} (hk : k < p.scs.length) : sc (outP p F) k = cutX F (sc p k) := by
  have h2 : k < (outP p F).scs.length := by show k < (p.scs.map _).length; rw [List.length_map]; exact hk
  rw [sc_at h2, sc_at hk]
  exact List.getElem_map (cutX F)
theorem plan_full (ok : List Int → Bool) : ∀ L now : List Int, ok (now ++ L) = true → plan ok L.length L now = some (now ++ L)
  | [], now, h => by
    rw [List.append_nil] at h ⊢
    show (if ok now = true then some now else none) = _
    rw [if_pos h]
  | c :: L, now, h => by
    have e : now ++ c :: L = (now ++ [c]) ++ L := by simp
    show (match plan ok L.length L (now ++ [c]) with | some l => some l | none => _) = _
    rw [plan_full ok L (now ++ [c]) (by rw [← e]; exact h), e]
theorem plays_out {p : Ply} {F : List Int} : okF p F = true ↔ ∀ k, k < p.scs.length → St.can p (cutX F (sc p k)) = true := by
  have e : okF p F = plays (outP p F) := rfl
  have hl : (outP p F).scs.length = p.scs.length := by show (p.scs.map _).length = _; rw [List.length_map]
  rw [e, plays_iff]
  constructor
  · intro h k hk; have := h k (by omega); rwa [out_sc hk] at this
  · intro h k hk; rw [out_sc (by omega)]; exact h k (by omega)
theorem cut_every {l : List Int} {n : Nat} (h : rising l n = true) : cutN (every n) l = [] := by
  unfold cutN; rw [List.filter_eq_nil_iff]
  intro a ha
  have := mem_every.2 ((rising_iff.1 h).2 a ha)
  simp [this]
theorem plays_none {p : Ply} (B : PlB p) : okF p (every p.figs.length) = true := by
  refine plays_out.2 fun k hk => can_iff.2 ?_
  have X := sc_B B hk
  have e : cutX (every p.figs.length) (sc p k) = ⟨[], [], (sc p k).knocks, (sc p k).taken⟩ := by unfold cutX; rw [cut_every X.mv, cut_every X.rs]
  rw [e]
  have := X.kn
  refine ⟨by unfold hands; simp; omega, [], mem_arr.2 ⟨rfl, fun a ha => by simp at ha, ?_⟩⟩
  unfold suits; rw [decide_eq_true_eq]; intro i hi; simp at hi
theorem leaves_some {p : Ply} (B : PlB p) : ∃ l, leaves p = some l := by
  cases h : leaves p with
  | some l => exact ⟨l, rfl⟩
  | none =>
    exfalso
    unfold leaves at h
    rw [List.findSome?_eq_none_iff] at h
    have h1 := h p.figs.length (List.mem_range.2 (by omega))
    have h2 := plan_full (okF p) (every p.figs.length) [] (by rw [List.nil_append]; exact plays_none B)
    rw [show (every p.figs.length).length = p.figs.length by simp [every]] at h2
    rw [h2] at h1; cases h1
theorem rise_sub {l : List Int} {n : Nat} (h : rising l n = true) : List.Sublist l (every n) := Hd.ms_sub (rising_iff.1 h)
theorem leaves_is {p : Ply} {l : List Int} (h : leaves p = some l) :
    rising l p.figs.length = true ∧ okF p l = true ∧ ∀ q, rising q p.figs.length = true → okF p q = true → l.length < q.length ∨ (l.length = q.length ∧ befB q l = false) := by
  unfold leaves at h
  obtain ⟨m, hm, h1, h2⟩ := findSome_inv h
  obtain ⟨q, e, hq, hl, hok, hmin⟩ := Hd.plan_some_inv (Hd.every_rising _) h1
  rw [List.nil_append] at e; subst e
  refine ⟨rising_iff.2 (Hd.sub_ms hq), hok, fun r hr hk => ?_⟩
  have hs := rise_sub hr
  rcases Nat.lt_trichotomy l.length r.length with g | g | g
  · exact .inl g
  · exact .inr ⟨g, hmin r hs (by omega) (by rw [List.nil_append]; exact hk)⟩
  · exfalso
    have := Hd.plan_none_inv (h2 r.length (by omega)) r hs rfl
    rw [List.nil_append] at this; rw [this] at hk; cases hk
theorem cut_nil (l : List Int) : cutN [] l = l := List.filter_eq_self.2 fun a _ => by simp
theorem out_nil (p : Ply) : outP p [] = p := by
  have : ∀ x : Scn, cutX [] x = x := fun x => by show Scn.mk (cutN [] x.moved) (cutN [] x.rest) x.knocks x.taken = x; rw [cut_nil, cut_nil]
  show Ply.mk p.left p.hts p.figs (p.scs.map (cutX [])) = p
  rw [show cutX [] = id from funext this, List.map_id]
theorem leaves_nil {p : Ply} {l : List Int} (h : leaves p = some l) : plays p = decide (l.length = 0) := by
  obtain ⟨h1, h2, h3⟩ := leaves_is h
  rw [Bool.eq_iff_iff, decide_eq_true_eq]
  constructor
  · intro q
    rcases h3 [] (rising_iff.2 ⟨List.Pairwise.nil, fun x hx => by cases hx⟩) (by show plays (outP p []) = true; rw [out_nil]; exact q) with g | g
    · simp at g
    · simpa using g.1
  · intro q
    have e : l = [] := List.length_eq_zero_iff.1 q
    subst e
    have : plays (outP p []) = true := h2
    rwa [out_nil] at this
theorem low_zero (p : Ply) : lowP p 0 = p := by
  show Ply.mk p.left (p.hts.map fun h => h - ((0 : Nat) : Int)) p.figs p.scs = p
  rw [show (fun h : Int => h - ((0 : Nat) : Int)) = id from funext fun h => by simp, List.map_id]
theorem lower_is {p : Ply} {n : Nat} (h : lower p = some n) : n < 10 ∧ plays (lowP p n) = true ∧ ∀ j, j < n → plays (lowP p j) = false := by
  unfold lower at h
  rw [List.find?_range_eq_some] at h
  exact ⟨List.mem_range.1 h.2.1, h.1, fun j hj => by have := h.2.2 j hj; exact Bool.eq_false_iff.2 fun q => by rw [show plays0 (lowP p j) = true from q] at this; cases this⟩
theorem lower_no {p : Ply} (h : lower p = none) : ∀ j, j < 10 → plays (lowP p j) = false := fun j hj => by
  unfold lower at h
  rw [List.find?_eq_none] at h
  have := h j (List.mem_range.2 hj)
  exact Bool.eq_false_iff.2 fun q => this q
theorem lower_zero {p : Ply} : plays p = decide (lower p = some 0) := by
  rw [Bool.eq_iff_iff, decide_eq_true_eq]
  constructor
  · intro q
    exact lower_some (by omega) (by show plays (lowP p 0) = true; rw [low_zero]; exact q) (fun j hj => by omega)
  · intro q
    have := (lower_is q).2.1
    rwa [low_zero] at this
theorem low_less {p : Ply} {n : Nat} (hn : n < 10) (h : ∀ m, lower p = some m → n < m) : plays (lowP p n) = false := by
  cases e : lower p with
  | none => exact lower_no e n hn
  | some m => exact (lower_is e).2.2 n (h m e)
end Go.Proofs.YtfmpabgblbbcdaaGreatDoor
namespace Go.Proofs.YtfmpabgblbbcdaaGreatDoor
open Go Go.Ab Ni St
open Hd hiding sz
instance en59 : EnT Tryz.prog 59 := ⟨Ent.of Tryz.func59 (by kernel_rfl) rfl⟩
instance en96 : EnT Tryz.prog 96 := ⟨Ent.of Tryz.func96 (by kernel_rfl) rfl⟩
theorem rcut_pure (F l : List Int) (hF : F.length ≤ 1000000) (hl : l.length ≤ 1000000) : APure Tryz.prog 96 [ints l, ints F] (ints (cutN F l)) := by
  refine ap Tryz.func96 (fun e0 he0 => ?_)
  refine vz 3 ?_
  refine sq_nil ?_
  refine aw_block ?_
  refine aw_sub (sub_token 5 1 jz) ?_
  refine aw_loopk (ι := { k : Nat // k ≤ l.length }) [0, 1] (fun i => [(6, I i.1), (5, .own 0 1 ((cutN F (l.take i.1)).map (fun x => [I x])))]) (fun H i => H.set 0 (.tok ((cutN F (l.take i.1)).map (fun x => [I x])).length)) (fun i => l.length - i.1) (⟨0, Nat.zero_le _⟩) ⟨jz, jz, jz, jz, trivial⟩ rfl ?_
  rintro ⟨k, hk⟩
  refine nz ?_
  have hcl : (cutN F (l.take k)).length ≤ l.length := Nat.le_trans (List.length_filter_le _ _) (by rw [List.length_take]; omega)
  refine wz 4 ?_
  refine iz (fun c_10 c_10' => ?_) (fun c_10 c_10' => ?_)
  ·have hkL : k < l.length := by omega
   refine wz 5 ?_
   refine kz az (has_pure F l[k] hF) ?_
   refine wz 1 ?_
   refine iz (fun c_19 c_19' => ?_) (fun c_19 c_19' => ?_)
   ·have eS : (cutN F (l.take (k + 1))).map (fun x => [I x]) = (cutN F (l.take k)).map (fun x => [I x]) ++ [[I l[k]]] := by unfold cutN; rw [fil_succ hkL, if_pos (by simpa using c_19), List.map_append]; rfl
    refine wz 5 ?_
    refine sq_ev rfl (ev_buildSlice (es := [[_]]) sf22.h rfl rfl rfl rfl) ?_
    first | refine sq_append rfl sf22.h Tryz.underlying22 rfl rfl jz (Nat.succ_pos _) (by simp; omega) (by simp; omega) ?_ | refine sq_append rfl sf22.h Tryz.underlying22 rfl rfl (less_slx _ _) (Nat.succ_pos _) (by simp; omega) (by simp; omega) ?_
    refine wz 4 ?_
    exact ⟨⟨k + 1, by omega⟩, by simp only; omega, sb 1 ⟨jz, Less.eq (b := .own 0 1 ((cutN F (l.take (k + 1))).map (fun x => [I x]))) (by rw [eS] <;> rfl), jz, jz, trivial⟩ (hH := (congrArg (fun n => [AObj.tok n]) (congrArg List.length eS.symm)))⟩
   have eS : (cutN F (l.take (k + 1))).map (fun x => [I x]) = (cutN F (l.take k)).map (fun x => [I x]) := by unfold cutN; rw [fil_succ hkL, if_neg (by simpa using c_19), List.append_nil]
   refine wz 3 ?_
   exact ⟨⟨k + 1, by omega⟩, by simp only; omega, sb 1 ⟨jz, Less.eq (b := .own 0 1 ((cutN F (l.take (k + 1))).map (fun x => [I x]))) (by rw [eS] <;> rfl), jz, jz, trivial⟩ (hH := (congrArg (fun n => [AObj.tok n]) (congrArg List.length eS.symm)))⟩
  obtain rfl : k = l.length := by omega
  refine wz 2 ?_
  exact retQ_pure (v := .own _ _ _) rfl rfl (Less.trans (less_own _ _ _) (Less.eq (by rw [List.take_length])))
theorem copS2_call0 {p : Ply} {o0 : AObj} {o1 : AObj} (hh : 0 < p.hts.length ∧ p.hts.length ≤ 1000000) (hf : 0 < p.figs.length ∧ p.figs.length ≤ 1000000) (hs : 0 < p.scs.length ∧ p.scs.length ≤ 1000000) : ACall Tryz.prog 59 [plA p] [o0, o1] (fun y H' => ∃ cap l1 l2, p.scs.length ≤ cap ∧ y = .ret (.agg [I p.left, ints p.hts, fgs p.figs, .msl 6 0 p.scs.length cap]) ∧ H' = [o0, o1, .cells l1, .cells l2, .dead, .dead, .cells ((p.scs.map scC).flatten ++ List.replicate ((cap - p.scs.length) * 4) .any)]) := by
  refine acall_of (rs := [.cell 2 26]) Tryz.func59 rfl rfl (Nat.le_of_ble_eq_true rfl) fun e0 he0 => ?_
  refine wz 4 ?_
  refine sq_append_msl2 rfl sf22.h Tryz.underlying22 (less_nilx _) jz (by simpa using hh.1) (by simp; omega) (by simp; omega) (fun c1 hc1 hc1b => ?_)
  simp only [List.length_map] at hc1 hc1b ⊢
  refine nz ?_
  refine wz 4 ?_
  refine sq_append_msl2 rfl sf23.h Tryz.underlying23 (less_nilx _) jz (by simpa using hf.1) (by simp; omega) (by simp; omega) (fun c2 hc2 hc2b => ?_)
  simp only [List.length_map] at hc2 hc2b ⊢
  refine nz ?_
  refine wz 4 ?_
  refine sq_append_msl2 rfl sf24.h Tryz.underlying24 (less_nilx _) jz (by simpa using hs.1) (by simp; omega) (by simp; omega) (fun c3 hc3 hc3b => ?_)
  simp only [List.length_map] at hc3 hc3b ⊢
  refine nz ?_
  refine vz 2 ?_
  refine sq_nil ?_
  refine aw_seq ?_
  refine aw_sub (sub_freeze (j := 4) (n := p.hts.length) (cap := c1) (sz := 1) (es := p.hts.map (fun x => [I x])) (rest := List.replicate ((c1 - p.hts.length) * 1) .any) (sl' := [(1, .ptr 2 0), (2, .ptr 3 0)]) rfl (by simp) (fun q hq => by obtain ⟨x, _, rfl⟩ := List.mem_map.1 hq; rfl) (fun q hq => ?_) (FzH.same _ (by decide) (FzH.same _ (by decide) (FzH.cells (by decide) (FzL.cons (Fz.same _) (FzL.cons Fz.frozen (FzL.cons (Fz.same _) (FzL.cons (Fz.same _) FzL.nil)))) (FzH.same _ (by decide) (FzH.dead _ rfl (FzH.same _ (by decide) (FzH.same _ (by decide) (FzH.nil _))))))))) ?_
  ·simp only [List.mem_cons, List.not_mem_nil, or_false] at hq; rcases hq with rfl | rfl <;> exact Fz.same _
  refine nz ?_
  refine aw_sub (sub_freeze (j := 5) (n := p.figs.length) (cap := c2) (sz := 3) (es := p.figs.map fgC) (rest := List.replicate ((c2 - p.figs.length) * 3) .any) (sl' := [(1, .ptr 2 0), (2, .ptr 3 0)]) rfl (by simp) (fun q hq => by obtain ⟨x, _, rfl⟩ := List.mem_map.1 hq; rfl) (fun q hq => ?_) (FzH.same _ (by decide) (FzH.same _ (by decide) (FzH.cells (by decide) (FzL.cons (Fz.same _) (FzL.cons (Fz.same _) (FzL.cons Fz.frozen (FzL.cons (Fz.same _) FzL.nil)))) (FzH.same _ (by decide) (FzH.same _ (by decide) (FzH.dead _ rfl (FzH.same _ (by decide) (FzH.nil _))))))))) ?_
  ·simp only [List.mem_cons, List.not_mem_nil, or_false] at hq; rcases hq with rfl | rfl <;> exact Fz.same _
  refine nz ?_
  refine wz 2 ?_
  exact ⟨rfl, _, rfl, c3, _, _, hc3, rfl, rfl⟩
theorem copS2_call {p : Ply} {o0 : AObj} {o1 : AObj} (hh : 0 < p.hts.length ∧ p.hts.length ≤ 1000000) (hf : 0 < p.figs.length ∧ p.figs.length ≤ 1000000) (hs : 0 < p.scs.length ∧ p.scs.length ≤ 1000000) : ACall Tryz.prog 59 [plA p] [o0, o1] (fun y H' => ∃ cap, p.scs.length ≤ cap ∧ y = .ret (.agg [I p.left, ints p.hts, fgs p.figs, .msl 6 0 p.scs.length cap]) ∧ H' = [o0, o1, .dead, .dead, .dead, .dead, .cells ((p.scs.map scC).flatten ++ List.replicate ((cap - p.scs.length) * 4) .any)]) :=
  acall_wk (copS2_call0 hh hf hs) fun y H1 ⟨cap, l1, l2, hcap, hy, hH⟩ => ⟨_, _, _, hy, Less.rfl' _, by subst hH; exact .cons (.same _) (.cons (.same _) (.cons (.dead _) (.cons (.dead _) (.cons (.same _) (.cons (.same _) (.cons (.same _) (.nil))))))), cap, hcap, rfl, rfl⟩
theorem copH2_call0 {p : Ply} {o0 : AObj} {o1 : AObj} (hh : 0 < p.hts.length ∧ p.hts.length ≤ 1000000) (hf : 0 < p.figs.length ∧ p.figs.length ≤ 1000000) (hs : 0 < p.scs.length ∧ p.scs.length ≤ 1000000) : ACall Tryz.prog 59 [plA p] [o0, o1] (fun y H' => ∃ cap l1 l2, p.hts.length ≤ cap ∧ y = .ret (.agg [I p.left, .msl 4 0 p.hts.length cap, fgs p.figs, scs p.scs]) ∧ H' = [o0, o1, .cells l1, .cells l2, .cells ((p.hts.map (fun x => [I x])).flatten ++ List.replicate ((cap - p.hts.length) * 1) .any), .dead, .dead]) := by
  refine acall_of (rs := [.cell 2 26]) Tryz.func59 rfl rfl (Nat.le_of_ble_eq_true rfl) fun e0 he0 => ?_
  refine wz 4 ?_
  refine sq_append_msl2 rfl sf22.h Tryz.underlying22 (less_nilx _) jz (by simpa using hh.1) (by simp; omega) (by simp; omega) (fun c1 hc1 hc1b => ?_)
  simp only [List.length_map] at hc1 hc1b ⊢
  refine nz ?_
  refine wz 4 ?_
  refine sq_append_msl2 rfl sf23.h Tryz.underlying23 (less_nilx _) jz (by simpa using hf.1) (by simp; omega) (by simp; omega) (fun c2 hc2 hc2b => ?_)
  simp only [List.length_map] at hc2 hc2b ⊢
  refine nz ?_
  refine wz 4 ?_
  refine sq_append_msl2 rfl sf24.h Tryz.underlying24 (less_nilx _) jz (by simpa using hs.1) (by simp; omega) (by simp; omega) (fun c3 hc3 hc3b => ?_)
  simp only [List.length_map] at hc3 hc3b ⊢
  refine nz ?_
  refine vz 2 ?_
  refine sq_nil ?_
  refine aw_seq ?_
  refine aw_sub (sub_freeze (j := 5) (n := p.figs.length) (cap := c2) (sz := 3) (es := p.figs.map fgC) (rest := List.replicate ((c2 - p.figs.length) * 3) .any) (sl' := [(1, .ptr 2 0), (2, .ptr 3 0)]) rfl (by simp) (fun q hq => by obtain ⟨x, _, rfl⟩ := List.mem_map.1 hq; rfl) (fun q hq => ?_) (FzH.same _ (by decide) (FzH.same _ (by decide) (FzH.cells (by decide) (FzL.cons (Fz.same _) (FzL.cons (Fz.same _) (FzL.cons Fz.frozen (FzL.cons (Fz.same _) FzL.nil)))) (FzH.same _ (by decide) (FzH.same _ (by decide) (FzH.dead _ rfl (FzH.same _ (by decide) (FzH.nil _))))))))) ?_
  ·simp only [List.mem_cons, List.not_mem_nil, or_false] at hq; rcases hq with rfl | rfl <;> exact Fz.same _
  refine nz ?_
  refine aw_sub (sub_freeze (j := 6) (n := p.scs.length) (cap := c3) (sz := 4) (es := p.scs.map scC) (rest := List.replicate ((c3 - p.scs.length) * 4) .any) (sl' := [(1, .ptr 2 0), (2, .ptr 3 0)]) rfl (by simp) (fun q hq => by obtain ⟨x, _, rfl⟩ := List.mem_map.1 hq; rfl) (fun q hq => ?_) (FzH.same _ (by decide) (FzH.same _ (by decide) (FzH.cells (by decide) (FzL.cons (Fz.same _) (FzL.cons (Fz.same _) (FzL.cons (Fz.same _) (FzL.cons Fz.frozen FzL.nil)))) (FzH.same _ (by decide) (FzH.same _ (by decide) (FzH.same _ (by decide) (FzH.dead _ rfl (FzH.nil _))))))))) ?_
  ·simp only [List.mem_cons, List.not_mem_nil, or_false] at hq; rcases hq with rfl | rfl <;> exact Fz.same _
  refine nz ?_
  refine wz 2 ?_
  exact ⟨rfl, _, rfl, c1, _, _, hc1, rfl, rfl⟩
theorem copH2_call {p : Ply} {o0 : AObj} {o1 : AObj} (hh : 0 < p.hts.length ∧ p.hts.length ≤ 1000000) (hf : 0 < p.figs.length ∧ p.figs.length ≤ 1000000) (hs : 0 < p.scs.length ∧ p.scs.length ≤ 1000000) : ACall Tryz.prog 59 [plA p] [o0, o1] (fun y H' => ∃ cap, p.hts.length ≤ cap ∧ y = .ret (.agg [I p.left, .msl 4 0 p.hts.length cap, fgs p.figs, scs p.scs]) ∧ H' = [o0, o1, .dead, .dead, .cells ((p.hts.map (fun x => [I x])).flatten ++ List.replicate ((cap - p.hts.length) * 1) .any), .dead, .dead]) :=
  acall_wk (copH2_call0 hh hf hs) fun y H1 ⟨cap, l1, l2, hcap, hy, hH⟩ => ⟨_, _, _, hy, Less.rfl' _, by subst hH; exact .cons (.same _) (.cons (.same _) (.cons (.dead _) (.cons (.dead _) (.cons (.same _) (.cons (.same _) (.cons (.same _) (.nil))))))), cap, hcap, rfl, rfl⟩
end Go.Proofs.YtfmpabgblbbcdaaGreatDoor
namespace Go.Proofs.YtfmpabgblbbcdaaGreatDoor
open Go Go.Ab Ni St
open Hd hiding sz
instance en40 : EnT Tryz.prog 40 := ⟨Ent.of Tryz.func40 (by kernel_rfl) rfl⟩
instance en42 : EnT Tryz.prog 42 := ⟨Ent.of Tryz.func42 (by kernel_rfl) rfl⟩
theorem row_at {R : List AV} {j : Nat} (hj : j < 4) : ∀ {k : Nat} {l : List Scn} (hk : k < l.length), ((l.map scC).flatten ++ R)[0 + k * 4 + j]? = (scC l[k])[j]?
  | 0, x :: l, _ => by
    rw [List.map_cons, List.flatten_cons, List.append_assoc, List.getElem?_append_left (by show 0 + 0 * 4 + j < 4; omega)]
    rw [show 0 + 0 * 4 + j = j by omega]; rfl
  | k + 1, x :: l, hk => by
    have ih := row_at (R := R) hj (k := k) (l := l) (by simpa using hk)
    rw [List.map_cons, List.flatten_cons, List.append_assoc, List.getElem?_append_right (by show 4 ≤ 0 + (k + 1) * 4 + j; omega)]
    have e : 0 + (k + 1) * 4 + j - (scC x).length = 0 + k * 4 + j := by show _ - 4 = _; omega
    rw [e]; exact ih
theorem row_set {R : List AV} {j : Nat} (hj : j < 4) {v : AV} {x' : Scn} : ∀ {k : Nat} {l : List Scn} (hk : k < l.length), scC x' = (scC l[k]).set j v → ((l.map scC).flatten ++ R).set (0 + k * 4 + j) v = ((l.set k x').map scC).flatten ++ R
  | 0, x :: l, _, h => by
    rw [List.map_cons, List.flatten_cons, List.append_assoc, show 0 + 0 * 4 + j = j by omega, List.set_append_left _ _ (by show j < 4; omega)]
    rw [List.set_cons_zero, List.map_cons, List.flatten_cons, List.append_assoc]
    rw [h]; rfl
  | k + 1, x :: l, hk, h => by
    have ih := row_set (R := R) hj (v := v) (x' := x') (k := k) (l := l) (by simpa using hk) h
    rw [List.map_cons, List.flatten_cons, List.append_assoc, List.set_append_right _ _ (by show 4 ≤ 0 + (k + 1) * 4 + j; omega)]
    have e : 0 + (k + 1) * 4 + j - (scC x).length = 0 + k * 4 + j := by show _ - 4 = _; omega
    rw [e, ih, List.set_cons_succ, List.map_cons, List.flatten_cons, List.append_assoc]
theorem fl_fld (l : List Scn) (R : List AV) {k j : Nat} (hk : k < l.length) (hj : j < 4) (v : AV) (x' : Scn) (h : scC x' = (scC l[k]).set j v) :
    ((l.map scC).flatten ++ R).take (0 + k * 4 + j) ++ [v] ++ ((l.map scC).flatten ++ R).drop (0 + k * 4 + j + 1) = ((l.set k x').map scC).flatten ++ R := by
  have hl : ((l.map scC).flatten).length = l.length * 4 := fl_len (f := scC) (sz := 4) (fun a => rfl) l
  rw [← row_set hj hk h, List.set_eq_take_append_cons_drop, if_pos (by rw [List.length_append, hl]; omega)]
  simp
theorem row_len (l : List Scn) (R : List AV) {k j : Nat} (hk : k < l.length) (hj : j < 4) : Nat.ble (0 + k * 4 + j + 1) ((l.map scC).flatten ++ R).length = true :=
  Nat.ble_eq_true_of_le (by rw [List.length_append, fl_len (f := scC) (sz := 4) (fun a => rfl)]; omega)
theorem fld2 {a b : Nat} {v : AV} {M N O : List AV} (h1 : M = N) (h2 : N.take a ++ [v] ++ N.drop b = O) : M.take a ++ [v] ++ M.drop b = O := by rw [h1]; exact h2
theorem pl_bd {p : Ply} (B : PlB p) : (0 < p.hts.length ∧ p.hts.length ≤ 1000000) ∧ (0 < p.figs.length ∧ p.figs.length ≤ 1000000) ∧ (0 < p.scs.length ∧ p.scs.length ≤ 1000000) := by
  have := B.nh; have := B.nf; have := B.ns; omega
def cutM (F : List Int) (x : Scn) : Scn := { x with moved := cutN F x.moved }
theorem rlow_pure {p : Ply} (gP : PlB p) {n : Nat} (hn : n < 10) : APure Tryz.prog 42 [plA p, I n] (plA (lowP p n)) := by
  refine ap Tryz.func42 (fun e0 he0 => ?_)
  refine aw_seq ?_
  have hnh := gP.nh
  refine wz 3 ?_
  refine sq_call (args := [plA p]) rfl en59.h jz ⟨jz, trivial⟩ (copH2_call (pl_bd gP).1 (pl_bd gP).2.1 (pl_bd gP).2.2) ?_ (by rintro v H' ⟨_, _, h, _⟩; cases h)
  rintro v H' ⟨cap, hcap, h, rfl⟩
  cases h
  refine wz 2 ?_
  refine aw_loopk (ι := { i : Nat // i ≤ p.hts.length }) [1, 2, 4] (fun g => [(5, I (g.1 : Nat))]) (fun H g => [.cells [I p.left, .msl 4 0 p.hts.length cap, fgs p.figs, scs p.scs], .cells [I 0, .raw (.slice none 0 0), .raw (.slice none 0 0), .raw (.slice none 0 0)], .dead, .dead, .cells (((lowK p n g.1).map fun x => [I x]).flatten ++ List.replicate ((cap - p.hts.length) * 1) .any), .dead, .dead]) (fun g => p.hts.length - g.1) (⟨0, Nat.zero_le _⟩) ⟨jz, jz, jz, jz, trivial⟩ (by show _ = _; rw [lowK_zero]; rfl) ?_
  rintro ⟨i, hi⟩
  refine nz ?_
  refine wz 3 ?_
  refine sq_ev rfl (ev_len_msl sl22.h jz) ?_
  refine wz 1 ?_
  refine iz (fun c_12 c_12' => ?_) (fun c_12 c_12' => ?_)
  ·have hil : i < p.hts.length := by omega
   have hbh := gP.ht _ (List.getElem_mem hil)
   have eR := (fl_set (f := fun x => [I x]) (sz := 1) (fun a => rfl) (lowK p n i) (List.replicate ((cap - p.hts.length) * 1) AV.any) (i := i) (by rw [lowK_len (by omega)]; exact hil) (p.hts[i] - (n : Int))).trans (by rw [← lowK_succ hil])
   refine wz 0 ?_
   refine aw_draw 11 mo (by kernel_rfl) ?_
   refine dz 6 ?_
   refine dr_ev rfl (ev_index_msl (k := i) sl22.h jz jz rfl hil) ?_
   refine dr_ev rfl (ev_load (v := I p.hts[i]) jz rfl ty3.h (hts_row hil)) ?_
   refine dz 1 ?_
   refine dr_ev rfl (ev_sub (q := p.hts[i] - n) jz jz (wr (by omega) (by omega))) ?_
   refine dr_ev rfl (ev_index_msl (k := i) sl22.h jz jz rfl hil) ?_
   refine dr_end ?_
   refine sq_store (j := 4) (off := 0 + i * 1) rfl jz jz rfl rfl ty3.h rfl (Nat.ble_eq_true_of_le (by rw [List.length_append, fl_len (f := fun x => [I x]) (sz := 1) (fun a => rfl), lowK_len (by omega)]; omega)) ?_
   refine wz 3 ?_
   exact ⟨⟨i + 1, by omega⟩, by simp only; omega, sb 7 ⟨jz, jz, jz, jz, trivial⟩ (hH := (congrArg (fun L => [AObj.cells [I p.left, .msl 4 0 p.hts.length cap, fgs p.figs, scs p.scs], AObj.cells [I 0, .raw (.slice none 0 0), .raw (.slice none 0 0), .raw (.slice none 0 0)], AObj.dead, AObj.dead, AObj.cells L, AObj.dead, AObj.dead]) eR)) (h2 := (by simp [objsIn, AObj.inB, AV.inB, AV.inL, inL_row]))⟩
  obtain rfl : i = p.hts.length := by omega
  refine aw_exit ?_
  refine aw_seq ?_
  rw [lowK_all]
  refine aw_sub (sub_freeze (j := 4) (n := p.hts.length) (cap := cap) (sz := 1) (es := (lowP p n).hts.map fun x => [I x]) (rest := List.replicate ((cap - p.hts.length) * 1) .any) (sl' := [(2, .ptr 0 0), (4, .ptr 1 0)]) rfl (by simp [lowP]) (fun q hq => by obtain ⟨x, _, rfl⟩ := List.mem_map.1 hq; rfl) (fun q hq => ?_) (FzH.cells (by decide) (FzL.cons (Fz.same _) (FzL.cons Fz.frozen (FzL.cons (Fz.same _) (FzL.cons (Fz.same _) FzL.nil)))) (FzH.same _ (by decide) (FzH.same _ (by decide) (FzH.same _ (by decide) (FzH.dead _ rfl (FzH.same _ (by decide) (FzH.same _ (by decide) (FzH.nil _))))))))) ?_
  ·simp only [List.mem_cons, List.not_mem_nil, or_false] at hq; rcases hq with rfl | rfl <;> exact Fz.same _
  refine nz ?_
  refine wz 2 ?_
  exact retQ_res (vs := [.agg _]) rfl rfl ⟨resVar_cell rfl rfl ty26.h rfl, trivial⟩ jz
theorem rwithout_pure {p : Ply} (gP : PlB p) {F : List Int} (hF : F.length ≤ 1000000) : APure Tryz.prog 40 [plA p, ints F] (plA (outP p F)) := by
  refine ap Tryz.func40 (fun e0 he0 => ?_)
  refine wz 3 ?_
  refine sq_call (args := [plA p]) rfl en59.h jz ⟨jz, trivial⟩ (copS2_call (pl_bd gP).1 (pl_bd gP).2.1 (pl_bd gP).2.2) ?_ (by rintro v H' ⟨_, _, h, _⟩; cases h)
  rintro v H' ⟨cap, hcap, h, rfl⟩
  cases h
  refine wz 2 ?_
  refine aw_loopk (ι := { k : Nat // k ≤ p.scs.length }) [1, 2, 4] (fun g => [(5, I (g.1 : Nat))]) (fun H g => [.cells [I p.left, ints p.hts, fgs p.figs, .msl 6 0 p.scs.length cap], .cells [I 0, .raw (.slice none 0 0), .raw (.slice none 0 0), .raw (.slice none 0 0)], .dead, .dead, .dead, .dead, .cells (((outK p F g.1).map scC).flatten ++ List.replicate ((cap - p.scs.length) * 4) .any)]) (fun g => p.scs.length - g.1) (⟨0, Nat.zero_le _⟩) ⟨jz, jz, jz, jz, trivial⟩ (by show _ = _; rw [outK_zero]; rfl) ?_
  rintro ⟨k, hk⟩
  refine nz ?_
  refine wz 3 ?_
  refine sq_ev rfl (ev_len_msl sl24.h jz) ?_
  refine wz 1 ?_
  refine iz (fun c_12 c_12' => ?_) (fun c_12 c_12' => ?_)
  ·have hkl : k < p.scs.length := by omega
   have e1 := fl_fld (outK p F k) (List.replicate ((cap - p.scs.length) * 4) AV.any) (k := k) (j := 0) (by rw [outK_len (by omega)]; exact hkl) (by decide) (ints (cutN F p.scs[k].moved)) (cutM F p.scs[k]) (by rw [outK_get (F := F) hkl]; rfl)
   have eR := fld2 e1 ((fl_fld ((outK p F k).set k (cutM F p.scs[k])) (List.replicate ((cap - p.scs.length) * 4) AV.any) (k := k) (j := 1) (by rw [List.length_set]; exact (by rw [outK_len (by omega)]; exact hkl)) (by decide) (ints (cutN F p.scs[k].rest)) (cutX F p.scs[k]) (by rw [List.getElem_set_self]; rfl)).trans (by rw [List.set_set, ← outK_succ hkl]))
   refine aw_skip ?_
   refine aw_seq ?_
   refine aw_block ?_
   have hns := gP.ns
   have gX := gP.sc _ (List.getElem_mem hkl)
   have hml := rising_len gX.mv
   have hrl := rising_len gX.rs
   have hnf := gP.nf
   have eRw := outK_get (F := F) hkl
   refine aw_drawl [(24, 6), (27, 6)] mo (by kernel_rfl) ?_
   first | refine dl_ev [6] rfl (by kernel_rfl) (ev_fieldAddr fo26_3.h jz) ?_ | refine dl_ev [6] rfl (by kernel_rfl) (ev_fieldAddr_i fo26_3.h jz) ?_
   first | refine dl_ev [6] rfl (by kernel_rfl) (ev_load jz rfl ty24.h rfl) ?_ | refine dl_ev [6] rfl (by kernel_rfl) (ev_load_i jz ty24.h rfl) ?_
   refine dl_ev [6] rfl (by kernel_rfl) (ev_mv (v := .raw _) jz) ?_
   first | refine dl_ev [6] rfl (by kernel_rfl) (ev_fieldAddr fo26_3.h jz) ?_ | refine dl_ev [6] rfl (by kernel_rfl) (ev_fieldAddr_i fo26_3.h jz) ?_
   first | refine dl_ev [6] rfl (by kernel_rfl) (ev_load jz rfl ty24.h rfl) ?_ | refine dl_ev [6] rfl (by kernel_rfl) (ev_load_i jz ty24.h rfl) ?_
   refine dl_ev [6] rfl (by kernel_rfl) (ev_mv (v := .raw _) jz) ?_
   first | refine dl_ev [6] rfl (by kernel_rfl) (ev_fieldAddr fo26_3.h jz) ?_ | refine dl_ev [6] rfl (by kernel_rfl) (ev_fieldAddr_i fo26_3.h jz) ?_
   first | refine dl_ev [6] rfl (by kernel_rfl) (ev_load jz rfl ty24.h rfl) ?_ | refine dl_ev [6] rfl (by kernel_rfl) (ev_load_i jz ty24.h rfl) ?_
   refine dl_ev [6] rfl (by kernel_rfl) (ev_mv (v := .raw _) jz) ?_
   refine dl_ev [6] rfl (by kernel_rfl) (ev_index_msl (k := k) sl24.h jz jz rfl hkl) ?_
   first | refine dl_ev [6] rfl (by kernel_rfl) (ev_fieldAddr fo41_0.h jz) ?_ | refine dl_ev [6] rfl (by kernel_rfl) (ev_fieldAddr_i fo41_0.h jz) ?_
   refine dl_ev [] rfl (by kernel_rfl) (ev_load (v := ints p.scs[k].moved) jz rfl ty22.h (by rw [row_at (j := 0) (by decide) (by rw [outK_len (by omega)]; exact hkl), eRw]; rfl)) ?_
   first | refine dl_ev [6] rfl (by kernel_rfl) (ev_mv (v := .sl _ _) jz) ?_ | refine dl_ev [6] rfl (by kernel_rfl) (ev_mv (v := .own _ _ _) jz) ?_ | refine dl_ev [6] rfl (by kernel_rfl) (ev_mv (v := .raw _) jz) ?_ | refine dl_ev [6] rfl (by kernel_rfl) (ev_mv (v := .slx _ _) jz) ?_ | refine dl_ev [6] rfl (by kernel_rfl) (ev_mv (v := .msl _ _ _ _) jz) ?_
   refine dl_ev [6] rfl (by kernel_rfl) (ev_call en96.h jz (rcut_pure F p.scs[k].moved hF (by omega)) ⟨jz, jz, trivial⟩) ?_
   first | refine dl_ev [6] rfl (by kernel_rfl) (ev_fieldAddr fo26_3.h jz) ?_ | refine dl_ev [6] rfl (by kernel_rfl) (ev_fieldAddr_i fo26_3.h jz) ?_
   first | refine dl_ev [6] rfl (by kernel_rfl) (ev_load jz rfl ty24.h rfl) ?_ | refine dl_ev [6] rfl (by kernel_rfl) (ev_load_i jz ty24.h rfl) ?_
   refine dl_ev [6] rfl (by kernel_rfl) (ev_mv (v := .raw _) jz) ?_
   refine dl_ev [6] rfl (by kernel_rfl) (ev_index_msl (k := k) sl24.h jz jz rfl hkl) ?_
   first | refine dl_ev [6] rfl (by kernel_rfl) (ev_fieldAddr fo41_1.h jz) ?_ | refine dl_ev [6] rfl (by kernel_rfl) (ev_fieldAddr_i fo41_1.h jz) ?_
   refine dl_ev [] rfl (by kernel_rfl) (ev_load (v := ints p.scs[k].rest) jz rfl ty22.h (by rw [row_at (j := 1) (by decide) (by rw [outK_len (by omega)]; exact hkl), eRw]; rfl)) ?_
   first | refine dl_ev [6] rfl (by kernel_rfl) (ev_mv (v := .sl _ _) jz) ?_ | refine dl_ev [6] rfl (by kernel_rfl) (ev_mv (v := .own _ _ _) jz) ?_ | refine dl_ev [6] rfl (by kernel_rfl) (ev_mv (v := .raw _) jz) ?_ | refine dl_ev [6] rfl (by kernel_rfl) (ev_mv (v := .slx _ _) jz) ?_ | refine dl_ev [6] rfl (by kernel_rfl) (ev_mv (v := .msl _ _ _ _) jz) ?_
   refine dl_ev [6] rfl (by kernel_rfl) (ev_call en96.h jz (rcut_pure F p.scs[k].rest hF (by omega)) ⟨jz, jz, trivial⟩) ?_
   refine dl_ev [6] rfl (by kernel_rfl) (ev_index_msl (k := k) sl24.h jz jz rfl hkl) ?_
   first | refine dl_ev [6] rfl (by kernel_rfl) (ev_fieldAddr fo41_0.h jz) ?_ | refine dl_ev [6] rfl (by kernel_rfl) (ev_fieldAddr_i fo41_0.h jz) ?_
   refine dl_eff rfl (by kernel_rfl) rfl rfl (effl_store (off := 0 + k * 4 + 0) rfl jz jz rfl ty22.h rfl (row_len (outK p F k) _ (j := 0) (by rw [outK_len (by omega)]; exact hkl) (by decide))) ?_
   refine dl_ev [6] rfl (by kernel_rfl) (ev_index_msl (k := k) sl24.h jz jz rfl hkl) ?_
   first | refine dl_ev [6] rfl (by kernel_rfl) (ev_fieldAddr fo41_1.h jz) ?_ | refine dl_ev [6] rfl (by kernel_rfl) (ev_fieldAddr_i fo41_1.h jz) ?_
   refine dl_eff rfl (by kernel_rfl) rfl rfl (effl_store (off := 0 + k * 4 + 1) rfl jz jz rfl ty22.h rfl ((congrArg (fun l => Nat.ble (0 + k * 4 + 1 + 1) l.length) e1).trans (row_len ((outK p F k).set k (cutM F p.scs[k])) _ (j := 1) (by rw [List.length_set]; exact (by rw [outK_len (by omega)]; exact hkl)) (by decide)))) ?_
   refine dl_nil ?_
   refine nz ?_
   refine wz 3 ?_
   exact ⟨⟨k + 1, by omega⟩, by simp only; omega, sb 7 ⟨jz, jz, jz, jz, trivial⟩ (hH := (congrArg (fun L => [_, _, _, _, _, _, AObj.cells L]) eR)) (h2 := (by simp [objsIn, AObj.inB, AV.inB, AV.inL, inL_rowS]))⟩
  obtain rfl : k = p.scs.length := by omega
  refine aw_exit ?_
  refine aw_seq ?_
  rw [outK_all]
  refine aw_sub (sub_freeze (j := 6) (n := p.scs.length) (cap := cap) (sz := 4) (es := (outP p F).scs.map scC) (rest := List.replicate ((cap - p.scs.length) * 4) .any) (sl' := [(2, .ptr 0 0), (4, .ptr 1 0)]) rfl (by simp [outP]) (fun q hq => by obtain ⟨x, _, rfl⟩ := List.mem_map.1 hq; rfl) (fun q hq => ?_) (FzH.cells (by decide) (FzL.cons (Fz.same _) (FzL.cons (Fz.same _) (FzL.cons (Fz.same _) (FzL.cons Fz.frozen FzL.nil)))) (FzH.same _ (by decide) (FzH.same _ (by decide) (FzH.same _ (by decide) (FzH.same _ (by decide) (FzH.same _ (by decide) (FzH.dead _ rfl (FzH.nil _))))))))) ?_
  ·simp only [List.mem_cons, List.not_mem_nil, or_false] at hq; rcases hq with rfl | rfl <;> exact Fz.same _
  refine nz ?_
  refine wz 2 ?_
  exact retQ_res (vs := [.agg _]) rfl rfl ⟨resVar_cell rfl rfl ty26.h rfl, trivial⟩ jz
end Go.Proofs.YtfmpabgblbbcdaaGreatDoor
namespace Go.Proofs.YtfmpabgblbbcdaaGreatDoor
open Go Go.Ab Ni St
open Hd hiding sz
instance en38 : EnT Tryz.prog 38 := ⟨Ent.of Tryz.func38 (by kernel_rfl) rfl⟩
instance en39 : EnT Tryz.prog 39 := ⟨Ent.of Tryz.func39 (by kernel_rfl) rfl⟩
theorem leaves_mem {p : Ply} {l : List Int} (h : leaves p = some l) : l.length ≤ p.figs.length := rising_len (leaves_is h).1
theorem rrise_pure (p : Ply) (l : List Int) (hl : l.length ≤ 1000000) (hf : p.figs.length ≤ 1000000) : APure Tryz.prog 38 [plA p, ints l] (B (rising l p.figs.length)) := by
  refine ap Tryz.func38 (fun e0 he0 => ?_)
  refine wz 6 ?_
  refine kz az (rrising_pure l p.figs.length hl hf) ?_
  refine wz 1 ?_
  exact rz rfl jz
theorem plays_n {p : Ply} (hh : p.hts.length ≤ 1000000) (hf : p.figs.length ≤ 1000000) (hs : p.scs.length ≤ 1000000) (hx : ∀ x ∈ p.scs, x.moved.length ≤ 1000000 ∧ x.rest.length ≤ 1000000 ∧ x.taken.length ≤ 1000000) (hr : plOK p = true) {n : Nat} (h : failsAt p = some n) : APure Tryz.prog 39 [plA p] (.tup [B false, B true]) := by
  refine ap Tryz.func39 (fun e0 he0 => ?_)
  refine wz 4 ?_
  refine kz az (xfails_ok hh hf hs hx hr h) ?_
  refine wz 17 ?_
  exact retQ_pure (v := .tup [.raw _, .raw _]) rfl rfl jz
theorem plays_y {p : Ply} (hh : p.hts.length ≤ 1000000) (hf : p.figs.length ≤ 1000000) (hs : p.scs.length ≤ 1000000) (hx : ∀ x ∈ p.scs, x.moved.length ≤ 1000000 ∧ x.rest.length ≤ 1000000 ∧ x.taken.length ≤ 1000000) (hr : plOK p = true) (h : failsAt p = none) : APure Tryz.prog 39 [plA p] (.tup [B true, B true]) := by
  refine ap Tryz.func39 (fun e0 he0 => ?_)
  refine wz 4 ?_
  refine kz az (xfails_no hh hf hs hx hr h) ?_
  refine wz 17 ?_
  exact retQ_pure (v := .tup [.raw _, .raw _]) rfl rfl jz
theorem ok_lens {p : Ply} (h : plOK p = true) : p.hts.length ≤ 1000000 ∧ p.figs.length ≤ 1000000 ∧ p.scs.length ≤ 1000000 ∧ ∀ x ∈ p.scs, x.moved.length ≤ 1000000 ∧ x.rest.length ≤ 1000000 ∧ x.taken.length ≤ 1000000 := by
  have B := plOK_B h
  have := B.nh; have := B.nf; have := B.ns
  refine ⟨by omega, by omega, by omega, fun x hx => ?_⟩
  have X := B.sc x hx
  have h1 := rising_len X.mv; have h2 := rising_len X.rs; have h3 := rising_len X.tk
  omega
theorem plays_pure {p : Ply} (hr : plOK p = true) : APure Tryz.prog 39 [plA p] (.tup [B (plays p), B true]) := by
  have L := ok_lens hr
  unfold plays
  cases h : failsAt p with
  | none => exact plays_y L.1 L.2.1 L.2.2.1 L.2.2.2 hr h
  | some n => exact plays_n L.1 L.2.1 L.2.2.1 L.2.2.2 hr h
end Go.Proofs.YtfmpabgblbbcdaaGreatDoor
namespace Go.Proofs.YtfmpabgblbbcdaaGreatDoor
open Go Go.Ab Ni St
open Hd hiding sz
theorem lv_bd {p : Ply} (hr : plOK p = true) {l : List Int} (h : leaves p = some l) : l.length ≤ 1000000 := by have := (plOK_B hr).nf; have := leaves_mem h; omega
end Go.Proofs.YtfmpabgblbbcdaaGreatDoor
namespace Go.Proofs.YtfmpabgblbbcdaaGreatDoor
open Go Go.Ab Ni St
open Hd hiding sz
theorem aw_join {c : Ctx} {Q : AExit → St → Prop} {s : St} (V : List (Nat × AV)) (ks : List Nat) {a b : Code} (ha : AWP c a (AExit.then (fun s' => LessS s'.sl (V ++ keepS s.sl ks) ∧ s'.H = s.H ∧ s'.df = s.df) Q) s)
    (hb : AWP c b Q ⟨V ++ keepS s.sl ks, s.H, s.df⟩) : AWP c a (AExit.then (AWP c b Q) Q) s := by
  refine AWP.mono ha fun ax s' h => ?_
  cases ax with
  | normal =>
    obtain ⟨h1, h2, h3⟩ := h
    have h4 := aw_less (s := s') (Q := Q) (code := b) _ h1.all (by rw [h2, h3]; exact hb)
    exact h4
  | _ => exact h
theorem plays_b {p : Ply} (hr : plOK p = true) {b : Bool} (h : plays p = b) : APure Tryz.prog 39 [plA p] (.tup [B b, B true]) := by have q := plays_pure hr; rw [h] at q; exact q
theorem plays_lv {p : Ply} (hr : plOK p = true) {l : List Int} (h : leaves p = some l) : APure Tryz.prog 39 [plA p] (.tup [B (decide ((l.length : Int) = 0)), B true]) :=
  plays_b hr ((leaves_nil h).trans (by rw [decide_eq_decide]; omega))
theorem rise_b {p : Ply} (hr : plOK p = true) {l : List Int} {b : Bool} (hl : l.length ≤ 1000000) (h : rising l p.figs.length = b) : APure Tryz.prog 38 [plA p, ints l] (B b) := by
  have q := rrise_pure p l hl (by have := (plOK_B hr).nf; omega); rw [h] at q; exact q
theorem low_pl {p : Ply} (hr : plOK p = true) (n : Nat) : APure Tryz.prog 22 [plA (lowP p n)] (B (plOK (lowP p n))) := by
  have L := ok_lens hr
  exact rplay_pure (lowP p n) (by show (p.hts.map _).length ≤ 1000000; rw [List.length_map]; exact L.1) L.2.1 L.2.2.1 L.2.2.2
theorem low_zd {p : Ply} {l : List Int} {m : Nat} (hl : leaves p = some l) (h : lower p = some m) : decide ((l.length : Int) = 0) = decide ((m : Int) = 0) := by
  have h1 := leaves_nil hl
  have h2 := lower_zero (p := p)
  rw [h2, h] at h1
  have h3 : decide (l.length = 0) = decide (m = 0) := by rw [← h1, decide_eq_decide]; simp
  rw [decide_eq_decide] at h3 ⊢; omega
theorem low_zn {p : Ply} {l : List Int} (hl : leaves p = some l) (h : lower p = none) : decide ((l.length : Int) = 0) = false := by
  have h1 := leaves_nil hl
  have h2 := lower_zero (p := p)
  rw [h2, h] at h1
  have h3 : decide (l.length = 0) = false := by rw [← h1]; simp
  rw [decide_eq_false_iff_not] at h3 ⊢; omega
theorem law7_a {p : Ply} {l : List Int} {d : Int} (hs : shB p = false) : APure Tryz.prog 7 [plA p, ints l, I d] (B true) := by
  refine ap Tryz.func7 (fun e0 he0 => ?_)
  refine wz 3 ?_
  refine kz az (short_f hs) ?_
  refine wz 26 ?_
  refine kz az (known_pure) ?_
  refine wz 1 ?_
  exact rz rfl jz
theorem law7_b {p : Ply} {l : List Int} {d : Int} (hs : shB p = true) (hr : plOK p = false) : APure Tryz.prog 7 [plA p, ints l, I d] (B true) := by
  refine ap Tryz.func7 (fun e0 he0 => ?_)
  refine wz 3 ?_
  refine kz az (short_t hs) ?_
  refine wz 3 ?_
  refine ky az (pl_f hs hr) ?_
  refine wz 22 ?_
  refine kz az (known_pure) ?_
  refine wz 1 ?_
  exact rz rfl jz
theorem law7_c {p : Ply} {l : List Int} {d : Int} (hs : shB p = true) (hr : plOK p = true) (h8 : ¬ l.length ≤ 8) : APure Tryz.prog 7 [plA p, ints l, I d] (B true) := by
  refine ap Tryz.func7 (fun e0 he0 => ?_)
  refine wz 3 ?_
  refine kz az (short_t hs) ?_
  refine wz 3 ?_
  refine ky az (pl_t hs hr) ?_
  refine wz 8 ?_
  refine sz 35 (fun g1_13 g1_13' => ?_) (fun g1_13 g1_13' => ?_)
  ·refine wz 14 ?_
   refine kz az (known_pure) ?_
   refine wz 1 ?_
   exact rz rfl jz
  exfalso
  omega
theorem law7_d {p : Ply} {l : List Int} {d : Int} (hs : shB p = true) (hr : plOK p = true) (h8 : l.length ≤ 8) (hv : rising l p.figs.length = false) : APure Tryz.prog 7 [plA p, ints l, I d] (B true) := by
  refine ap Tryz.func7 (fun e0 he0 => ?_)
  refine wz 3 ?_
  refine kz az (short_t hs) ?_
  refine wz 3 ?_
  refine ky az (pl_t hs hr) ?_
  refine wz 8 ?_
  refine sz 35 (fun g1_13 g1_13' => ?_) (fun g1_13 g1_13' => ?_)
  ·exfalso
   omega
  refine wz 2 ?_
  refine ky az (rise_b hr (by omega) hv) ?_
  refine wz 11 ?_
  refine kz az (known_pure) ?_
  refine wz 1 ?_
  exact rz rfl jz
theorem law7_e {p : Ply} {l : List Int} {d : Int} (hs : shB p = true) (hr : plOK p = true) (h8 : l.length ≤ 8) (hv : rising l p.figs.length = true) (hd : d < 0) : APure Tryz.prog 7 [plA p, ints l, I d] (B true) := by
  refine ap Tryz.func7 (fun e0 he0 => ?_)
  refine wz 3 ?_
  refine kz az (short_t hs) ?_
  refine wz 3 ?_
  refine ky az (pl_t hs hr) ?_
  refine wz 8 ?_
  refine sz 35 (fun g1_13 g1_13' => ?_) (fun g1_13 g1_13' => ?_)
  ·exfalso
   omega
  refine wz 2 ?_
  refine ky az (rise_b hr (by omega) hv) ?_
  refine wz 7 ?_
  refine sz 45 (fun g1_23 g1_23' => ?_) (fun g1_23 g1_23' => ?_)
  ·refine wz 4 ?_
   refine kz az (known_pure) ?_
   refine wz 1 ?_
   exact rz rfl jz
  exfalso
  omega
theorem law7_f {p : Ply} {l : List Int} {d : Int} (hs : shB p = true) (hr : plOK p = true) (h8 : l.length ≤ 8) (hv : rising l p.figs.length = true) (hd : 9 < d) : APure Tryz.prog 7 [plA p, ints l, I d] (B true) := by
  refine ap Tryz.func7 (fun e0 he0 => ?_)
  refine wz 3 ?_
  refine kz az (short_t hs) ?_
  refine wz 3 ?_
  refine ky az (pl_t hs hr) ?_
  refine wz 8 ?_
  refine sz 35 (fun g1_13 g1_13' => ?_) (fun g1_13 g1_13' => ?_)
  ·exfalso
   omega
  refine wz 2 ?_
  refine ky az (rise_b hr (by omega) hv) ?_
  refine wz 7 ?_
  refine sz 45 (fun g1_23 g1_23' => ?_) (fun g1_23 g1_23' => ?_)
  ·exfalso
   omega
  refine wz 3 ?_
  refine iz (fun c_48 c_48' => ?_) (fun c_48 c_48' => ?_)
  ·refine wz 0 ?_
   refine kz az (known_pure) ?_
   refine wz 1 ?_
   exact rz rfl jz
  exfalso
  omega
theorem law7_g {p : Ply} {l : List Int} {d : Nat} (hs : shB p = true) (hr : plOK p = true) (h8 : l.length ≤ 8) (hv : rising l p.figs.length = true) (hd : d ≤ 9) {lv : List Int} (hv2 : leaves p = some lv) {m : Nat} (h : lower p = some m) : APure Tryz.prog 7 [plA p, ints l, I d] (B true) := by
  refine ap Tryz.func7 (fun e0 he0 => ?_)
  refine wz 3 ?_
  refine kz az (short_t hs) ?_
  refine wz 3 ?_
  refine ky az (pl_t hs hr) ?_
  refine wz 8 ?_
  refine sz 35 (fun g1_13 g1_13' => ?_) (fun g1_13 g1_13' => ?_)
  ·exfalso
   omega
  refine wz 2 ?_
  refine ky az (rise_b hr (by omega) hv) ?_
  refine wz 7 ?_
  refine sz 45 (fun g1_23 g1_23' => ?_) (fun g1_23 g1_23' => ?_)
  ·exfalso
   omega
  refine wz 3 ?_
  refine iz (fun c_48 c_48' => ?_) (fun c_48 c_48' => ?_)
  ·exfalso
   omega
  refine aw_skip ?_
  refine aw_seq ?_
  have hm9 := (lower_is h).1
  refine wz 1 ?_
  refine kz az (xleaves_ok (shB_len hs).1 (shB_len hs).2.1 (shB_len hs).2.2.1 (shB_len hs).2.2.2 hr hv2) ?_
  refine wz 6 ?_
  refine kz az (xlower_ok (shB_len hs).1 (shB_len hs).2.1 (shB_len hs).2.2.1 (shB_len hs).2.2.2 hr h) ?_
  refine wz 6 ?_
  refine kz az (plays_lv hr hv2) ?_
  refine wz 7 ?_
  refine kz az (rwithout_pure (plOK_B hr) (F := l) (by omega)) ?_
  refine kz az (plays_pure (out_OK hr l)) ?_
  refine wz 26 ?_
  refine ky az (rise_b hr (lv_bd hr hv2) (leaves_is hv2).1) ?_
  refine wz 10 ?_
  refine sz 103 (fun g7_31 g7_31' => ?_) (fun g7_31 g7_31' => ?_)
  ·exfalso
   simp at g7_31
  refine wz 4 ?_
  refine sz 107 (fun g7_35 g7_35' => ?_) (fun g7_35 g7_35' => ?_)
  ·exfalso
   omega
  refine wz 4 ?_
  refine sz 111 (fun g7_39 g7_39' => ?_) (fun g7_39 g7_39' => ?_)
  ·exfalso
   omega
  refine wz 9 ?_
  refine iz (fun c_120 c_120' => ?_) (fun c_120 c_120' => ?_)
  ·exfalso
   rw [low_zd hv2 h] at c_120
   simp at c_120
  refine aw_skip ?_
  refine aw_seq ?_
  refine aw_seq ?_
  refine aw_join [(140, B false)] [1, 2, 3, 7, 9, 10] ?_ ?_
  ·refine wz 2 ?_
   refine sz 122 (fun g9_1 g9_1' => ?_) (fun g9_1 g9_1' => ?_)
   ·have hmin := (leaves_is hv2).2.2 l hv (show okF p l = true from by first | exact g9_1 | simpa using g9_1)
    refine wz 6 ?_
    refine sz 128 (fun g9_7 g9_7' => ?_) (fun g9_7 g9_7' => ?_)
    ·exfalso
     rcases hmin with h | h <;> omega
    refine wz 6 ?_
    refine sz 134 (fun g9_13 g9_13' => ?_) (fun g9_13 g9_13' => ?_)
    ·have hbf : befB l lv = false := by rcases hmin with h9 | h9; omega; exact h9.2
     refine wz 2 ?_
     refine ky az (bef_f (by omega) (lv_bd hr hv2) hbf) ?_
     refine wz 3 ?_
     exact ⟨⟨jz, jz, jz, jz, jz, jz, jz, trivial⟩, rfl, rfl⟩
    refine wz 6 ?_
    exact ⟨⟨jz, jz, jz, jz, jz, jz, jz, trivial⟩, rfl, rfl⟩
   refine wz 18 ?_
   exact ⟨⟨jz, jz, jz, jz, jz, jz, jz, trivial⟩, rfl, rfl⟩
  ·refine nz ?_
   refine wz 3 ?_
   refine kz az (rwithout_pure (plOK_B hr) (F := lv) (lv_bd hr hv2)) ?_
   refine kz az (plays_b (out_OK hr lv) (leaves_is hv2).2.1) ?_
   refine wz 17 ?_
   refine kz az (rlow_pure (plOK_B hr) (lower_is h).1) ?_
   refine wz 3 ?_
   refine kz az (low_pl hr m) ?_
   refine sq_nil ?_
   refine aw_join [] [1, 2, 3, 7, 9, 10] ?_ ?_
   ·refine iz (fun c_160 c_160' => ?_) (fun c_160 c_160' => ?_)
    ·refine wz 1 ?_
     refine kz az (plays_b (by simpa using c_160) (lower_is h).2.1) ?_
     refine wz 12 ?_
     exact ⟨⟨jz, jz, jz, jz, jz, jz, trivial⟩, rfl, rfl⟩
    refine wz 0 ?_
    exact ⟨⟨jz, jz, jz, jz, jz, jz, trivial⟩, rfl, rfl⟩
   ·refine nz ?_
    refine wz 2 ?_
    refine kz az (rlow_pure (plOK_B hr) (n := d) (by omega)) ?_
    refine wz 3 ?_
    refine kz az (low_pl hr d) ?_
    refine wz 2 ?_
    refine sz 178 (fun g21_3 g21_3' => ?_) (fun g21_3 g21_3' => ?_)
    ·refine wz 9 ?_
     refine kz az (known_pure) ?_
     refine wz 1 ?_
     exact rz rfl jz
    refine wz 8 ?_
    refine iz (fun c_186 c_186' => ?_) (fun c_186 c_186' => ?_)
    ·refine wz 0 ?_
     refine kz az (known_pure) ?_
     refine wz 1 ?_
     exact rz rfl jz
    refine wz 1 ?_
    refine kz az (plays_b (by simpa using g21_3) (low_less (by omega) (fun q e => by rw [h] at e; cases e; omega))) ?_
    refine wz 11 ?_
    refine ky az (known_pure) ?_
    refine wz 2 ?_
    exact rz rfl jz
theorem law7_h {p : Ply} {l : List Int} {d : Nat} (hs : shB p = true) (hr : plOK p = true) (h8 : l.length ≤ 8) (hv : rising l p.figs.length = true) (hd : d ≤ 9) {lv : List Int} (hv2 : leaves p = some lv) (h : lower p = none) : APure Tryz.prog 7 [plA p, ints l, I d] (B true) := by
  refine ap Tryz.func7 (fun e0 he0 => ?_)
  refine wz 3 ?_
  refine kz az (short_t hs) ?_
  refine wz 3 ?_
  refine ky az (pl_t hs hr) ?_
  refine wz 8 ?_
  refine sz 35 (fun g1_13 g1_13' => ?_) (fun g1_13 g1_13' => ?_)
  ·exfalso
   omega
  refine wz 2 ?_
  refine ky az (rise_b hr (by omega) hv) ?_
  refine wz 7 ?_
  refine sz 45 (fun g1_23 g1_23' => ?_) (fun g1_23 g1_23' => ?_)
  ·exfalso
   omega
  refine wz 3 ?_
  refine iz (fun c_48 c_48' => ?_) (fun c_48 c_48' => ?_)
  ·exfalso
   omega
  refine wz 1 ?_
  refine kz az (xleaves_ok (shB_len hs).1 (shB_len hs).2.1 (shB_len hs).2.2.1 (shB_len hs).2.2.2 hr hv2) ?_
  refine wz 6 ?_
  refine kz az (xlower_no (shB_len hs).1 (shB_len hs).2.1 (shB_len hs).2.2.1 (shB_len hs).2.2.2 hr h) ?_
  refine wz 6 ?_
  refine kz az (plays_lv hr hv2) ?_
  refine wz 7 ?_
  refine kz az (rwithout_pure (plOK_B hr) (F := l) (by omega)) ?_
  refine kz az (plays_pure (out_OK hr l)) ?_
  refine wz 26 ?_
  refine ky az (rise_b hr (lv_bd hr hv2) (leaves_is hv2).1) ?_
  refine wz 10 ?_
  refine sz 103 (fun g7_31 g7_31' => ?_) (fun g7_31 g7_31' => ?_)
  ·exfalso
   simp at g7_31
  refine wz 17 ?_
  refine iz (fun c_120 c_120' => ?_) (fun c_120 c_120' => ?_)
  ·exfalso
   rw [low_zn hv2 h] at c_120
   simp at c_120
  refine aw_skip ?_
  refine aw_seq ?_
  refine aw_seq ?_
  refine aw_join [(140, B false)] [1, 2, 3, 7, 9, 10] ?_ ?_
  ·refine wz 2 ?_
   refine sz 122 (fun g9_1 g9_1' => ?_) (fun g9_1 g9_1' => ?_)
   ·have hmin := (leaves_is hv2).2.2 l hv (show okF p l = true from by first | exact g9_1 | simpa using g9_1)
    refine wz 6 ?_
    refine sz 128 (fun g9_7 g9_7' => ?_) (fun g9_7 g9_7' => ?_)
    ·exfalso
     rcases hmin with h | h <;> omega
    refine wz 6 ?_
    refine sz 134 (fun g9_13 g9_13' => ?_) (fun g9_13 g9_13' => ?_)
    ·have hbf : befB l lv = false := by rcases hmin with h9 | h9; omega; exact h9.2
     refine wz 2 ?_
     refine ky az (bef_f (by omega) (lv_bd hr hv2) hbf) ?_
     refine wz 3 ?_
     exact ⟨⟨jz, jz, jz, jz, jz, jz, jz, trivial⟩, rfl, rfl⟩
    refine wz 6 ?_
    exact ⟨⟨jz, jz, jz, jz, jz, jz, jz, trivial⟩, rfl, rfl⟩
   refine wz 18 ?_
   exact ⟨⟨jz, jz, jz, jz, jz, jz, jz, trivial⟩, rfl, rfl⟩
  ·refine nz ?_
   refine wz 3 ?_
   refine kz az (rwithout_pure (plOK_B hr) (F := lv) (lv_bd hr hv2)) ?_
   refine kz az (plays_b (out_OK hr lv) (leaves_is hv2).2.1) ?_
   refine wz 17 ?_
   refine kz az (rlow_pure (plOK_B hr) (n := d) (by omega)) ?_
   refine wz 3 ?_
   refine kz az (low_pl hr d) ?_
   refine wz 2 ?_
   refine sz 178 (fun g21_3 g21_3' => ?_) (fun g21_3 g21_3' => ?_)
   ·refine wz 9 ?_
    refine kz az (known_pure) ?_
    refine wz 1 ?_
    exact rz rfl jz
   refine wz 10 ?_
   refine kz az (plays_b (by simpa using g21_3) (low_less (by omega) (fun q e => by rw [h] at e; cases e))) ?_
   refine wz 11 ?_
   refine ky az (known_pure) ?_
   refine wz 2 ?_
   exact rz rfl jz
/-- **StemLeft.** -/
theorem law7 (p : Ply) (l : List Int) (d : Int) (_ : -9223372036854775808 ≤ d) (_ : d ≤ 9223372036854775807) (hl63 : (l.length : Int) ≤ 9223372036854775807) : APure Tryz.prog 7 [plA p, ints l, I d] (B true) := by
  cases hs : shB p with
  | false => exact law7_a hs
  | true =>
    cases hr : plOK p with
    | false => exact law7_b hs hr
    | true =>
      by_cases h8 : l.length ≤ 8
      · cases hv : rising l p.figs.length with
        | false => exact law7_d hs hr h8 hv
        | true =>
          by_cases hd : d < 0
          · exact law7_e hs hr h8 hv hd
          · by_cases hd2 : 9 < d
            · exact law7_f hs hr h8 hv hd2
            · obtain ⟨n, rfl⟩ : ∃ n : Nat, d = (n : Int) := ⟨d.toNat, by omega⟩
              obtain ⟨lv, hv2⟩ := leaves_some (plOK_B hr)
              cases h : lower p with
              | some m => exact law7_g hs hr h8 hv (by omega) hv2 h
              | none => exact law7_h hs hr h8 hv (by omega) hv2 h
      · exact law7_c hs hr h8
end Go.Proofs.YtfmpabgblbbcdaaGreatDoor
