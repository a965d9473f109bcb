/-
  A part of the proof: conditions: none beyond each theorem's own.
-/
import Derived.Test.YtnbjaepkbabkhaaGreatShelfA
import Derived.Test.YtnbjaepkbabkhaaGreatSpecA
import Derived.Test.YtnbjaepkbabkhaaGreatLogicD
import Derived.Test.YtnbjaepkbabkhaaGreatProg
import Derived.KernelRfl
import Derived.Lib.LaidTab
import Derived.Lib.ItoaNum
import Derived.Test.YtnbjaepkbabkhaaGreatLogicE
import Derived.Test.YtnbjaepkbabkhaaGreatLogicC
import Derived.Test.YtnbjaepkbabkhaaGreatLogicB
set_option linter.all false
set_option maxRecDepth 100000
set_option maxHeartbeats 8000000
namespace Go.Proofs.YtnbjaepkbabkhaaGreat
open Go Go.Ab Br Hd
open Ni (hi inn lo)
instance tabs : Tabs where
  blk _ := False
  is _ := True
  mono _ _ := trivial
abbrev I (n : Int) : AV := .raw (.int .i64 n)
abbrev B (b : Bool) : AV := .raw (.bool b)
abbrev C (c : UInt8) : AV := .raw (.int .u8 c.toNat)
abbrev ints (l : List Int) : AV := .sl 1 (l.map fun x => [I x])
abbrev hds (l : List (List Int)) : AV := .sl 1 (l.map fun h => [ints h])
abbrev scbC (x : Scb) : List AV := [I x.part, I x.least, I x.most, B x.loose, B x.formula]
abbrev rulC (r : Rul) : List AV := [I r.frm, ints r.to]
abbrev scbs (l : List Scb) : AV := .sl 5 (l.map scbC)
abbrev ruls (l : List Rul) : AV := .sl 2 (l.map rulC)
abbrev stoC (s : Sto) : List AV := [I s.eps, scbs s.scs, ruls s.rules]
abbrev stoA (s : Sto) : AV := .agg (stoC s)
theorem wr {n : Int} (h1 : -9223372036854775808 ≤ n) (h2 : n ≤ 9223372036854775807) : IntKind.i64.wrap n = n := IntWalk.i64_in _ ⟨h1, h2⟩
@[simp] theorem inE_ints (n : Nat) (l : List Int) : AV.inE n (l.map fun x => [I x]) = true := inE_map fun x _ => by simp [AV.inL, AV.inB]
@[simp] theorem inE_strs (n : Nat) (l : List (List UInt8)) : AV.inE n (l.map fun x => [S x]) = true := inE_map fun x _ => by simp [AV.inL, AV.inB]
@[simp] theorem inE_hds (n : Nat) (l : List (List Int)) : AV.inE n (l.map fun x => [ints x]) = true := inE_map fun x _ => by simp [AV.inL, AV.inB]
@[simp] theorem inE_scbs (n : Nat) (l : List Scb) : AV.inE n (l.map scbC) = true := inE_map fun x _ => by simp [AV.inL, AV.inB]
@[simp] theorem inE_ruls (n : Nat) (l : List Rul) : AV.inE n (l.map rulC) = true := inE_map fun x _ => by simp [AV.inL, AV.inB]
@[simp] theorem pureE_ints (l : List Int) : AV.pureE (l.map fun x => [I x]) = true := pureE_map fun x _ => by simp [AV.pureL, AV.pureB]
@[simp] theorem pureE_strs (l : List (List UInt8)) : AV.pureE (l.map fun x => [S x]) = true := pureE_map fun x _ => by simp [AV.pureL, AV.pureB]
@[simp] theorem pureE_hds (l : List (List Int)) : AV.pureE (l.map fun x => [ints x]) = true := pureE_map fun x _ => by simp [AV.pureL, AV.pureB]
@[simp] theorem pureE_scbs (l : List Scb) : AV.pureE (l.map scbC) = true := pureE_map fun x _ => by simp [AV.pureL, AV.pureB]
@[simp] theorem pureE_ruls (l : List Rul) : AV.pureE (l.map rulC) = true := pureE_map fun x _ => by simp [AV.pureL, AV.pureB]
instance en107 : EnT Tryz.prog 107 := ⟨Ent.of Tryz.func107 (by kernel_rfl) rfl⟩
instance en110 : EnT Tryz.prog 110 := ⟨Ent.of Tryz.func110 (by kernel_rfl) rfl⟩
instance en116 : EnT Tryz.prog 116 := ⟨Ent.of Tryz.func116 (by kernel_rfl) rfl⟩
instance en126 : EnT Tryz.prog 126 := ⟨Ent.of Tryz.func126 (by kernel_rfl) rfl⟩
instance en127 : EnT Tryz.prog 127 := ⟨Ent.of Tryz.func127 (by kernel_rfl) rfl⟩
instance en128 : EnT Tryz.prog 128 := ⟨Ent.of Tryz.func128 (by kernel_rfl) rfl⟩
instance en129 : EnT Tryz.prog 129 := ⟨Ent.of Tryz.func129 (by kernel_rfl) rfl⟩
instance en130 : EnT Tryz.prog 130 := ⟨Ent.of Tryz.func130 (by kernel_rfl) rfl⟩
instance en131 : EnT Tryz.prog 131 := ⟨Ent.of Tryz.func131 (by kernel_rfl) rfl⟩
instance en135 : EnT Tryz.prog 135 := ⟨Ent.of Tryz.func135 (by kernel_rfl) rfl⟩
instance en151 : EnT Tryz.prog 151 := ⟨Ent.of Tryz.func151 (by kernel_rfl) rfl⟩
instance en164 : EnT Tryz.prog 164 := ⟨Ent.of Tryz.func164 (by kernel_rfl) rfl⟩
instance en165 : EnT Tryz.prog 165 := ⟨Ent.of Tryz.func165 (by kernel_rfl) rfl⟩
instance en33 : EnT Tryz.prog 33 := ⟨Ent.of Tryz.func33 (by kernel_rfl) rfl⟩
instance en45 : EnT Tryz.prog 45 := ⟨Ent.of Tryz.func45 (by kernel_rfl) rfl⟩
instance en57 : EnT Tryz.prog 57 := ⟨Ent.of Tryz.func57 (by kernel_rfl) rfl⟩
instance en67 : EnT Tryz.prog 67 := ⟨Ent.of Tryz.func67 (by kernel_rfl) rfl⟩
instance en88 : EnT Tryz.prog 88 := ⟨Ent.of Tryz.func88 (by kernel_rfl) rfl⟩
instance fo101_0 : FoF Tryz.prog 101 0 0 3 := ⟨by kernel_rfl⟩
instance fo101_1 : FoF Tryz.prog 101 1 1 3 := ⟨by kernel_rfl⟩
instance fo101_2 : FoF Tryz.prog 101 2 2 3 := ⟨by kernel_rfl⟩
instance fo104_0 : FoF Tryz.prog 104 0 0 3 := ⟨by kernel_rfl⟩
instance fo104_1 : FoF Tryz.prog 104 1 1 31 := ⟨by kernel_rfl⟩
instance fo25_0 : FoF Tryz.prog 25 0 0 3 := ⟨by kernel_rfl⟩
instance fo25_1 : FoF Tryz.prog 25 1 1 22 := ⟨by kernel_rfl⟩
instance fo25_2 : FoF Tryz.prog 25 2 2 23 := ⟨by kernel_rfl⟩
instance sl22 : SlE Tryz.prog 22 101 5 := ⟨by kernel_rfl⟩
instance sl23 : SlE Tryz.prog 23 104 2 := ⟨by kernel_rfl⟩
instance sl31 : SlE Tryz.prog 31 3 1 := ⟨by kernel_rfl⟩
instance ty101 : TyF Tryz.prog 101 true 5 := ⟨by kernel_rfl⟩
instance ty104 : TyF Tryz.prog 104 true 2 := ⟨by kernel_rfl⟩
instance ty22 : TyF Tryz.prog 22 false 1 := ⟨by kernel_rfl⟩
instance ty23 : TyF Tryz.prog 23 false 1 := ⟨by kernel_rfl⟩
instance ty3 : TyF Tryz.prog 3 false 1 := ⟨by kernel_rfl⟩
instance ty31 : TyF Tryz.prog 31 false 1 := ⟨by kernel_rfl⟩
theorem in_pure (n lo hi : Int) : APure Tryz.prog 126 [I n, I lo, I hi] (B (inn n lo hi)) := by
  refine ap Tryz.func126 (fun e0 he0 => ?_)
  refine wz 5 ?_
  refine sz 10 (fun g1 g1' => ?_) (fun g1 g1' => ?_)
  ·refine wz 5 ?_
   exact rz rfl (Less.eq (by simp [inn, *]))
  refine wz 5 ?_
  exact rz rfl (Less.eq (by simp [inn, *]))
theorem in3_pure (n lo hi : Int) : APure Tryz.prog 45 [I n, I lo, I hi] (B (inn n lo hi)) := by
  refine ap Tryz.func45 (fun e0 he0 => ?_)
  refine wz 5 ?_
  refine sz 10 (fun g1 g1' => ?_) (fun g1 g1' => ?_)
  ·refine wz 5 ?_
   exact rz rfl (Less.eq (by simp [inn, *]))
  refine wz 5 ?_
  exact rz rfl (Less.eq (by simp [inn, *]))
theorem inN_pure (n lo hi : Int) : APure Tryz.prog 88 [I n, I lo, I hi] (B (inn n lo hi)) := by
  refine ap Tryz.func88 (fun e0 he0 => ?_)
  refine wz 5 ?_
  refine sz 10 (fun g1 g1' => ?_) (fun g1 g1' => ?_)
  ·refine wz 5 ?_
   exact rz rfl (Less.eq (by simp [inn, *]))
  refine wz 5 ?_
  exact rz rfl (Less.eq (by simp [inn, *]))
theorem intF_ix {f : FuncId} {cap : List AV} {q : Int → Bool} (E : List (Int)) (hE : E.length ≤ 1000000) (en : Ent Tryz.prog f) (hc : ∀ i, (hi : i < E.length) → APure Tryz.prog f (I E[i] :: cap) (B (q E[i]))) (hp : AV.pureL cap = true) : APure Tryz.prog 135 [.sl 1 (E.map fun x => [I x]), .fn (.func f) [] cap] (I (ixQ q E)) := by
  refine ap Tryz.func135 (fun e0 he0 => ?_) (hp := by simp [AV.pureL, AV.pureB, hp])
  refine wz 4 ?_
  refine aw_loopk (ι := { k : Nat // k ≤ E.length ∧ ∀ i, (hi : i < E.length) → i < k → q E[i] = false }) [0, 1, 7] (fun i => [(8, I i.1)]) (fun H i => H) (fun i => E.length - i.1) (⟨0, Nat.zero_le _, by omega⟩) ⟨jz, jz, jz, jz, trivial⟩ rfl ?_
  rintro ⟨k, hk, hok⟩
  refine nz ?_
  refine wz 1 ?_
  refine iz (fun c_9 c_9' => ?_) (fun c_9 c_9' => ?_)
  ·have hkL : k < E.length := by omega
   refine wz 7 ?_
   refine sq_ev rfl (ev_call en jz (hc k hkL) ⟨jz, LessL.rfl' _⟩) ?_
   refine wz 0 ?_
   refine iz (fun c_16 c_16' => ?_) (fun c_16 c_16' => ?_)
   ·refine wz 2 ?_
    exact rz rfl (Less.eq (by rw [ixQ_at hkL (by simpa using c_16') hok]))
   refine wz 2 ?_
   exact ⟨⟨k + 1, by omega, fun i hi h => (by by_cases e : i = k; (subst e; simpa using c_16'); exact hok i hi (by omega))⟩, by simp only; omega, Sub.slots ⟨jz, jz, jz, jz, trivial⟩⟩
  refine wz 1 ?_
  exact rz rfl (Less.eq (by rw [ixQ_no fun i hi => hok i hi (by omega)]))
theorem intF_any {f : FuncId} {cap : List AV} {q : Int → Bool} (E : List (Int)) (hE : E.length ≤ 1000000) (en : Ent Tryz.prog f) (hc : ∀ i, (hi : i < E.length) → APure Tryz.prog f (I E[i] :: cap) (B (q E[i]))) (hp : AV.pureL cap = true) : APure Tryz.prog 110 [.sl 1 (E.map fun x => [I x]), .fn (.func f) [] cap] (B (E.any q)) := by
  refine ap Tryz.func110 (fun e0 he0 => ?_) (hp := by simp [AV.pureL, AV.pureB, hp])
  refine wz 3 ?_
  refine kz az (intF_ix E hE en hc hp) ?_
  refine wz 2 ?_
  exact rz rfl (Less.eq (by rw [← ixQ_any]))
theorem scbF_ix {f : FuncId} {cap : List AV} {q : Scb → Bool} (E : List (Scb)) (hE : E.length ≤ 1000000) (en : Ent Tryz.prog f) (hc : ∀ i, (hi : i < E.length) → APure Tryz.prog f (.agg (scbC E[i]) :: cap) (B (q E[i]))) (hp : AV.pureL cap = true) : APure Tryz.prog 164 [.sl 5 (E.map scbC), .fn (.func f) [] cap] (I (ixQ q E)) := by
  refine ap Tryz.func164 (fun e0 he0 => ?_) (hp := by simp [AV.pureL, AV.pureB, hp])
  refine wz 4 ?_
  refine aw_loopk (ι := { k : Nat // k ≤ E.length ∧ ∀ i, (hi : i < E.length) → i < k → q E[i] = false }) [0, 1, 7] (fun i => [(8, I i.1)]) (fun H i => H) (fun i => E.length - i.1) (⟨0, Nat.zero_le _, by omega⟩) ⟨jz, jz, jz, jz, trivial⟩ rfl ?_
  rintro ⟨k, hk, hok⟩
  refine nz ?_
  refine wz 1 ?_
  refine iz (fun c_9 c_9' => ?_) (fun c_9 c_9' => ?_)
  ·have hkL : k < E.length := by omega
   refine wz 7 ?_
   refine sq_ev rfl (ev_call en jz (hc k hkL) ⟨jz, LessL.rfl' _⟩) ?_
   refine wz 0 ?_
   refine iz (fun c_16 c_16' => ?_) (fun c_16 c_16' => ?_)
   ·refine wz 2 ?_
    exact rz rfl (Less.eq (by rw [ixQ_at hkL (by simpa using c_16') hok]))
   refine wz 2 ?_
   exact ⟨⟨k + 1, by omega, fun i hi h => (by by_cases e : i = k; (subst e; simpa using c_16'); exact hok i hi (by omega))⟩, by simp only; omega, Sub.slots ⟨jz, jz, jz, jz, trivial⟩⟩
  refine wz 1 ?_
  exact rz rfl (Less.eq (by rw [ixQ_no fun i hi => hok i hi (by omega)]))
theorem scbF_any {f : FuncId} {cap : List AV} {q : Scb → Bool} (E : List (Scb)) (hE : E.length ≤ 1000000) (en : Ent Tryz.prog f) (hc : ∀ i, (hi : i < E.length) → APure Tryz.prog f (.agg (scbC E[i]) :: cap) (B (q E[i]))) (hp : AV.pureL cap = true) : APure Tryz.prog 130 [.sl 5 (E.map scbC), .fn (.func f) [] cap] (B (E.any q)) := by
  refine ap Tryz.func130 (fun e0 he0 => ?_) (hp := by simp [AV.pureL, AV.pureB, hp])
  refine wz 3 ?_
  refine kz az (scbF_ix E hE en hc hp) ?_
  refine wz 2 ?_
  exact rz rfl (Less.eq (by rw [← ixQ_any]))
theorem rulF_ix {f : FuncId} {cap : List AV} {q : Rul → Bool} (E : List (Rul)) (hE : E.length ≤ 1000000) (en : Ent Tryz.prog f) (hc : ∀ i, (hi : i < E.length) → APure Tryz.prog f (.agg (rulC E[i]) :: cap) (B (q E[i]))) (hp : AV.pureL cap = true) : APure Tryz.prog 165 [.sl 2 (E.map rulC), .fn (.func f) [] cap] (I (ixQ q E)) := by
  refine ap Tryz.func165 (fun e0 he0 => ?_) (hp := by simp [AV.pureL, AV.pureB, hp])
  refine wz 4 ?_
  refine aw_loopk (ι := { k : Nat // k ≤ E.length ∧ ∀ i, (hi : i < E.length) → i < k → q E[i] = false }) [0, 1, 7] (fun i => [(8, I i.1)]) (fun H i => H) (fun i => E.length - i.1) (⟨0, Nat.zero_le _, by omega⟩) ⟨jz, jz, jz, jz, trivial⟩ rfl ?_
  rintro ⟨k, hk, hok⟩
  refine nz ?_
  refine wz 1 ?_
  refine iz (fun c_9 c_9' => ?_) (fun c_9 c_9' => ?_)
  ·have hkL : k < E.length := by omega
   refine wz 7 ?_
   refine sq_ev rfl (ev_call en jz (hc k hkL) ⟨jz, LessL.rfl' _⟩) ?_
   refine wz 0 ?_
   refine iz (fun c_16 c_16' => ?_) (fun c_16 c_16' => ?_)
   ·refine wz 2 ?_
    exact rz rfl (Less.eq (by rw [ixQ_at hkL (by simpa using c_16') hok]))
   refine wz 2 ?_
   exact ⟨⟨k + 1, by omega, fun i hi h => (by by_cases e : i = k; (subst e; simpa using c_16'); exact hok i hi (by omega))⟩, by simp only; omega, Sub.slots ⟨jz, jz, jz, jz, trivial⟩⟩
  refine wz 1 ?_
  exact rz rfl (Less.eq (by rw [ixQ_no fun i hi => hok i hi (by omega)]))
theorem rulF_any {f : FuncId} {cap : List AV} {q : Rul → Bool} (E : List (Rul)) (hE : E.length ≤ 1000000) (en : Ent Tryz.prog f) (hc : ∀ i, (hi : i < E.length) → APure Tryz.prog f (.agg (rulC E[i]) :: cap) (B (q E[i]))) (hp : AV.pureL cap = true) : APure Tryz.prog 131 [.sl 2 (E.map rulC), .fn (.func f) [] cap] (B (E.any q)) := by
  refine ap Tryz.func131 (fun e0 he0 => ?_) (hp := by simp [AV.pureL, AV.pureB, hp])
  refine wz 3 ?_
  refine kz az (rulF_ix E hE en hc hp) ?_
  refine wz 2 ?_
  exact rz rfl (Less.eq (by rw [← ixQ_any]))
theorem par1_pure (x : Scb) : APure Tryz.prog 127 [.agg (scbC x)] (B (!scbOK x)) := by
  refine ap Tryz.func127 (fun e0 he0 => ?_)
  refine wz 4 ?_
  refine kz az (in_pure _ _ _) ?_
  refine wz 2 ?_
  refine sz 7 (fun g1_4 g1_4' => ?_) (fun g1_4 g1_4' => ?_)
  ·refine wz 14 ?_
   exact rz rfl (Less.eq (congrArg B (by unfold scbOK; simp [*])))
  refine wz 2 ?_
  refine ky az (in_pure _ _ _) ?_
  refine wz 3 ?_
  refine sz 13 (fun g1_10 g1_10' => ?_) (fun g1_10 g1_10' => ?_)
  ·refine wz 8 ?_
   exact rz rfl (Less.eq (congrArg B (by unfold scbOK; simp [*])))
  refine wz 4 ?_
  refine ky az (in_pure _ _ _) ?_
  refine wz 3 ?_
  exact rz rfl (Less.eq (congrArg B (by unfold scbOK; simp [*])))
theorem par21_pure (s : Sto) (r : Rul) (n : Int) (he : 0 ≤ s.eps ∧ s.eps ≤ 6) (hs : s.scs.length ≤ 8) (hf : 0 ≤ r.frm ∧ r.frm ≤ 6) : APure Tryz.prog 129 [I n, .iptr (rulC r), .iptr (stoC s)] (B (!inn n (r.frm + 1) (s.eps + s.scs.length - 1))) := by
  refine ap Tryz.func129 (fun e0 he0 => ?_)
  refine wz 12 ?_
  refine kz az (in_pure _ _ _) ?_
  refine wz 2 ?_
  exact rz rfl jz
theorem par2_pure (s : Sto) (r : Rul) (he : 1 ≤ s.eps ∧ s.eps ≤ 6) (hs : s.scs.length ≤ 8) : APure Tryz.prog 128 [.agg (rulC r), .iptr (stoC s)] (B (!rulOK s r)) := by
  refine ap Tryz.func128 (fun e0 he0 => ?_)
  refine vz 2 ?_
  refine sq_nil ?_
  refine aw_seq ?_
  refine aw_sub (sub_iptrK [1, 3] 2 (j := 0) (l := rulC r) rfl rfl) ?_
  refine wz 5 ?_
  refine kz az (in_pure _ _ _) ?_
  refine wz 2 ?_
  refine sz 11 (fun g1_7 g1_7' => ?_) (fun g1_7 g1_7' => ?_)
  ·refine wz 13 ?_
   exact rz rfl (Less.eq (congrArg B (by unfold rulOK; rw [← any_not (fun n => inn n (r.frm + 1) (s.eps + s.scs.length - 1)) r.to]; simp [*])))
  have hfi : 0 ≤ r.frm ∧ r.frm ≤ s.eps - 1 := by have h := g1_7; unfold inn at h; simpa using h
  refine wz 3 ?_
  refine ky az (in_pure _ _ _) ?_
  refine wz 3 ?_
  refine sz 18 (fun g1_14 g1_14' => ?_) (fun g1_14 g1_14' => ?_)
  ·refine wz 6 ?_
   exact rz rfl (Less.eq (congrArg B (by unfold rulOK; rw [← any_not (fun n => inn n (r.frm + 1) (s.eps + s.scs.length - 1)) r.to]; simp [*])))
  have hr4 : r.to.length ≤ 4 := by have h := g1_14; unfold inn at h; simp at h; omega
  refine wz 3 ?_
  refine sq_yes rfl rfl (less_b g1_14) rfl (ev_call en110.h jz (intF_any (cap := [.iptr (rulC r), .iptr (stoC s)]) (q := fun n => !inn n (r.frm + 1) (s.eps + s.scs.length - 1)) r.to (by omega) en129.h (fun i hi => par21_pure s r _ (by omega) hs (by omega)) (by simp [AV.pureL, AV.pureB])) ⟨jz, jz, trivial⟩) ?_
  refine wz 2 ?_
  exact rz rfl (Less.eq (congrArg B (by unfold rulOK; rw [← any_not (fun n => inn n (r.frm + 1) (s.eps + s.scs.length - 1)) r.to]; simp [*])))
theorem parts_pure (s : Sto) (hs : s.scs.length ≤ 1000000) (hr : s.rules.length ≤ 1000000) : APure Tryz.prog 79 [stoA s] (B (parOK s)) := by
  refine ap Tryz.func79 (fun e0 he0 => ?_)
  refine wz 4 ?_
  refine kz az (in_pure _ _ _) ?_
  refine wz 2 ?_
  refine sz 9 (fun g1_4 g1_4' => ?_) (fun g1_4 g1_4' => ?_)
  ·refine wz 15 ?_
   exact rz rfl (Less.eq (congrArg B (by unfold parOK; rw [← any_not scbOK s.scs, ← any_not (rulOK s) s.rules]; simp [*])))
  have he6 : 1 ≤ s.eps ∧ s.eps ≤ 6 := by have h := g1_4; unfold inn at h; simpa using h
  refine wz 3 ?_
  refine ky az (in_pure _ _ _) ?_
  refine wz 3 ?_
  refine sz 16 (fun g1_11 g1_11' => ?_) (fun g1_11 g1_11' => ?_)
  ·refine wz 8 ?_
   exact rz rfl (Less.eq (congrArg B (by unfold parOK; rw [← any_not scbOK s.scs, ← any_not (rulOK s) s.rules]; simp [*])))
  have hs8 : s.scs.length ≤ 8 := by have h := g1_11; unfold inn at h; simp at h; omega
  refine wz 3 ?_
  refine ky az (in_pure _ _ _) ?_
  refine wz 2 ?_
  refine iz (fun c_22 c_22' => ?_) (fun c_22 c_22' => ?_)
  ·refine wz 1 ?_
   exact rz rfl (Less.eq (congrArg B (by unfold parOK; rw [← any_not scbOK s.scs, ← any_not (rulOK s) s.rules]; simp [*])))
  refine aw_skip ?_
  refine aw_seq ?_
  refine aw_sub (sub_iptrK [2] 1 (j := 0) (l := stoC s) rfl rfl) ?_
  refine wz 6 ?_
  refine sq_ev rfl (ev_call en130.h jz (scbF_any (q := fun x => !scbOK x) s.scs hs en127.h (fun i hi => par1_pure _) rfl) ⟨jz, jz, trivial⟩) ?_
  refine wz 2 ?_
  refine sz 29 (fun g5_5 g5_5' => ?_) (fun g5_5 g5_5' => ?_)
  ·refine wz 3 ?_
   refine sq_yes rfl rfl (less_b g5_5) rfl (ev_call en131.h jz (rulF_any (cap := [.iptr (stoC s)]) (q := fun r => !rulOK s r) s.rules hr en128.h (fun i hi => par2_pure s _ he6 hs8) (by simp [AV.pureL, AV.pureB])) ⟨jz, jz, trivial⟩) ?_
   refine wz 3 ?_
   exact rz rfl (Less.eq (congrArg B (by unfold parOK; rw [← any_not scbOK s.scs, ← any_not (rulOK s) s.rules]; simp [*])))
  refine wz 7 ?_
  exact rz rfl (Less.eq (congrArg B (by unfold parOK; rw [← any_not scbOK s.scs, ← any_not (rulOK s) s.rules]; simp [*])))
end Go.Proofs.YtnbjaepkbabkhaaGreat
namespace Go.Proofs.YtnbjaepkbabkhaaGreat
open Go Go.Ab Br Hd
open Ni (endT hi)
instance en132 : EnT Tryz.prog 132 := ⟨Ent.of Tryz.func132 (by kernel_rfl) rfl⟩
instance en80 : EnT Tryz.prog 80 := ⟨Ent.of Tryz.func80 (by kernel_rfl) rfl⟩
instance en81 : EnT Tryz.prog 81 := ⟨Ent.of Tryz.func81 (by kernel_rfl) rfl⟩
instance fo112_1 : FoF Tryz.prog 112 1 3 31 := ⟨by kernel_rfl⟩
instance sf31 : SlS Tryz.prog 31 3 1 8 := ⟨SlFact.of (by kernel_rfl)⟩
instance ty112 : TyF Tryz.prog 112 true 5 := ⟨by kernel_rfl⟩
instance ty25 : TyF Tryz.prog 25 true 3 := ⟨by kernel_rfl⟩
instance ud31 : UnD Tryz.prog 31 (.slice 3) := ⟨Tryz.underlying31⟩
theorem cap_mul1 {c : Nat} (hc : 0 < c) (a b : Nat) : cap c (cap c a * b) = cap c (a * b) := by
  rw [← cap_mul hc (cap c a) b, cap_cap (Nat.le_refl c), cap_mul hc]
theorem cap_prod {c : Nat} (hc : 0 < c) : ∀ l : List Nat, cap c (prodN (l.map (cap c))) = cap c (prodN l)
  | [] => rfl
  | a :: l => by rw [List.map_cons, prodN_cons, prodN_cons, ← cap_mul hc, cap_cap (Nat.le_refl c), cap_prod hc l, cap_mul hc]
theorem prodN_take {l : List Nat} {k : Nat} (h : k < l.length) : prodN (l.take (k + 1)) = prodN (l.take k) * l[k] := by
  rw [List.take_succ_eq_append_getElem h, prodN_app]; simp [prodN]
theorem cap_min (c a b : Nat) : (min (c : Int) ((a : Int) * (b : Int)) : Int) = ((cap c (a * b) : Nat) : Int) := by
  unfold cap; rw [← Int.natCast_mul]; omega
abbrev natV (l : List Nat) : AV := .sl 1 (l.map fun (a : Nat) => [I (a : Int)])
abbrev tolC (s : Sto) (mv lv : List Nat) : List AV := [I s.eps, scbs s.scs, ruls s.rules, natV mv, natV lv]
abbrev tolA (s : Sto) (mv lv : List Nat) : AV := .agg (tolC s mv lv)
@[simp] theorem inE_nats (n : Nat) (l : List Nat) : AV.inE n (l.map fun (a : Nat) => [I (a : Int)]) = true := inE_map fun x _ => by simp [AV.inL, AV.inB]
@[simp] theorem pureE_nats (l : List Nat) : AV.pureE (l.map fun (a : Nat) => [I (a : Int)]) = true := pureE_map fun x _ => by simp [AV.pureL, AV.pureB]
def endT (mv : List Nat) (r : Rul) : Bool := !(r.to.any fun n => decide (mv.getD n.toNat 0 = 0))
theorem ways_pure (l : List Nat) (hl : l.length ≤ 1000000) (hb : ∀ a ∈ l, a ≤ 1000) : APure Tryz.prog 81 [natV l] (I ((cap 1000 (prodN l) : Nat) : Int)) := by
  refine ap Tryz.func81 (fun e0 he0 => ?_)
  refine wz 5 ?_
  refine aw_loopk (ι := { k : Nat // k ≤ l.length }) [6, 7] (fun g => [(8, I (g.1 : Nat)), (3, I ((cap 1000 (prodN (l.take g.1)) : Nat) : Int))]) (fun H g => H) (fun g => l.length - g.1) (⟨0, Nat.zero_le _⟩) ⟨jz, (by exact less_int rfl), jz, jz, trivial⟩ rfl ?_
  rintro ⟨k, hk⟩
  refine nz ?_
  have hcp := cap_le 1000 (prodN (l.take k))
  refine wz 1 ?_
  refine iz (fun c_9 c_9' => ?_) (fun c_9 c_9' => ?_)
  ·have hkL : k < l.length := by omega
   have hbk := hb _ (List.getElem_mem hkL)
   have eS : (min (1000 : Int) (((cap 1000 (prodN (l.take k)) : Nat) : Int) * (l[k] : Int)) : Int) = ((cap 1000 (prodN (l.take (k + 1))) : Nat) : Int) := by rw [show (1000 : Int) = ((1000 : Nat) : Int) from rfl, cap_min, cap_mul1 (by decide), prodN_take hkL]
   refine wz 5 ?_
   refine sq_ev rfl (ev_mul jz jz (wr (by rw [← Int.natCast_mul]; omega) (by rw [← Int.natCast_mul]; have := Nat.mul_le_mul hcp hbk; omega))) ?_
   refine wz 4 ?_
   exact ⟨⟨k + 1, by omega⟩, by simp only; omega, Sub.slots ⟨jz, (by exact less_int eS), jz, jz, trivial⟩⟩
  obtain rfl : k = l.length := by omega
  refine wz 2 ?_
  exact rz rfl (Less.eq (by rw [List.take_length]))
theorem ends1_pure (s : Sto) (mv lv : List Nat) (n : Int) (hn : 0 ≤ n ∧ n < mv.length) : APure Tryz.prog 132 [I n, .iptr (tolC s mv lv)] (B (decide (mv.getD n.toNat 0 = 0))) := by
  refine ap Tryz.func132 (fun e0 he0 => ?_)
  refine wz 4 ?_
  refine sq_ev rfl (ev_index_map (k := n.toNat) (xs := mv) sl31.h jz jz (by omega) (by omega)) ?_
  refine wz 3 ?_
  exact rz rfl (Less.eq (congrArg B (by rw [getD_at (by omega), decide_eq_decide]; omega)))
theorem ends_pure (s : Sto) (mv lv : List Nat) (r : Rul) (ht : r.to.length ≤ 1000000) (hm : ∀ n ∈ r.to, 0 ≤ n ∧ n < mv.length) : APure Tryz.prog 80 [tolA s mv lv, .agg (rulC r)] (B (endT mv r)) := by
  refine ap Tryz.func80 (fun e0 he0 => ?_)
  refine vz 3 ?_
  refine sq_nil ?_
  refine aw_seq ?_
  refine aw_sub (sub_iptrK [3] 2 (j := 0) (l := tolC s mv lv) rfl rfl) ?_
  refine wz 3 ?_
  refine sq_ev rfl (ev_call en110.h jz (intF_any (cap := [.iptr (tolC s mv lv)]) (q := fun n => decide (mv.getD n.toNat 0 = 0)) r.to ht en132.h (fun i hi => ends1_pure s mv lv _ (hm _ (List.getElem_mem hi))) (by simp [AV.pureL, AV.pureB])) ⟨jz, jz, trivial⟩) ?_
  refine wz 2 ?_
  exact rz rfl jz
end Go.Proofs.YtnbjaepkbabkhaaGreat
namespace Go.Proofs.YtnbjaepkbabkhaaGreat
open Go Go.Ab Br Hd
open Ni (endT hi)
instance bi112 : BdI Tryz.prog 112 [.raw (.int .i64 0), .raw (.slice none 0 0), .raw (.slice none 0 0), .raw (.slice none 0 0), .raw (.slice none 0 0)] true [(0, 3), (3, 1), (4, 1)] 0 := ⟨by kernel_rfl⟩
instance z104 : ZeO Tryz.prog 104 [.raw (.int .i64 0), .raw (.slice none 0 0)] := ⟨by kernel_rfl⟩
instance z112 : ZeO Tryz.prog 112 [.raw (.int .i64 0), .raw (.slice none 0 0), .raw (.slice none 0 0), .raw (.slice none 0 0), .raw (.slice none 0 0)] := ⟨by kernel_rfl⟩
instance z25 : ZeO Tryz.prog 25 [.raw (.int .i64 0), .raw (.slice none 0 0), .raw (.slice none 0 0)] := ⟨by kernel_rfl⟩
theorem made_zero (n : Nat) : (madeCells #[Value.int .i64 0] (n * 1)).toList = List.replicate n (.int .i64 0) := by
  unfold madeCells
  rw [Nat.mul_one]
  apply List.ext_getElem?
  intro k
  simp only [Array.toList_map, Array.toList_range, List.getElem?_map, List.getElem?_range, List.getElem?_replicate]
  by_cases h : k < n
  · simp [h, Nat.mod_one]
  · simp [h]
theorem mk31 (n : Nat) (hn : n ≤ 1000000) : makeB Tryz.prog 31 n = some (List.replicate n (.int .i64 0)) := by
  obtain ⟨i, h1, h2, h3, h4⟩ : ∃ i : TypeInfo, Tryz.prog.info? 3 = some i ∧ i.zero = some (.int .i64 0) ∧ i.size = 1 ∧ i.bytes = 8 := ⟨_, rfl, rfl, rfl, rfl⟩
  unfold makeB
  rw [Tryz.underlying31]
  simp only [h1, h2, h3, h4]
  have e : (Value.int IntKind.i64 0).cells = #[.int .i64 0] := rfl
  rw [e, made_zero, if_pos ⟨Nat.ble_eq_true_of_le (by omega), by simp [Value.oneCell']⟩]
def rowF (v : Nat → Nat) (n m x : Nat) : List Nat := (List.range n).map fun i => if i = m then x else if m < i then v i else 0
def rowD (v : Nat → Nat) (n d : Nat) : List Nat := (List.range n).map fun i => if n ≤ i + d then v i else 0
theorem rowF_len (v : Nat → Nat) (n m x : Nat) : (rowF v n m x).length = n := by simp [rowF]
theorem rowD_len (v : Nat → Nat) (n d : Nat) : (rowD v n d).length = n := by simp [rowD]
theorem rowD_zero (v : Nat → Nat) (n : Nat) : rowD v n 0 = List.replicate n 0 := by
  refine List.ext_getElem (by simp [rowD]) fun i h1 h2 => ?_
  rw [rowD_len] at h1
  simp [rowD]; omega
theorem rowD_in {v : Nat → Nat} {n m d : Nat} (h : m + 1 + d = n) : rowD v n d = rowF v n m 0 := by
  refine List.map_congr_left fun i hi => ?_
  have := List.mem_range.1 hi
  split
  · rw [if_neg (by omega), if_pos (by omega)]
  · split
    · rfl
    · rw [if_neg (by omega)]
theorem rowF_out {v : Nat → Nat} {n m d : Nat} (h : m + 1 + d = n) : rowF v n m (v m) = rowD v n (d + 1) := by
  refine List.map_congr_left fun i hi => ?_
  have := List.mem_range.1 hi
  split
  · rename_i e; subst e; rw [if_pos (by omega)]
  · split
    · rw [if_pos (by omega)]
    · rw [if_neg (by omega)]
theorem rowF_set {v : Nat → Nat} {n m x y : Nat} (h : m < n) : (rowF v n m x).set m y = rowF v n m y := by
  refine List.ext_getElem (by simp [rowF]) fun i h1 h2 => ?_
  rw [rowF_len] at h2
  rw [List.getElem_set]
  by_cases e : m = i
  · subst e; rw [if_pos rfl]; simp [rowF]
  · rw [if_neg e]; simp only [rowF, List.getElem_map, List.getElem_range]; rw [if_neg (Ne.symm e), if_neg (Ne.symm e)]
theorem rowF_at {v : Nat → Nat} {n m x i : Nat} (hi : i < n) (h : m < i) : (rowF v n m x)[i]'(by rw [rowF_len]; exact hi) = v i := by
  simp only [rowF, List.getElem_map, List.getElem_range]; rw [if_neg (by omega), if_pos h]
theorem rowF_own {v : Nat → Nat} {n m x : Nat} (hi : m < n) : (rowF v n m x)[m]'(by rw [rowF_len]; exact hi) = x := by simp [rowF]
theorem rowD_all (v : Nat → Nat) (n : Nat) : rowD v n n = (List.range n).map v := by
  refine List.map_congr_left fun i _ => if_pos (by omega)
def manV (s : Sto) (i : Nat) : Nat := cap 1000 (cnt s (i : Int))
def lonV (s : Sto) (i : Nat) : Nat := lng s (i : Int)
def motN (s : Sto) : Nat := s.eps.toNat + s.scs.length
def manT (s : Sto) : List Nat := (List.range (motN s)).map (manV s)
def lonT (s : Sto) : List Nat := (List.range (motN s)).map (lonV s)
abbrev rowO (l : List Nat) : AObj := .cells (l.map fun (a : Nat) => I (a : Int))
theorem rowO_get {l : List Nat} {i : Nat} (h : i < l.length) : (l.map fun (a : Nat) => I (a : Int))[0 + i * 1]? = some (I (l[i] : Int)) := by
  rw [Nat.zero_add, Nat.mul_one, List.getElem?_map, List.getElem?_eq_getElem h]; rfl
theorem rowO_set {l : List Nat} {i : Nat} (h : i < l.length) (y : Nat) : (l.map fun (a : Nat) => I (a : Int)).take (0 + i * 1) ++ [I (y : Int)] ++ (l.map fun (a : Nat) => I (a : Int)).drop (0 + i * 1 + 1) = (l.set i y).map fun (a : Nat) => I (a : Int) := by
  rw [Nat.zero_add, Nat.mul_one, List.set_eq_take_append_cons_drop, if_pos h]; simp [List.map_take, List.map_drop]
theorem lng_big {s : Sto} (B : ParB s) : ∀ (d : Nat) {m : Int}, (s.eps - m).toNat ≤ d → 0 ≤ m → lng s m ≤ 4 ^ d
  | 0, m, h, _ => by rw [lng_scene (by omega)]; exact Nat.le_refl _
  | d + 1, m, h, h0 => by
    rcases Int.lt_or_le m s.eps with hm | hm
    · rw [lng_eps B h0 hm]
      unfold lngK
      have key : ∀ (l : List Nat) (b : Nat), (∀ x ∈ l, x ≤ b) → maxN l ≤ b := by
        intro l b hb
        induction l with
        | nil => simp [maxN]
        | cons a l ih =>
          unfold maxN; rw [List.foldl_cons, foldl_max]
          have h1 := hb a List.mem_cons_self
          have h2 := ih fun x hx => hb x (List.mem_cons_of_mem _ hx)
          unfold maxN at h2; omega
      refine key _ _ fun x hx => ?_
      obtain ⟨r, hr, rfl⟩ := List.mem_map.1 hx
      have hr2 := List.mem_filter.1 hr
      have hr3 := List.mem_of_mem_take hr2.1
      have hto := B.ru r hr3
      have hrm : r.frm = m := of_decide_eq_true ((Bool.and_eq_true _ _).mp hr2.2).1
      have hs : ∀ (l : List Int), (∀ n ∈ l, lng s n ≤ 4 ^ d) → (l.map (lng s)).sum ≤ l.length * 4 ^ d := by
        intro l hl
        induction l with
        | nil => simp
        | cons a l ih => rw [List.map_cons, List.sum_cons, List.length_cons, Nat.succ_mul]; have := hl a List.mem_cons_self; have := ih fun n hn => hl n (List.mem_cons_of_mem _ hn); omega
      have h1 := hs r.to fun n hn => lng_big B d (m := n) (by have := hto.2.2 n hn; omega) (by have := hto.2.2 n hn; omega)
      have h2 : r.to.length * 4 ^ d ≤ 4 * 4 ^ d := Nat.mul_le_mul_right _ hto.2.1.2
      rw [Nat.pow_succ]; omega
    · rw [lng_scene hm]; exact Nat.pow_pos (by decide)
theorem lng_4096 {s : Sto} (B : ParB s) {m : Int} (h0 : 0 ≤ m) : lng s m ≤ 4096 := by
  have h := lng_big B 6 (m := m) (by have := B.ep; omega) h0
  exact Nat.le_trans h (by decide)
def lonK (s : Sto) (r : Rul) (k : Nat) : Nat := ((r.to.take k).map (lng s)).sum
def manK (s : Sto) (r : Rul) (k : Nat) : List Nat := (r.to.take k).map fun n => cap 1000 (cnt s n)
theorem lonK_succ {s : Sto} {r : Rul} {k : Nat} (h : k < r.to.length) : lonK s r (k + 1) = lonK s r k + lng s r.to[k] := by
  unfold lonK; rw [List.take_succ_eq_append_getElem h, List.map_append, List.sum_append]; simp
theorem manK_succ {s : Sto} {r : Rul} {k : Nat} (h : k < r.to.length) : manK s r (k + 1) = manK s r k ++ [cap 1000 (cnt s r.to[k])] := by
  unfold manK; rw [List.take_succ_eq_append_getElem h, List.map_append]; rfl
theorem manK_all (s : Sto) (r : Rul) : cap 1000 (prodN (manK s r r.to.length)) = cap 1000 (prodN (r.to.map (cnt s))) := by
  unfold manK; rw [List.take_length, ← cap_prod (by decide) (r.to.map (cnt s)), List.map_map]; rfl
theorem lonK_le {s : Sto} (B : ParB s) {r : Rul} (hr : r ∈ s.rules) : ∀ k, k ≤ r.to.length → lonK s r k ≤ 4096 * k
  | 0, _ => by simp [lonK]
  | k + 1, h => by
    have ih := lonK_le B hr k (by omega)
    have hto := B.ru r hr
    rw [lonK_succ (by omega)]
    have := lng_4096 B (m := r.to[k]) (by have := hto.2.2 r.to[k] (List.getElem_mem (by omega)); omega)
    omega
theorem endT_is {s : Sto} (B : ParB s) {r : Rul} (hr : r ∈ s.rules) {mv : List Nat} (h : ∀ n ∈ r.to, mv.getD n.toNat 0 = cap 1000 (cnt s n)) : endT mv r = endR s r := by
  unfold endT endR
  rw [Bool.eq_iff_iff, Bool.not_eq_true', List.any_eq_false, List.all_eq_true]
  refine forall_congr' fun n => forall_congr' fun hn => ?_
  rw [h n hn, decide_eq_true_eq, cap_zero (by decide), Bool.not_eq_true', decide_eq_false_iff_not]
end Go.Proofs.YtnbjaepkbabkhaaGreat
namespace Go.Proofs.YtnbjaepkbabkhaaGreat
open Go Go.Ab Br Hd
open Ni (endT hi)
instance en40 : EnT Tryz.prog 40 := ⟨Ent.of Tryz.func40 (by kernel_rfl) rfl⟩
instance fo112_2 : FoF Tryz.prog 112 2 4 31 := ⟨by kernel_rfl⟩
theorem mo : Tryz.prog.follows .mixedOrders = true := by kernel_rfl
abbrev tolL (s : Sto) (N : Nat) : List AV := [I s.eps, scbs s.scs, ruls s.rules, .msl 2 0 N N, .msl 3 0 N N]
theorem sz_nats (l : List Nat) : ∀ q ∈ l.map (fun (a : Nat) => [I (a : Int)]), q.length = 1 := fun q hq => by obtain ⟨x, _, rfl⟩ := List.mem_map.1 hq; rfl
theorem ends_lent (s : Sto) (mv lv : List Nat) {N : Nat} (hm : mv.length = N) (hl : lv.length = N) (r : Rul) (ht : r.to.length ≤ 1000000) (hn : ∀ n ∈ r.to, 0 ≤ n ∧ n < N) {H : List AObj} (h2 : H[2]? = some (rowO mv)) (h3 : H[3]? = some (rowO lv)) :
    AQuiet Tryz.prog 80 [.agg (tolL s N), .agg (rulC r)] H (B (endT mv r)) := by
  have base := ends_pure s mv lv r ht (by rw [hm]; exact hn)
  have q3 : AQuiet Tryz.prog 80 [.agg [I s.eps, scbs s.scs, ruls s.rules, natV mv, .msl 3 0 N N], .agg (rulC r)] (H.set 2 .dead) (B (endT mv r)) :=
    AQuiet.lend (j := 3) (n := N) (c := N) (sz := 1) (es := lv.map fun (a : Nat) => [I (a : Int)]) (rest := []) base rfl (.cons (Fz.agg (.cons (Fz.same _) (.cons (Fz.same _) (.cons (Fz.same _) (.cons (Fz.same _) (.cons Fz.frozen .nil)))))) (.cons (Fz.same _) .nil))
      (by rw [List.getElem?_set_ne (by decide), h3, flat_single, List.append_nil]) (by simpa using hl) (sz_nats lv)
  exact AQuiet.lend2 (j := 2) (n := N) (c := N) (sz := 1) (es := mv.map fun (a : Nat) => [I (a : Int)]) (rest := []) q3 rfl (.cons (Fz.agg (.cons (Fz.same _) (.cons (Fz.same _) (.cons (Fz.same _) (.cons Fz.frozen (.cons (Fz.same _) .nil)))))) (.cons (Fz.same _) .nil))
      (by rw [h2, flat_single, List.append_nil]) (by simpa using hm) (sz_nats mv)
theorem fresh_rowT {c : Ctx} (hP : c.P = Tryz.prog) {Q : AExit → St → Prop} {Hc : List AObj} {ρ : Operand → AV} {d : Option Tmp} {t : TypeId} {pp : String} {af : Array Edge} {x y : Operand} {id : Nat} (hd : dOK c.nt d = true) (n : Nat) (hn : n ≤ 1000000)
    (hx : Less (ρ x) (.raw (.int .i64 n))) (hy : Less (ρ y) (.raw (.int .i64 n))) :
    FreshOK c Q Hc ⟨d, .makeSlice 31 x y, t, pp, af, none⟩ ρ id (rowO (List.replicate n 0)) (.msl id 0 n n) := by
  have h := fresh_make (c := c) (Q := Q) (Hc := Hc) (t := t) (p := pp) (af := af) (id := id) (st := 31) hd (by rw [hP]; exact mk31 _ hn) hn hx hy
  have e : (List.replicate n (Value.int .i64 0)).map AV.raw = (List.replicate n 0).map fun (a : Nat) => I (a : Int) := by simp
  rwa [e] at h
theorem rows5 {a b c : AObj} {L L' M M' : List AV} (h1 : L = L') (h2 : M = M') : [a, b, AObj.cells L, AObj.cells M, c] = [a, b, AObj.cells L', AObj.cells M', c] := by rw [h1, h2]
@[simp] theorem inL_nat (n : Nat) (l : List Nat) : AV.inL n (l.map fun (a : Nat) => I (a : Int)) = true := by
  induction l with
  | nil => rfl
  | cons a l ih => show (AV.inB n (I (a : Int)) && AV.inL n (l.map fun (a : Nat) => I (a : Int))) = true; rw [ih]; rfl
theorem row_mid {v : Nat → Nat} {n m x : Nat} (h : m < n) (y : Nat) : ((rowF v n m x).map fun (a : Nat) => I (a : Int)).take (0 + m * 1) ++ [I (y : Int)] ++ ((rowF v n m x).map fun (a : Nat) => I (a : Int)).drop (0 + m * 1 + 1) = (rowF v n m y).map fun (a : Nat) => I (a : Int) := by
  rw [rowO_set (by rw [rowF_len]; exact h), rowF_set h]
theorem row_out {v : Nat → Nat} {n m d x y : Nat} (h : m + 1 + d = n) (hy : v m = y) : ((rowF v n m x).map fun (a : Nat) => I (a : Int)).take (0 + m * 1) ++ [I (y : Int)] ++ ((rowF v n m x).map fun (a : Nat) => I (a : Int)).drop (0 + m * 1 + 1) = (rowD v n (d + 1)).map fun (a : Nat) => I (a : Int) := by
  rw [row_mid (by omega), ← hy, rowF_out h]
theorem mot_N {s : Sto} (B : ParB s) : s.eps + (s.scs.length : Int) = (motN s : Int) := by have := B.ep; unfold motN; omega
theorem row_ble {v : Nat → Nat} {n m x i : Nat} (h : i < n) : Nat.ble (0 + i * 1 + 1) ((rowF v n m x).map fun (a : Nat) => I (a : Int)).length = true := Nat.ble_eq_true_of_le (by rw [List.length_map, rowF_len]; omega)
theorem rowF_val {v : Nat → Nat} {n m x i : Nat} (hi : i < n) (h : m < i) : ((rowF v n m x).map fun (a : Nat) => I (a : Int))[0 + i * 1]? = some (I (v i : Int)) := by
  rw [rowO_get (by rw [rowF_len]; exact hi), rowF_at hi h]
theorem rowF_me {v : Nat → Nat} {n m x : Nat} (hi : m < n) : ((rowF v n m x).map fun (a : Nat) => I (a : Int))[0 + m * 1]? = some (I (x : Int)) := by
  rw [rowO_get (by rw [rowF_len]; exact hi), rowF_own hi]
theorem manV_at (s : Sto) {n : Int} (h : 0 ≤ n) : manV s n.toNat = cap 1000 (cnt s n) := by unfold manV; rw [show ((n.toNat : Nat) : Int) = n by omega]
theorem lonV_at (s : Sto) {n : Int} (h : 0 ≤ n) : lonV s n.toNat = lng s n := by unfold lonV; rw [show ((n.toNat : Nat) : Int) = n by omega]
theorem tell_pure {s : Sto} (B : ParB s) : APure Tryz.prog 40 [stoA s] (tolA s (manT s) (lonT s)) := by
  refine ap (rs := [.cell 2 112]) Tryz.func40 (fun e0 he0 => ?_)
  refine vz 2 ?_
  refine sq_nil ?_
  refine aw_seq ?_
  have hep := B.ep
  have hns := B.ns
  have hnr := B.nr
  have hN := mot_N B
  refine vz 7 ?_
  refine sq_nil ?_
  refine aw_seq ?_
  rw [hN]
  refine aw_drawc [2, 4, 6] [7] _ mo (by kernel_rfl) (HSub.refl _) ?_
  first | refine dc_ev rfl (ev_load_agg jz rfl ty25.h rfl) ?_ | refine dc_ev rfl (ev_load_agg_i jz ty25.h (by exact Nat.le_of_ble_eq_true rfl)) ?_
  refine dc_ev rfl (ev_mv (v := .raw _) jz) ?_
  refine dc_fresh rfl rfl (fresh_rowT rfl rfl (motN s) (by omega) jz jz) ?_
  refine dc_ev rfl (ev_mv (v := .raw _) jz) ?_
  refine dc_fresh rfl rfl (fresh_rowT rfl rfl (motN s) (by omega) jz jz) ?_
  refine dc_ev rfl (ev_build bi112.h rfl) ?_
  refine dc_alloc rfl rfl z112.h ?_
  refine dc_eff rfl rfl (eff_store rfl jz jz rfl rfl ty112.h rfl rfl) (by apply HL.sub; repeat' (first | exact HL.nil _ | apply HL.same | apply HL.tok)) ?_
  refine dc_nil ?_
  refine wz 3 ?_
  refine aw_loopk (ι := { d : Nat // d ≤ motN s }) [1, 2, 4] (fun g => [(5, I ((motN s : Int) - 1 - (g.1 : Nat)))]) (fun H g => [.cells (stoC s), .cells [I 0, .raw (.slice none 0 0), .raw (.slice none 0 0), .raw (.slice none 0 0), .raw (.slice none 0 0)], rowO (rowD (manV s) (motN s) g.1), rowO (rowD (lonV s) (motN s) g.1), .cells (tolL s (motN s))]) (fun g => motN s - g.1) (⟨0, Nat.zero_le _⟩) ⟨(by exact less_int (by simp <;> omega)), jz, jz, jz, trivial⟩ (by rw [rowD_zero, rowD_zero] <;> rfl) ?_
  rintro ⟨d, hd⟩
  refine nz ?_
  refine wz 2 ?_
  refine iz (fun c_27 c_27' => ?_) (fun c_27 c_27' => ?_)
  ·obtain ⟨m, hmd⟩ : ∃ m : Nat, m + 1 + d = motN s := ⟨motN s - 1 - d, by omega⟩
   have em : (motN s : Int) - 1 - (d : Nat) = (m : Int) := by omega
   have hmN : m < motN s := by omega
   rw [em, rowD_in hmd, rowD_in hmd]
   refine wz 4 ?_
   refine iz (fun c_33 c_33' => ?_) (fun c_33 c_33' => ?_)
   ·have eM := row_out (v := manV s) (x := 0) (y := 1) hmd (by unfold manV; rw [cnt_scene (by omega)]; rfl)
    have eL := row_out (v := lonV s) (x := 0) (y := 1) hmd (by unfold lonV; rw [lng_scene (by omega)])
    refine wz 0 ?_
    refine aw_drawl [(7, 2), (9, 3)] mo (by kernel_rfl) ?_
    first | refine dl_ev [2, 3] rfl (by kernel_rfl) (ev_fieldAddr fo112_1.h jz) ?_ | refine dl_ev [2, 3] rfl (by kernel_rfl) (ev_fieldAddr_i fo112_1.h jz) ?_
    first | refine dl_ev [2, 3] rfl (by kernel_rfl) (ev_load jz rfl ty31.h rfl) ?_ | refine dl_ev [2, 3] rfl (by kernel_rfl) (ev_load_i jz ty31.h rfl) ?_
    refine dl_ev [2, 3] rfl (by kernel_rfl) (ev_mv (v := .raw _) jz) ?_
    first | refine dl_ev [2, 3] rfl (by kernel_rfl) (ev_fieldAddr fo112_2.h jz) ?_ | refine dl_ev [2, 3] rfl (by kernel_rfl) (ev_fieldAddr_i fo112_2.h jz) ?_
    first | refine dl_ev [2, 3] rfl (by kernel_rfl) (ev_load jz rfl ty31.h rfl) ?_ | refine dl_ev [2, 3] rfl (by kernel_rfl) (ev_load_i jz ty31.h rfl) ?_
    refine dl_ev [2, 3] rfl (by kernel_rfl) (ev_mv (v := .raw _) jz) ?_
    refine dl_ev [2, 3] rfl (by kernel_rfl) (ev_index_msl (k := m) sl31.h jz jz rfl hmN) ?_
    refine dl_eff rfl (by kernel_rfl) rfl rfl (effl_store (off := 0 + m * 1) rfl jz jz rfl ty3.h rfl (row_ble hmN)) ?_
    refine dl_ev [2, 3] rfl (by kernel_rfl) (ev_index_msl (k := m) sl31.h jz jz rfl hmN) ?_
    refine dl_eff rfl (by kernel_rfl) rfl rfl (effl_store (off := 0 + m * 1) rfl jz jz rfl ty3.h rfl (row_ble hmN)) ?_
    refine dl_nil ?_
    refine wz 3 ?_
    exact ⟨⟨d + 1, by omega⟩, by simp only; omega, sb 5 ⟨(by exact less_int (by simp <;> omega)), jz, jz, jz, trivial⟩ (hH := (rows5 eM eL)) (h2 := (by simp [objsIn, AObj.inB, AV.inB, AV.inL, inL_nat]))⟩
   refine wz 4 ?_
   refine aw_loopk (ι := { k : Nat // k ≤ s.rules.length }) [1, 2, 4, 5, 43, 44] (fun y => [(45, I (y.1 : Nat))]) (fun H y => [.cells (stoC s), .cells [I 0, .raw (.slice none 0 0), .raw (.slice none 0 0), .raw (.slice none 0 0), .raw (.slice none 0 0)], rowO (rowF (manV s) (motN s) m (cap 1000 (cntK s m y.1))), rowO (rowF (lonV s) (motN s) m (lngK s m y.1)), .cells (tolL s (motN s))]) (fun y => s.rules.length - y.1) (⟨0, Nat.zero_le _⟩) ⟨jz, jz, jz, jz, jz, jz, jz, trivial⟩ (by rw [cntK_zero, lngK_zero] <;> rfl) ?_
   rintro ⟨k, hk⟩
   refine nz ?_
   refine wz 1 ?_
   refine iz (fun c_46 c_46' => ?_) (fun c_46 c_46' => ?_)
   ·have hkR : k < s.rules.length := by omega
    have hrm := List.getElem_mem hkR
    refine vz 4 ?_
    refine sq_nil ?_
    refine aw_seq ?_
    refine aw_seq ?_
    have hto := B.ru _ hrm
    have hmv : ∀ n ∈ s.rules[k].to, s.rules[k].frm = (m : Int) → (rowF (manV s) (motN s) m (cap 1000 (cntK s m k))).getD n.toNat 0 = cap 1000 (cnt s n) := fun n hn hf => by have h9 := hto.2.2 n hn; rw [getD_at (by rw [rowF_len]; omega), rowF_at (by omega) (by omega), manV_at s (by omega)]
    refine wz 5 ?_
    refine sz 53 (fun g11_4 g11_4' => ?_) (fun g11_4 g11_4' => ?_)
    ·have hne : s.rules[k].frm ≠ (m : Int) := by simpa using g11_4
     have hno : ¬ (s.rules[k].frm = (m : Int) ∧ endR s s.rules[k] = true) := fun q => hne q.1
     have eC : ((rowF (manV s) (motN s) m (cap 1000 (cntK s m k))).map fun (a : Nat) => I (a : Int)) = ((rowF (manV s) (motN s) m (cap 1000 (cntK s m (k + 1)))).map fun (a : Nat) => I (a : Int)) := by rw [cntK_no hkR hne]
     have eG : ((rowF (lonV s) (motN s) m (lngK s m k)).map fun (a : Nat) => I (a : Int)) = ((rowF (lonV s) (motN s) m (lngK s m (k + 1))).map fun (a : Nat) => I (a : Int)) := by rw [lngK_no hkR hno]
     refine wz 8 ?_
     exact ⟨⟨k + 1, by omega⟩, by simp only; omega, sb 5 ⟨jz, jz, jz, jz, jz, jz, jz, trivial⟩ (hH := (rows5 eC eG)) (h2 := (by simp [objsIn, AObj.inB, AV.inB, AV.inL, inL_nat]))⟩
    have hfm : s.rules[k].frm = (m : Int) := by simpa using g11_4
    have hee := endT_is B hrm (fun n hn => hmv n hn hfm)
    refine wz 2 ?_
    refine sq_yes rfl rfl (less_b g11_4) rfl (ev_callQ en80.h jz (ends_lent s (rowF (manV s) (motN s) m (cap 1000 (cntK s m k))) (rowF (lonV s) (motN s) m (lngK s m k)) (rowF_len _ _ _ _) (rowF_len _ _ _ _) s.rules[k] (by omega) (fun n hn => by have h9 := hto.2.2 n hn; omega) rfl rfl) ⟨jz, jz, trivial⟩) ?_
    refine wz 2 ?_
    refine iz (fun c_58 c_58' => ?_) (fun c_58 c_58' => ?_)
    ·have hen : endR s s.rules[k] = false := by rw [← hee]; simpa using c_58
     have hpz : prodN (s.rules[k].to.map (cnt s)) = 0 := Decidable.not_not.1 fun q => by rw [endR_iff.2 q] at hen; cases hen
     have eC : ((rowF (manV s) (motN s) m (cap 1000 (cntK s m k))).map fun (a : Nat) => I (a : Int)) = ((rowF (manV s) (motN s) m (cap 1000 (cntK s m (k + 1)))).map fun (a : Nat) => I (a : Int)) := by rw [cntK_yes hkR hfm, hpz, Nat.add_zero]
     have eG : ((rowF (lonV s) (motN s) m (lngK s m k)).map fun (a : Nat) => I (a : Int)) = ((rowF (lonV s) (motN s) m (lngK s m (k + 1))).map fun (a : Nat) => I (a : Int)) := by rw [lngK_no hkR (fun q => by rw [q.2] at hen; cases hen)]
     refine wz 2 ?_
     exact ⟨⟨k + 1, by omega⟩, by simp only; omega, sb 5 ⟨jz, jz, jz, jz, jz, jz, jz, trivial⟩ (hH := (rows5 eC eG)) (h2 := (by simp [objsIn, AObj.inB, AV.inB, AV.inL, inL_nat]))⟩
    have hen : endR s s.rules[k] = true := by rw [← hee]; simpa using c_58
    have eP : (min (1000 : Int) (((cap 1000 (cntK s m k) : Nat) : Int) + ((cap 1000 (prodN (manK s s.rules[k] s.rules[k].to.length)) : Nat) : Int)) : Int) = ((cap 1000 (cntK s m (k + 1)) : Nat) : Int) := by rw [cntK_yes hkR hfm, manK_all, ← cap_add]; generalize cap 1000 (cntK s m k) = a; generalize cap 1000 (prodN (s.rules[k].to.map (cnt s))) = b; unfold cap; omega
    have eQ : (max ((lngK s m k : Nat) : Int) ((lonK s s.rules[k] s.rules[k].to.length : Nat) : Int) : Int) = ((lngK s m (k + 1) : Nat) : Int) := by rw [lngK_yes hkR hfm hen]; unfold lonK; rw [List.take_length]; omega
    have eC := row_mid (v := manV s) (x := cap 1000 (cntK s m k)) hmN (cap 1000 (cntK s m (k + 1)))
    have eG := row_mid (v := lonV s) (x := lngK s m k) hmN (lngK s m (k + 1))
    refine vz 6 ?_
    refine sq_nil ?_
    refine aw_block ?_
    refine aw_sub (sub_token 8 1 jz) ?_
    refine aw_loopk (ι := { q : Nat // q ≤ s.rules[k].to.length }) [1, 2, 4, 5, 43, 44, 45, 60, 61] (fun u => [(62, I (u.1 : Nat)), (8, .own 6 1 ((manK s s.rules[k] u.1).map fun (a : Nat) => [I (a : Int)])), (9, I ((lonK s s.rules[k] u.1 : Nat) : Int))]) (fun H u => H.set 6 (.tok ((manK s s.rules[k] u.1).map fun (a : Nat) => [I (a : Int)]).length)) (fun u => s.rules[k].to.length - u.1) (⟨0, Nat.zero_le _⟩) ⟨jz, jz, (by exact less_int rfl), jz, jz, jz, jz, jz, jz, jz, jz, jz, trivial⟩ rfl ?_
    rintro ⟨q, hq⟩
    refine nz ?_
    have hlk := lonK_le B hrm q hq
    have hmk : (manK s s.rules[k] q).length ≤ 4 := by unfold manK; rw [List.length_map, List.length_take]; omega
    refine wz 1 ?_
    refine iz (fun c_63 c_63' => ?_) (fun c_63 c_63' => ?_)
    ·have hqL : q < s.rules[k].to.length := by omega
     have hxq := hto.2.2 _ (List.getElem_mem hqL)
     have h49 := lng_4096 B (m := s.rules[k].to[q]) (by omega)
     have eS : ((manK s s.rules[k] (q + 1)).map fun (a : Nat) => [I (a : Int)]) = ((manK s s.rules[k] q).map fun (a : Nat) => [I (a : Int)]) ++ [[I ((cap 1000 (cnt s s.rules[k].to[q]) : Nat) : Int)]] := by rw [manK_succ hqL, List.map_append]; rfl
     have eT : ((lonK s s.rules[k] q : Nat) : Int) + ((lng s s.rules[k].to[q] : Nat) : Int) = ((lonK s s.rules[k] (q + 1) : Nat) : Int) := by rw [lonK_succ hqL]; omega
     refine wz 7 ?_
     refine sq_ev rfl (ev_index_msl (k := (s.rules[k].to[q]).toNat) sl31.h jz jz (by omega) (by omega)) ?_
     refine sq_ev rfl (ev_load (v := I ((cap 1000 (cnt s s.rules[k].to[q]) : Nat) : Int)) jz rfl ty3.h ((rowF_val (by omega) (by omega)).trans (by rw [manV_at s (by omega)]))) ?_
     refine sq_ev rfl (ev_buildSlice (es := [[_]]) sf31.h rfl rfl rfl rfl) ?_
     first | refine sq_append rfl sf31.h Tryz.underlying31 rfl rfl jz (Nat.succ_pos _) (by simp; omega) (by simp; omega) ?_ | refine sq_append rfl sf31.h Tryz.underlying31 rfl rfl (less_slx _ _) (Nat.succ_pos _) (by simp; omega) (by simp; omega) ?_
     refine wz 5 ?_
     refine sq_ev rfl (ev_index_msl (k := (s.rules[k].to[q]).toNat) sl31.h jz jz (by omega) (by omega)) ?_
     refine sq_ev rfl (ev_load (v := I ((lng s s.rules[k].to[q] : Nat) : Int)) jz rfl ty3.h ((rowF_val (by omega) (by omega)).trans (by rw [lonV_at s (by omega)]))) ?_
     refine wz 4 ?_
     exact ⟨⟨q + 1, by omega⟩, by simp only; omega, sb 7 ⟨jz, Less.eq (by rw [eS] <;> rfl), (by exact less_int eT), jz, jz, jz, jz, jz, jz, jz, jz, jz, trivial⟩ (hH := (congrArg (fun n => [_, _, _, _, _, _, AObj.tok n]) (congrArg List.length eS.symm)))⟩
    obtain rfl : q = s.rules[k].to.length := by omega
    refine aw_exit ?_
    refine aw_seq ?_
    have hcl := cap_le 1000 (cntK s m k)
    have hcl2 := cap_le 1000 (prodN (manK s s.rules[k] s.rules[k].to.length))
    refine aw_draw 13 mo (by kernel_rfl) ?_
    refine dz 6 ?_
    refine dr_ev rfl (ev_index_msl (k := m) sl31.h jz jz rfl hmN) ?_
    refine dr_ev rfl (ev_load jz rfl ty3.h (rowF_me hmN)) ?_
    refine dz 1 ?_
    refine dr_ev rfl (ev_call en81.h jz (ways_pure (manK s s.rules[k] s.rules[k].to.length) (by unfold manK; rw [List.length_map, List.length_take]; omega) (fun a ha => by unfold manK at ha; obtain ⟨n, _, rfl⟩ := List.mem_map.1 ha; exact cap_le _ _)) ⟨less_own _ _ _, trivial⟩) ?_
    refine dz 2 ?_
    refine dr_ev rfl (ev_index_msl (k := m) sl31.h jz jz rfl hmN) ?_
    refine dr_end ?_
    refine sq_store (j := 2) (off := 0 + m * 1) rfl jz (by exact less_int eP) rfl rfl ty3.h rfl (row_ble hmN) ?_
    refine sq_nil ?_
    refine nz ?_
    refine aw_draw 11 mo (by kernel_rfl) ?_
    refine dz 6 ?_
    refine dr_ev rfl (ev_index_msl (k := m) sl31.h jz jz rfl hmN) ?_
    refine dr_ev rfl (ev_load jz rfl ty3.h (rowF_me hmN)) ?_
    refine dz 2 ?_
    refine dr_ev rfl (ev_index_msl (k := m) sl31.h jz jz rfl hmN) ?_
    refine dr_end ?_
    refine sq_store (j := 3) (off := 0 + m * 1) rfl jz (by exact less_int eQ) rfl rfl ty3.h rfl (row_ble hmN) ?_
    refine wz 2 ?_
    exact ⟨⟨k + 1, by omega⟩, by simp only; omega, sb 5 ⟨jz, jz, jz, jz, jz, jz, jz, trivial⟩ (hH := (rows5 eC eG)) (h2 := (by simp [objsIn, AObj.inB, AV.inB, AV.inL, inL_nat]))⟩
   obtain rfl : k = s.rules.length := by omega
   have eM : ((rowF (manV s) (motN s) m (cap 1000 (cntK s m s.rules.length))).map fun (a : Nat) => I (a : Int)) = (rowD (manV s) (motN s) (d + 1)).map fun (a : Nat) => I (a : Int) := by rw [← cnt_eps B (by omega) (by omega)]; exact congrArg _ (rowF_out (v := manV s) hmd)
   have eL : ((rowF (lonV s) (motN s) m (lngK s m s.rules.length)).map fun (a : Nat) => I (a : Int)) = (rowD (lonV s) (motN s) (d + 1)).map fun (a : Nat) => I (a : Int) := by rw [← lng_eps B (by omega) (by omega)]; exact congrArg _ (rowF_out (v := lonV s) hmd)
   refine wz 3 ?_
   exact ⟨⟨d + 1, by omega⟩, by simp only; omega, sb 5 ⟨(by exact less_int (by simp <;> omega)), jz, jz, jz, trivial⟩ (hH := (rows5 eM eL)) (h2 := (by simp [objsIn, AObj.inB, AV.inB, AV.inL, inL_nat]))⟩
  obtain rfl : d = motN s := by omega
  refine aw_exit ?_
  refine aw_seq ?_
  rw [rowD_all, rowD_all]
  refine aw_sub (sub_freeze (j := 2) (n := motN s) (cap := motN s) (sz := 1) (es := (manT s).map fun (a : Nat) => [I (a : Int)]) (rest := []) (sl' := [(2, .ptr 1 0), (4, .ptr 4 0)]) (by rw [flat_single, List.append_nil]; rfl) (by simp [manT]) (sz_nats _) (fun q hq => ?_) (FzH.same _ (by decide) (FzH.same _ (by decide) (FzH.dead _ rfl (FzH.same _ (by decide) (FzH.cells (by decide) (FzL.cons (Fz.same _) (FzL.cons (Fz.same _) (FzL.cons (Fz.same _) (FzL.cons Fz.frozen (FzL.cons (Fz.same _) FzL.nil))))) (FzH.nil _))))))) ?_
  ·simp only [List.mem_cons, List.not_mem_nil, or_false] at hq; rcases hq with rfl | rfl <;> exact Fz.same _
  refine nz ?_
  refine aw_sub (sub_freeze (j := 3) (n := motN s) (cap := motN s) (sz := 1) (es := (lonT s).map fun (a : Nat) => [I (a : Int)]) (rest := []) (sl' := [(2, .ptr 1 0), (4, .ptr 4 0)]) (by rw [flat_single, List.append_nil]; rfl) (by simp [lonT]) (sz_nats _) (fun q hq => ?_) (FzH.same _ (by decide) (FzH.same _ (by decide) (FzH.same _ (by decide) (FzH.dead _ rfl (FzH.cells (by decide) (FzL.cons (Fz.same _) (FzL.cons (Fz.same _) (FzL.cons (Fz.same _) (FzL.cons (Fz.same _) (FzL.cons Fz.frozen FzL.nil))))) (FzH.nil _))))))) ?_
  ·simp only [List.mem_cons, List.not_mem_nil, or_false] at hq; rcases hq with rfl | rfl <;> exact Fz.same _
  refine nz ?_
  refine wz 2 ?_
  exact retQ_res (vs := [.agg _]) rfl rfl ⟨resVar_cell rfl rfl ty112.h rfl, trivial⟩ jz
end Go.Proofs.YtnbjaepkbabkhaaGreat
namespace Go.Proofs.YtnbjaepkbabkhaaGreat
open Go Go.Ab Br Hd
open Ni (hi inn)
instance en34 : EnT Tryz.prog 34 := ⟨Ent.of Tryz.func34 (by kernel_rfl) rfl⟩
instance en35 : EnT Tryz.prog 35 := ⟨Ent.of Tryz.func35 (by kernel_rfl) rfl⟩
instance en36 : EnT Tryz.prog 36 := ⟨Ent.of Tryz.func36 (by kernel_rfl) rfl⟩
instance en39 : EnT Tryz.prog 39 := ⟨Ent.of Tryz.func39 (by kernel_rfl) rfl⟩
instance en79 : EnT Tryz.prog 79 := ⟨Ent.of Tryz.func79 (by kernel_rfl) rfl⟩
theorem manT_0 {s : Sto} (B : ParB s) : ∃ h : 0 < (manT s).length, (manT s)[0] = cap 1000 (cnt s 0) := by
  have := B.ep
  have h : 0 < (manT s).length := by unfold manT motN; rw [List.length_map, List.length_range]; omega
  exact ⟨h, Option.some.inj ((List.getElem?_eq_getElem h).symm.trans (by unfold manT; rw [List.getElem?_map, List.getElem?_range (by unfold motN; omega)]; rfl))⟩
theorem lonT_0 {s : Sto} (B : ParB s) : ∃ h : 0 < (lonT s).length, (lonT s)[0] = lng s 0 := by
  have := B.ep
  have h : 0 < (lonT s).length := by unfold lonT motN; rw [List.length_map, List.length_range]; omega
  exact ⟨h, Option.some.inj ((List.getElem?_eq_getElem h).symm.trans (by unfold lonT; rw [List.getElem?_map, List.getElem?_range (by unfold motN; omega)]; rfl))⟩
theorem story_pure (s : Sto) (hs : s.scs.length ≤ 1000000) (hr : s.rules.length ≤ 1000000) : APure Tryz.prog 39 [stoA s] (B (stoOK s)) := by
  refine ap Tryz.func39 (fun e0 he0 => ?_)
  refine wz 3 ?_
  refine kz az (parts_pure s hs hr) ?_
  refine wz 1 ?_
  refine iz (fun c_6 c_6' => ?_) (fun c_6 c_6' => ?_)
  ·have hpo : parOK s = false := by simpa using c_6
   refine wz 1 ?_
   exact rz rfl (Less.eq (congrArg B (by unfold stoOK; rw [hpo]; rfl)))
  refine aw_skip ?_
  refine aw_seq ?_
  have gB := parOK_iff.1 (show parOK s = true by simpa using c_6)
  obtain ⟨hml, hm0⟩ := manT_0 gB
  obtain ⟨hll, hl0⟩ := lonT_0 gB
  refine wz 1 ?_
  refine kz az (tell_pure gB) ?_
  refine wz 4 ?_
  refine sq_ev rfl (ev_index_map (k := 0) (xs := manT s) sl31.h jz jz rfl hml) ?_
  refine wz 3 ?_
  refine sz 14 (fun g4_5 g4_5' => ?_) (fun g4_5 g4_5' => ?_)
  ·have g4 := g4_5
   rw [hm0] at g4
   have hc4 : cnt s 0 ≤ 40 := by have h := g4; unfold cap at h; simp at h; omega
   refine wz 2 ?_
   refine sq_yes rfl rfl (less_b g4_5) rfl (ev_index_map (k := 0) (xs := lonT s) sl31.h jz jz rfl hll) ?_
   refine wz 4 ?_
   exact rz rfl (Less.eq (congrArg B (by unfold stoOK; rw [parOK_iff.2 gB, decide_eq_true hc4, hl0, Bool.true_and, Bool.true_and, decide_eq_decide]; omega)))
  have g4 := g4_5
  rw [hm0] at g4
  have hc4 : ¬ cnt s 0 ≤ 40 := by have h := g4; unfold cap at h; simp at h; omega
  refine wz 7 ?_
  exact rz rfl (Less.eq (congrArg B (by unfold stoOK; rw [decide_eq_false hc4]; simp)))
end Go.Proofs.YtnbjaepkbabkhaaGreat
namespace Go.Proofs.YtnbjaepkbabkhaaGreat
open Go Go.Ab Ni
instance ar28 : ArE Tryz.prog 28 2 27 2 := ⟨by kernel_rfl⟩
instance en46 : EnT Tryz.prog 46 := ⟨Ent.of Tryz.func46 (by kernel_rfl) rfl⟩
instance en47 : EnT Tryz.prog 47 := ⟨Ent.of Tryz.func47 (by kernel_rfl) rfl⟩
instance en89 : EnT Tryz.prog 89 := ⟨Ent.of Tryz.func89 (by kernel_rfl) rfl⟩
instance en90 : EnT Tryz.prog 90 := ⟨Ent.of Tryz.func90 (by kernel_rfl) rfl⟩
instance fo108_0 : FoF Tryz.prog 108 0 0 3 := ⟨by kernel_rfl⟩
instance fo108_1 : FoF Tryz.prog 108 1 1 3 := ⟨by kernel_rfl⟩
instance fo108_2 : FoF Tryz.prog 108 2 2 3 := ⟨by kernel_rfl⟩
instance fo108_3 : FoF Tryz.prog 108 3 3 4 := ⟨by kernel_rfl⟩
instance fo108_4 : FoF Tryz.prog 108 4 4 3 := ⟨by kernel_rfl⟩
instance fo27_0 : FoF Tryz.prog 27 0 0 3 := ⟨by kernel_rfl⟩
instance fo27_1 : FoF Tryz.prog 27 1 1 3 := ⟨by kernel_rfl⟩
instance fo45_0 : FoF Tryz.prog 45 0 0 3 := ⟨by kernel_rfl⟩
instance fo45_1 : FoF Tryz.prog 45 1 1 28 := ⟨by kernel_rfl⟩
instance fo45_2 : FoF Tryz.prog 45 2 5 27 := ⟨by kernel_rfl⟩
instance fo45_3 : FoF Tryz.prog 45 3 7 43 := ⟨by kernel_rfl⟩
instance sl43 : SlE Tryz.prog 43 108 5 := ⟨by kernel_rfl⟩
instance ty108 : TyF Tryz.prog 108 true 5 := ⟨by kernel_rfl⟩
instance ty27 : TyF Tryz.prog 27 true 2 := ⟨by kernel_rfl⟩
instance ty4 : TyF Tryz.prog 4 false 1 := ⟨by kernel_rfl⟩
instance ty43 : TyF Tryz.prog 43 false 1 := ⟨by kernel_rfl⟩
instance ty45 : TyF Tryz.prog 45 true 8 := ⟨by kernel_rfl⟩
instance z108 : ZeO Tryz.prog 108 [.raw (.int .i64 0), .raw (.int .i64 0), .raw (.int .i64 0), .raw (.bool false), .raw (.int .i64 0)] := ⟨by kernel_rfl⟩
instance z27 : ZeO Tryz.prog 27 [.raw (.int .i64 0), .raw (.int .i64 0)] := ⟨by kernel_rfl⟩
abbrev nats (l : List Nat) : AV := .sl 1 (l.map fun (x : Nat) => [I x])
abbrev natss (l : List (List Nat)) : AV := .sl 1 (l.map fun x => [nats x])
abbrev sc (x : Sc) : List AV := [I x.part, I x.least, I x.most, B x.loose, I x.wants]
abbrev spanC (lo hi : Int) : List AV := [I lo, I hi]
abbrev planC (p : Pl) : List AV := [I p.beg, I p.s0l, I p.s0h, I p.s1l, I p.s1h, I p.dl, I p.dh, .sl 5 (p.scenes.map sc)]
abbrev plan (p : Pl) : AV := .agg (planC p)
theorem nats_ints (l : List Nat) : nats l = ints (up l) := by simp [up, List.map_map]
@[simp] theorem inE_nats1 (n : Nat) (l : List Nat) : AV.inE n (l.map fun (x : Nat) => [I (x : Int)]) = true := inE_map fun x _ => by simp [AV.inL, AV.inB]
@[simp] theorem inE_sc (n : Nat) (l : List Sc) : AV.inE n (l.map sc) = true := inE_map fun x _ => by simp [AV.inL, AV.inB]
@[simp] theorem pureE_sc (l : List Sc) : AV.pureE (l.map sc) = true := pureE_map fun x _ => by simp [AV.pureL, AV.pureB]
theorem window_pure (lo hi : Int) : APure Tryz.prog 46 [.agg [I lo, I hi]] (B (wnd lo hi)) := by
  refine ap Tryz.func46 (fun e0 he0 => ?_)
  refine wz 4 ?_
  refine kz az (in3_pure _ _ _) ?_
  refine wz 1 ?_
  refine sz 6 (fun g1 g1' => ?_) (fun g1 g1' => ?_)
  ·refine wz 4 ?_
   refine ky az (in3_pure _ _ _) ?_
   refine wz 2 ?_
   refine sz 13 (fun g2 g2' => ?_) (fun g2 g2' => ?_)
   ·simp only [inn, Bool.and_eq_true, decide_eq_true_eq] at g1' g2'
    refine wz 8 ?_
    exact rz rfl (Less.eq (by simp [wnd, *]))
   refine wz 8 ?_
   exact rz rfl (Less.eq (by simp [wnd, *]))
  refine wz 15 ?_
  exact rz rfl (Less.eq (by simp [wnd, *]))
theorem scenes_pure (p : Pl) (hl : p.scenes.length ≤ 1000000) : APure Tryz.prog 47 [plan p] (B (decide (ScOK p.scenes))) := by
  refine ap Tryz.func47 (fun e0 he0 => ?_)
  refine wz 4 ?_
  refine aw_loopk (ι := { k : Nat // k ≤ p.scenes.length ∧ ∀ i, (h : i < p.scenes.length) → i < k → scBad p.scenes i h = false }) [1] (fun i => [(3, I (loosies (p.scenes.take i.1))), (4, I i.1)]) (fun H i => H) (fun i => p.scenes.length - i.1) (⟨0, Nat.zero_le _, by omega⟩) ⟨jz, jz, jz, trivial⟩ rfl ?_
  rintro ⟨k, hk, hok⟩
  refine nz ?_
  have hlo := loosies_le (p.scenes.take k)
  have hlt := List.length_take_le k p.scenes
  refine wz 5 ?_
  refine iz (fun c1 c1' => ?_) (fun c1 c1' => ?_)
  ·refine wz 7 ?_
   refine aw_draw 50 mo (by kernel_rfl) ?_
   refine dz 2 ?_
   refine dkz az (in3_pure _ _ _) ?_
   refine dz 2 ?_
   refine dsz 22 (fun g2 g2' => ?_) (fun g2 g2' => ?_)
   ·refine dz 45 ?_
    refine wz 2 ?_
    exact rz rfl (Less.eq (by rw [scOK_bad (i := k) (by omega) (by simp [scBad, *])]))
   refine dz 3 ?_
   refine dsz 25 (fun g3 g3' => ?_) (fun g3 g3' => ?_)
   ·have g3n : 0 < k := by omega
    refine dz 6 ?_
    refine dr_yes rfl rfl (less_b g3) rfl (ev_index_map sl43.h jz jz (show ((k : Int) - 1) = ((k - 1 : Nat) : Int) by omega) (by omega)) ?_
    refine dz 6 ?_
    refine dsz 38 (fun g4 g4' => ?_) (fun g4 g4' => ?_)
    ·refine dz 29 ?_
     refine wz 2 ?_
     exact rz rfl (Less.eq (by rw [scOK_bad (i := k) (by omega) (by simp [scBad, *])]))
    refine dz 2 ?_
    refine dky az (in3_pure _ _ _) ?_
    refine dz 3 ?_
    refine dsz 44 (fun g5 g5' => ?_) (fun g5 g5' => ?_)
    ·refine dz 23 ?_
     refine wz 2 ?_
     exact rz rfl (Less.eq (by rw [scOK_bad (i := k) (by omega) (by simp [scBad, *])]))
    refine dz 4 ?_
    refine dky az (in3_pure _ _ _) ?_
    refine dz 3 ?_
    refine dsz 52 (fun g6 g6' => ?_) (fun g6 g6' => ?_)
    ·refine dz 15 ?_
     refine wz 2 ?_
     exact rz rfl (Less.eq (by rw [scOK_bad (i := k) (by omega) (by simp [scBad, *])]))
    refine dz 6 ?_
    refine dky az (in3_pure _ _ _) ?_
    refine dz 3 ?_
    refine dsz 62 (fun g7 g7' => ?_) (fun g7 g7' => ?_)
    ·refine dz 5 ?_
     refine wz 2 ?_
     exact rz rfl (Less.eq (by rw [scOK_bad (i := k) (by omega) (by simp [scBad, *])]))
    refine dz 5 ?_
    refine wz 0 ?_
    refine iz (fun c8 c8' => ?_) (fun c8 c8' => ?_)
    ·refine wz 1 ?_
     exact rz rfl (Less.eq (by rw [scOK_bad (i := k) (by omega) (by simp [scBad, *])]))
    refine wz 2 ?_
    refine iz (fun c9 c9' => ?_) (fun c9 c9' => ?_)
    ·refine vz 6 ?_
     refine sq_nil ?_
     have hstep := loosies_take (l := p.scenes) (k := k) (by omega)
     have hgood : scBad p.scenes k (by omega) = false := by simp [scBad, *]
     exact ⟨⟨k + 1, by omega, fun i h hi => (by by_cases e : i = k; (subst e; exact hgood); exact hok i h (by omega))⟩, by simp only; omega, sb 1 ⟨less_int (by rw [hstep]; simp [*]), jz, jz, trivial⟩⟩
    refine vz 3 ?_
    refine sq_nil ?_
    have hstep := loosies_take (l := p.scenes) (k := k) (by omega)
    have hgood : scBad p.scenes k (by omega) = false := by simp [scBad, *]
    exact ⟨⟨k + 1, by omega, fun i h hi => (by by_cases e : i = k; (subst e; exact hgood); exact hok i h (by omega))⟩, by simp only; omega, sb 1 ⟨less_int (by rw [hstep]; simp [*]), jz, jz, trivial⟩⟩
   have g3n : ¬ (0 < k) := by omega
   refine dz 15 ?_
   refine dky az (in3_pure _ _ _) ?_
   refine dz 3 ?_
   refine dsz 44 (fun g10 g10' => ?_) (fun g10 g10' => ?_)
   ·refine dz 23 ?_
    refine wz 2 ?_
    exact rz rfl (Less.eq (by rw [scOK_bad (i := k) (by omega) (by simp [scBad, *])]))
   refine dz 4 ?_
   refine dky az (in3_pure _ _ _) ?_
   refine dz 3 ?_
   refine dsz 52 (fun g11 g11' => ?_) (fun g11 g11' => ?_)
   ·refine dz 15 ?_
    refine wz 2 ?_
    exact rz rfl (Less.eq (by rw [scOK_bad (i := k) (by omega) (by simp [scBad, *])]))
   refine dz 6 ?_
   refine dky az (in3_pure _ _ _) ?_
   refine dz 3 ?_
   refine dsz 62 (fun g12 g12' => ?_) (fun g12 g12' => ?_)
   ·refine dz 5 ?_
    refine wz 2 ?_
    exact rz rfl (Less.eq (by rw [scOK_bad (i := k) (by omega) (by simp [scBad, *])]))
   refine dz 5 ?_
   refine wz 0 ?_
   refine iz (fun c13 c13' => ?_) (fun c13 c13' => ?_)
   ·refine wz 1 ?_
    exact rz rfl (Less.eq (by rw [scOK_bad (i := k) (by omega) (by simp [scBad, *])]))
   refine wz 2 ?_
   refine iz (fun c14 c14' => ?_) (fun c14 c14' => ?_)
   ·refine vz 6 ?_
    refine sq_nil ?_
    have hstep := loosies_take (l := p.scenes) (k := k) (by omega)
    have hgood : scBad p.scenes k (by omega) = false := by simp [scBad, *]
    exact ⟨⟨k + 1, by omega, fun i h hi => (by by_cases e : i = k; (subst e; exact hgood); exact hok i h (by omega))⟩, by simp only; omega, sb 1 ⟨less_int (by rw [hstep]; simp [*]), jz, jz, trivial⟩⟩
   refine vz 3 ?_
   refine sq_nil ?_
   have hstep := loosies_take (l := p.scenes) (k := k) (by omega)
   have hgood : scBad p.scenes k (by omega) = false := by simp [scBad, *]
   exact ⟨⟨k + 1, by omega, fun i h hi => (by by_cases e : i = k; (subst e; exact hgood); exact hok i h (by omega))⟩, by simp only; omega, sb 1 ⟨less_int (by rw [hstep]; simp [*]), jz, jz, trivial⟩⟩
  refine wz 3 ?_
  exact rz rfl (Less.eq (by rw [scOK_end hk c1' hok]))
theorem nwindow0_pure (p : Pl) : APure Tryz.prog 90 [plan p, I 0] (.agg (spanC p.s0l p.s0h)) := by
  refine ap (rs := [.cell 4 27]) Tryz.func90 (fun e0 he0 => ?_)
  refine wz 4 ?_
  refine iz (fun c1 c1' => ?_) (fun c1 c1' => ?_)
  ·try exact absurd c1' (by decide)
   refine wz 2 ?_
   refine sq_ev rfl (ev_index_box ar28.h jz jz rfl (by decide)) ?_
   refine wz 2 ?_
   exact retQ_res (vs := [.agg _]) rfl rfl ⟨resVar_cell rfl rfl ty27.h rfl, trivial⟩ (Less.eq (by simp))
  try exact absurd (by decide) c1'
theorem nwindow1_pure (p : Pl) : APure Tryz.prog 90 [plan p, I 1] (.agg (spanC p.s1l p.s1h)) := by
  refine ap (rs := [.cell 4 27]) Tryz.func90 (fun e0 he0 => ?_)
  refine wz 4 ?_
  refine iz (fun c1 c1' => ?_) (fun c1 c1' => ?_)
  ·try exact absurd c1' (by decide)
   refine wz 2 ?_
   refine sq_ev rfl (ev_index_box ar28.h jz jz rfl (by decide)) ?_
   refine wz 2 ?_
   exact retQ_res (vs := [.agg _]) rfl rfl ⟨resVar_cell rfl rfl ty27.h rfl, trivial⟩ (Less.eq (by simp))
  try exact absurd (by decide) c1'
theorem nwindow2_pure (p : Pl) : APure Tryz.prog 90 [plan p, I 2] (.agg (spanC p.dl p.dh)) := by
  refine ap (rs := [.cell 4 27]) Tryz.func90 (fun e0 he0 => ?_)
  refine wz 4 ?_
  refine iz (fun c1 c1' => ?_) (fun c1 c1' => ?_)
  ·try exact absurd c1' (by decide)
  try exact absurd (by decide) c1'
  refine wz 3 ?_
  exact retQ_res (vs := [.agg _]) rfl rfl ⟨resVar_cell rfl rfl ty27.h rfl, trivial⟩ (Less.eq (by simp))
theorem nwindow_pure (p : Pl) (k : Nat) (h : k < 3) : APure Tryz.prog 90 [plan p, I k] (.agg (spanC (wl p k) (wh p k))) := by
  rcases k with _ | _ | _ | k
  · exact nwindow0_pure p
  · exact nwindow1_pure p
  · exact nwindow2_pure p
  · omega
theorem niswindow_pure (a b : Int) : APure Tryz.prog 89 [.agg [I a, I b]] (B (wnd a b)) := by
  refine ap Tryz.func89 (fun e0 he0 => ?_)
  refine wz 4 ?_
  refine kz az (inN_pure _ _ _) ?_
  refine wz 1 ?_
  refine sz 6 (fun g1 g1' => ?_) (fun g1 g1' => ?_)
  ·refine wz 4 ?_
   refine ky az (inN_pure _ _ _) ?_
   refine wz 2 ?_
   refine sz 13 (fun g2 g2' => ?_) (fun g2 g2' => ?_)
   ·simp only [inn, Bool.and_eq_true, decide_eq_true_eq] at g1' g2'
    refine wz 8 ?_
    exact rz rfl (Less.eq (by simp [wnd, *]))
   refine wz 8 ?_
   exact rz rfl (Less.eq (by simp [wnd, *]))
  refine wz 15 ?_
  exact rz rfl (Less.eq (by simp [wnd, *]))
def prevP (l : List Sc) (k : Nat) : Int := if k = 0 then 0 else (l.getD (k - 1) default).part
theorem prevP_succ {l : List Sc} {k : Nat} (h : k < l.length) : prevP l (k + 1) = l[k].part := by simp [prevP, List.getD_eq_getElem?_getD, h]
theorem prevP_nn {l : List Sc} {k : Nat} (hk : k ≤ l.length) (hok : ∀ i, (h : i < l.length) → i < k → scBad l i h = false) : 0 ≤ prevP l k := by
  unfold prevP
  split
  · omega
  · have := hok (k - 1) (by omega) (by omega)
    simp [scBad, inn] at this
    rw [List.getD_eq_getElem?_getD, List.getElem?_eq_getElem (by omega)]
    exact this.1.1.1.1.1.1
theorem part_ok {l : List Sc} {k : Nat} (h : k < l.length) (hok : ∀ i, (h : i < l.length) → i < k → scBad l i h = false) :
    inn l[k].part (prevP l k) 2 = (inn l[k].part 0 2 && !(decide (0 < k) && decide (l[k].part < (l[k - 1]'(by omega)).part))) := by
  have hp := prevP_nn (by omega) hok
  rw [Bool.eq_iff_iff]
  unfold prevP at hp ⊢
  by_cases h0 : k = 0
  · subst h0; simp [inn]
  · simp only [if_neg h0] at hp ⊢
    rw [List.getD_eq_getElem?_getD, List.getElem?_eq_getElem (by omega)] at hp ⊢
    simp only [Option.getD_some] at hp ⊢
    simp [inn]
    omega
theorem part_ok' {l : List Sc} {k : Nat} (h : k < l.length) (hok : ∀ i, (h : i < l.length) → i < k → scBad l i h = false) :
    (!inn l[k].part 0 2 || (decide (0 < k) && decide (l[k].part < (l[k - 1]'(by omega)).part))) = !inn l[k].part (prevP l k) 2 := by
  rw [part_ok h hok]
  cases inn l[k].part 0 2 <;> simp
theorem wins_ok {p : Pl} {k : Nat} (hk : ¬ (k : Int) < 3) (h3 : k ≤ 3) (h : ∀ j, j < k → wnd (wl p j) (wh p j) = true) : wnd p.s0l p.s0h = true ∧ wnd p.s1l p.s1h = true ∧ wnd p.dl p.dh = true :=
  ⟨h 0 (by omega), h 1 (by omega), h 2 (by omega)⟩
theorem wins_bad {p : Pl} {k : Nat} (hk : k < 3) (h : wnd (wl p k) (wh p k) = false) : (wnd p.s0l p.s0h && wnd p.s1l p.s1h && wnd p.dl p.dh) = false := by
  rcases k with _ | _ | _ | k
  · simp [wl, wh] at h; simp [h]
  · simp [wl, wh] at h; simp [h]
  · simp [wl, wh] at h; simp [h]
  · omega
theorem isplan_pure (p : Pl) (hl : p.scenes.length ≤ 1000000) : APure Tryz.prog 49 [plan p] (B (PlOK p)) := by
  refine ap Tryz.func49 (fun e0 he0 => ?_)
  refine wz 4 ?_
  refine kz az (inN_pure _ _ _) ?_
  refine wz 2 ?_
  refine sz 12 (fun g1 g1' => ?_) (fun g1 g1' => ?_)
  ·refine wz 8 ?_
   exact rz rfl (Less.eq (by simp_all [PlOK]))
  refine wz 3 ?_
  refine ky az (inN_pure _ _ _) ?_
  refine wz 2 ?_
  refine iz (fun c2 c2' => ?_) (fun c2 c2' => ?_)
  ·refine wz 1 ?_
   exact rz rfl (Less.eq (by simp_all [PlOK]))
  refine wz 1 ?_
  refine aw_loopk (ι := { k : Nat // k ≤ 3 ∧ ∀ j, j < k → wnd (wl p j) (wh p j) = true }) [1] (fun i => [(19, I i.1)]) (fun H i => H) (fun i => 3 - i.1) (⟨0, by omega, by omega⟩) ⟨jz, jz, trivial⟩ rfl ?_
  rintro ⟨k, k3, hw⟩
  refine nz ?_
  refine wz 1 ?_
  refine iz (fun c3 c3' => ?_) (fun c3 c3' => ?_)
  ·refine wz 4 ?_
   refine kz az (nwindow_pure _ _ (by omega)) ?_
   refine kz az (niswindow_pure _ _) ?_
   refine wz 1 ?_
   refine iz (fun c4 c4' => ?_) (fun c4 c4' => ?_)
   ·refine wz 1 ?_
    exact rz rfl (Less.eq (by have h := wins_bad (p := p) (k := k) (by omega) c4'; simp [PlOK, g1', c2']; intro h1 h2 h3; rw [h1, h2, h3] at h; cases h))
   refine wz 2 ?_
   exact ⟨⟨k + 1, by omega, fun j h => (by by_cases e : j = k; (subst e; assumption); exact hw j (by omega))⟩, by simp only; omega, sb 1 ⟨jz, jz, trivial⟩⟩
  refine vz 6 ?_
  refine sq_nil ?_
  refine aw_block ?_
  obtain ⟨w1, w2, w3⟩ := wins_ok c3' k3 hw
  refine aw_loopk (ι := { k : Nat // k ≤ p.scenes.length ∧ ∀ i, (h : i < p.scenes.length) → i < k → scBad p.scenes i h = false }) [1, 29, 30] (fun i => [(31, I i.1), (4, I (prevP p.scenes i.1)), (5, I (loosies (p.scenes.take i.1)))]) (fun H i => H) (fun i => p.scenes.length - i.1) (⟨0, Nat.zero_le _, by omega⟩) ⟨jz, jz, jz, jz, jz, jz, trivial⟩ rfl ?_
  rintro ⟨k, hk, hok⟩
  refine nz ?_
  have hlo := loosies_le (p.scenes.take k)
  have hlt := List.length_take_le k p.scenes
  refine wz 1 ?_
  refine iz (fun c5 c5' => ?_) (fun c5 c5' => ?_)
  ·refine wz 9 ?_
   refine kz az (inN_pure _ _ _) ?_
   refine wz 2 ?_
   refine sz 41 (fun g6 g6' => ?_) (fun g6 g6' => ?_)
   ·refine wz 31 ?_
    exact rz rfl (Less.eq (by have h : scBad p.scenes k (by omega) = true := (by simp only [scBad, part_ok' (l := p.scenes) (k := k) (by omega) hok]; simp [*]); simp only [PlOK, scOK_bad (by omega) h, Bool.and_false]))
   refine wz 2 ?_
   refine ky az (inN_pure _ _ _) ?_
   refine wz 3 ?_
   refine sz 47 (fun g7 g7' => ?_) (fun g7 g7' => ?_)
   ·refine wz 25 ?_
    exact rz rfl (Less.eq (by have h : scBad p.scenes k (by omega) = true := (by simp only [scBad, part_ok' (l := p.scenes) (k := k) (by omega) hok]; simp [*]); simp only [PlOK, scOK_bad (by omega) h, Bool.and_false]))
   refine wz 4 ?_
   refine ky az (inN_pure _ _ _) ?_
   refine wz 3 ?_
   refine sz 55 (fun g8 g8' => ?_) (fun g8 g8' => ?_)
   ·refine wz 17 ?_
    exact rz rfl (Less.eq (by have h : scBad p.scenes k (by omega) = true := (by simp only [scBad, part_ok' (l := p.scenes) (k := k) (by omega) hok]; simp [*]); simp only [PlOK, scOK_bad (by omega) h, Bool.and_false]))
   refine wz 6 ?_
   refine ky az (inN_pure _ _ _) ?_
   refine wz 3 ?_
   refine sz 65 (fun g9 g9' => ?_) (fun g9 g9' => ?_)
   ·refine wz 7 ?_
    exact rz rfl (Less.eq (by have h : scBad p.scenes k (by omega) = true := (by simp only [scBad, part_ok' (l := p.scenes) (k := k) (by omega) hok]; simp [*]); simp only [PlOK, scOK_bad (by omega) h, Bool.and_false]))
   refine wz 5 ?_
   refine iz (fun c10 c10' => ?_) (fun c10 c10' => ?_)
   ·refine wz 1 ?_
    exact rz rfl (Less.eq (by have h : scBad p.scenes k (by omega) = true := (by simp only [scBad, part_ok' (l := p.scenes) (k := k) (by omega) hok]; simp [*]); simp only [PlOK, scOK_bad (by omega) h, Bool.and_false]))
   refine wz 5 ?_
   refine iz (fun c11 c11' => ?_) (fun c11 c11' => ?_)
   ·refine vz 5 ?_
    refine sq_nil ?_
    have hstep := loosies_take (l := p.scenes) (k := k) (by omega)
    have hgood : scBad p.scenes k (by omega) = false := by (simp only [scBad, part_ok' (l := p.scenes) (k := k) (by omega) hok]; simp [*])
    exact ⟨⟨k + 1, by omega, fun i h hi => (by by_cases e : i = k; (subst e; exact hgood); exact hok i h (by omega))⟩, by simp only; omega, sb 1 ⟨jz, less_int (prevP_succ (by omega)).symm, less_int (by rw [hstep]; simp [*]), jz, jz, jz, trivial⟩⟩
   refine vz 2 ?_
   refine sq_nil ?_
   have hstep := loosies_take (l := p.scenes) (k := k) (by omega)
   have hgood : scBad p.scenes k (by omega) = false := by (simp only [scBad, part_ok' (l := p.scenes) (k := k) (by omega) hok]; simp [*])
   exact ⟨⟨k + 1, by omega, fun i h hi => (by by_cases e : i = k; (subst e; exact hgood); exact hok i h (by omega))⟩, by simp only; omega, sb 1 ⟨jz, less_int (prevP_succ (by omega)).symm, less_int (by rw [hstep]; simp [*]), jz, jz, jz, trivial⟩⟩
  refine wz 3 ?_
  exact rz rfl (Less.eq (by rw [scOK_end hk c5' hok]; simp [PlOK, w1, w2, w3, g1', c2']))
end Go.Proofs.YtnbjaepkbabkhaaGreat
namespace Go.Proofs.YtnbjaepkbabkhaaGreat
open Go Go.Ab Ni
instance ar225 : ArE Tryz.prog 225 4 27 2 := ⟨by kernel_rfl⟩
instance ar228 : ArE Tryz.prog 228 2 161 1 := ⟨by kernel_rfl⟩
instance bi222 : BdI Tryz.prog 222 [.raw (.int .i64 0), .raw (.int .i64 0)] true [(0, 1), (1, 1)] 0 := ⟨by kernel_rfl⟩
instance bi228 : BdI Tryz.prog 228 [.raw .nilFunc, .raw .nilFunc] false [] 1 := ⟨by kernel_rfl⟩
instance bi27 : BdI Tryz.prog 27 [.raw (.int .i64 0), .raw (.int .i64 0)] true [(0, 1), (1, 1)] 0 := ⟨by kernel_rfl⟩
instance en145 : EnT Tryz.prog 145 := ⟨Ent.of Tryz.func145 (by kernel_rfl) rfl⟩
instance en146 : EnT Tryz.prog 146 := ⟨Ent.of Tryz.func146 (by kernel_rfl) rfl⟩
instance en179 : EnT Tryz.prog 179 := ⟨Ent.of Tryz.func179 (by kernel_rfl) rfl⟩
instance en180 : EnT Tryz.prog 180 := ⟨Ent.of Tryz.func180 (by kernel_rfl) rfl⟩
instance en95 : EnT Tryz.prog 95 := ⟨Ent.of Tryz.func95 (by kernel_rfl) rfl⟩
instance en96 : EnT Tryz.prog 96 := ⟨Ent.of Tryz.func96 (by kernel_rfl) rfl⟩
instance fo130_0 : FoF Tryz.prog 130 0 0 45 := ⟨by kernel_rfl⟩
instance fo130_1 : FoF Tryz.prog 130 1 8 31 := ⟨by kernel_rfl⟩
instance ni222 : NiF Tryz.prog 222 := ⟨by kernel_rfl⟩
instance ty130 : TyF Tryz.prog 130 true 9 := ⟨by kernel_rfl⟩
instance ty161 : TyF Tryz.prog 161 false 1 := ⟨by kernel_rfl⟩
instance ty225 : TyF Tryz.prog 225 true 8 := ⟨by kernel_rfl⟩
instance ty228 : TyF Tryz.prog 228 true 2 := ⟨by kernel_rfl⟩
instance z225 : ZeO Tryz.prog 225 [.raw (.int .i64 0), .raw (.int .i64 0), .raw (.int .i64 0), .raw (.int .i64 0), .raw (.int .i64 0), .raw (.int .i64 0), .raw (.int .i64 0), .raw (.int .i64 0)] := ⟨by kernel_rfl⟩
instance z228 : ZeO Tryz.prog 228 [.raw .nilFunc, .raw .nilFunc] := ⟨by kernel_rfl⟩
abbrev playedC (p : Pl) (l : List Nat) : List AV := [I p.beg, I p.s0l, I p.s0h, I p.s1l, I p.s1h, I p.dl, I p.dh, .sl 5 (p.scenes.map sc), nats l]
abbrev played (p : Pl) (l : List Nat) : AV := .agg (playedC p l)
theorem nsum_pure (l : List Int) (hb : ∀ x ∈ l, 0 ≤ x ∧ x ≤ 10000) (hl : l.length ≤ 1000000) : APure Tryz.prog 180 [ints l] (I l.sum) := by
  refine ap Tryz.func180 (fun e0 he0 => ?_)
  refine wz 5 ?_
  refine aw_loopk (ι := { k : Nat // k ≤ l.length }) [6, 7] (fun i => [(8, I i.1), (3, I (l.take i.1).sum)]) (fun H i => H) (fun i => l.length - i.1) (⟨0, Nat.zero_le _⟩) ⟨jz, jz, jz, jz, trivial⟩ rfl ?_
  rintro ⟨k, hk⟩
  refine nz ?_
  have h1 := isum_bd_take hb hl k
  refine wz 1 ?_
  refine iz (fun c1 c1' => ?_) (fun c1 c1' => ?_)
  ·have hk' : k < l.length := by omega
   have hv := hb _ (List.getElem_mem hk')
   refine wz 9 ?_
   exact ⟨⟨k + 1, by omega⟩, by simp only; omega, Sub.slots ⟨jz, less_int (isum_take hk').symm, jz, jz, trivial⟩⟩
  obtain rfl : k = l.length := by omega
  refine wz 2 ?_
  exact rz rfl (Less.eq (by simp))
theorem nleast_pure (p : Pl) (l xs : List Nat) (gp : GP p) (cv : CV p xs) : APure Tryz.prog 145 [played p l, nats xs] (I (lsum p xs)) := by
  refine ap Tryz.func145 (fun e0 he0 => ?_)
  refine vz 6 ?_
  refine sq_nil ?_
  refine aw_block ?_
  refine aw_sub (sub_token 5 1 jz) ?_
  refine aw_loopk (ι := { k : Nat // k ≤ xs.length }) [2, 8, 9] (fun i => [(10, I i.1), (5, .own 1 1 (((xs.take i.1).map fun x => (scn p x).least).map fun x => [I x]))]) (fun H i => H.set 1 (.tok (((xs.take i.1).map fun x => (scn p x).least).map fun x => [I x]).length)) (fun i => xs.length - i.1) (⟨0, Nat.zero_le _⟩) ⟨jz, jz, jz, jz, jz, trivial⟩ rfl ?_
  rintro ⟨k, hk⟩
  refine nz ?_
  have hl1 := cv.len
  have hl2 := gp.len
  refine wz 1 ?_
  refine iz (fun c1 c1' => ?_) (fun c1 c1' => ?_)
  ·have hk' : k < xs.length := by omega
   have hlt := cv.rng _ (List.getElem_mem hk')
   have he := scn_eq hlt
   have eS : ((xs.take (k + 1)).map fun x => (scn p x).least).map (fun x => [I x]) = ((xs.take k).map fun x => (scn p x).least).map (fun x => [I x]) ++ [[I (p.scenes[xs[k]]).least]] := by rw [map_take_succ _ hk', List.map_append, he]; rfl
   refine wz 11 ?_
   refine sq_ev rfl (ev_buildSlice (es := [[_]]) sf31.h rfl rfl rfl rfl) ?_
   first | refine sq_append rfl sf31.h Tryz.underlying31 rfl rfl jz (Nat.succ_pos _) (by simp; omega) (by simp; omega) ?_ | refine sq_append rfl sf31.h Tryz.underlying31 rfl rfl (less_slx _ _) (Nat.succ_pos _) (by simp; omega) (by simp; omega) ?_
   refine wz 3 ?_
   exact ⟨⟨k + 1, by omega⟩, by simp only; omega, sb 2 ⟨jz, Less.eq (b := .own 1 1 (((xs.take (k + 1)).map fun x => (scn p x).least).map fun x => [I x])) (by rw [eS] <;> rfl), jz, jz, jz, trivial⟩ (hH := (congrArg (fun n => [_, AObj.tok n]) (congrArg List.length eS.symm))) (h1 := by simp [slotsIn, objsIn, sget, keepS, AObj.inB, AV.inB, AV.inL, AV.inE, inE_map, inE_ints, inE_sc, -List.map_append, -List.map_take, -List.map_map]) (h2 := by simp [slotsIn, objsIn, sget, keepS, AObj.inB, AV.inB, AV.inL, AV.inE, inE_map, inE_ints, inE_sc, -List.map_append, -List.map_take, -List.map_map])⟩
  obtain rfl : k = xs.length := by omega
  refine wz 1 ?_
  refine sq_ev rfl (ev_call en180.h jz (nsum_pure (leasts p xs) (leasts_mem gp cv) (by simp [leasts]; have := cv.len; omega)) ⟨Less.trans (less_own _ _ _) (Less.eq (by simp [leasts])), trivial⟩) ?_
  refine wz 1 ?_
  exact rz rfl (Less.eq (by simp [lsum]))
theorem nmost_pure (p : Pl) (l xs : List Nat) (gp : GP p) (cv : CV p xs) : APure Tryz.prog 146 [played p l, nats xs] (I (hsum p xs)) := by
  refine ap Tryz.func146 (fun e0 he0 => ?_)
  refine vz 6 ?_
  refine sq_nil ?_
  refine aw_block ?_
  refine aw_sub (sub_token 5 1 jz) ?_
  refine aw_loopk (ι := { k : Nat // k ≤ xs.length }) [2, 8, 9] (fun i => [(10, I i.1), (5, .own 1 1 (((xs.take i.1).map fun x => (scn p x).most).map fun x => [I x]))]) (fun H i => H.set 1 (.tok (((xs.take i.1).map fun x => (scn p x).most).map fun x => [I x]).length)) (fun i => xs.length - i.1) (⟨0, Nat.zero_le _⟩) ⟨jz, jz, jz, jz, jz, trivial⟩ rfl ?_
  rintro ⟨k, hk⟩
  refine nz ?_
  have hl1 := cv.len
  have hl2 := gp.len
  refine wz 1 ?_
  refine iz (fun c1 c1' => ?_) (fun c1 c1' => ?_)
  ·have hk' : k < xs.length := by omega
   have hlt := cv.rng _ (List.getElem_mem hk')
   have he := scn_eq hlt
   have eS : ((xs.take (k + 1)).map fun x => (scn p x).most).map (fun x => [I x]) = ((xs.take k).map fun x => (scn p x).most).map (fun x => [I x]) ++ [[I (p.scenes[xs[k]]).most]] := by rw [map_take_succ _ hk', List.map_append, he]; rfl
   refine wz 11 ?_
   refine sq_ev rfl (ev_buildSlice (es := [[_]]) sf31.h rfl rfl rfl rfl) ?_
   first | refine sq_append rfl sf31.h Tryz.underlying31 rfl rfl jz (Nat.succ_pos _) (by simp; omega) (by simp; omega) ?_ | refine sq_append rfl sf31.h Tryz.underlying31 rfl rfl (less_slx _ _) (Nat.succ_pos _) (by simp; omega) (by simp; omega) ?_
   refine wz 3 ?_
   exact ⟨⟨k + 1, by omega⟩, by simp only; omega, sb 2 ⟨jz, Less.eq (b := .own 1 1 (((xs.take (k + 1)).map fun x => (scn p x).most).map fun x => [I x])) (by rw [eS] <;> rfl), jz, jz, jz, trivial⟩ (hH := (congrArg (fun n => [_, AObj.tok n]) (congrArg List.length eS.symm))) (h1 := by simp [slotsIn, objsIn, sget, keepS, AObj.inB, AV.inB, AV.inL, AV.inE, inE_map, inE_ints, inE_sc, -List.map_append, -List.map_take, -List.map_map]) (h2 := by simp [slotsIn, objsIn, sget, keepS, AObj.inB, AV.inB, AV.inL, AV.inE, inE_map, inE_ints, inE_sc, -List.map_append, -List.map_take, -List.map_map])⟩
  obtain rfl : k = xs.length := by omega
  refine wz 1 ?_
  refine sq_ev rfl (ev_call en180.h jz (nsum_pure (mosts p xs) (mosts_mem gp cv) (by simp [mosts]; have := cv.len; omega)) ⟨Less.trans (less_own _ _ _) (Less.eq (by simp [mosts])), trivial⟩) ?_
  refine wz 1 ?_
  exact rz rfl (Less.eq (by simp [hsum]))
theorem nof_pure (p : Pl) (l : List Nat) (part : Int) (gp : GP p) (cv : CV p l) : APure Tryz.prog 96 [played p l, I part] (nats (ofP p l part)) := by
  refine ap Tryz.func96 (fun e0 he0 => ?_) (hr := by simp [AV.pureL, AV.pureB, AV.pureE, pureE_map])
  refine vz 7 ?_
  refine sq_nil ?_
  refine aw_block ?_
  refine aw_sub (sub_token 5 1 jz) ?_
  refine aw_loopk (ι := { k : Nat // k ≤ l.length }) [1, 2, 9, 10] (fun i => [(11, I i.1), (5, .own 1 1 (((l.take i.1).filter (inPart p part)).map fun (x : Nat) => [I x]))]) (fun H i => H.set 1 (.tok (((l.take i.1).filter (inPart p part)).map fun (x : Nat) => [I x]).length)) (fun i => l.length - i.1) (⟨0, Nat.zero_le _⟩) ⟨jz, jz, jz, jz, jz, jz, trivial⟩ rfl ?_
  rintro ⟨k, hk⟩
  refine nz ?_
  have hl1 := cv.len
  have hl2 := gp.len
  have hft := ft_len (inPart p part) l k
  refine wz 1 ?_
  refine iz (fun c1 c1' => ?_) (fun c1 c1' => ?_)
  ·have hk' : k < l.length := by omega
   have hlt := cv.rng _ (List.getElem_mem hk')
   have he := scn_eq hlt
   refine wz 12 ?_
   refine iz (fun c2 c2' => ?_) (fun c2 c2' => ?_)
   ·have eS : ((l.take (k + 1)).filter (inPart p part)).map (fun (x : Nat) => [I x]) = ((l.take k).filter (inPart p part)).map (fun (x : Nat) => [I x]) ++ [[I l[k]]] := by rw [filter_take_succ _ hk', if_pos (by simp [inPart, he, c2']), List.map_append]; rfl
    refine wz 2 ?_
    refine sq_ev rfl (ev_buildSlice (es := [[_]]) sf31.h rfl rfl rfl rfl) ?_
    first | refine sq_append rfl sf31.h Tryz.underlying31 rfl rfl jz (Nat.succ_pos _) (by simp; omega) (by simp; omega) ?_ | refine sq_append rfl sf31.h Tryz.underlying31 rfl rfl (less_slx _ _) (Nat.succ_pos _) (by simp; omega) (by simp; omega) ?_
    refine wz 3 ?_
    exact ⟨⟨k + 1, by omega⟩, by simp only; omega, sb 2 ⟨jz, Less.eq (b := .own 1 1 (((l.take (k + 1)).filter (inPart p part)).map fun (x : Nat) => [I x])) (by rw [eS] <;> rfl), jz, jz, jz, jz, trivial⟩ (hH := (congrArg (fun n => [_, AObj.tok n]) (congrArg List.length eS.symm))) (h1 := by simp [slotsIn, objsIn, sget, keepS, AObj.inB, AV.inB, AV.inL, AV.inE, inE_map, inE_ints, inE_sc, -List.map_append, -List.map_take, -List.map_map]) (h2 := by simp [slotsIn, objsIn, sget, keepS, AObj.inB, AV.inB, AV.inL, AV.inE, inE_map, inE_ints, inE_sc, -List.map_append, -List.map_take, -List.map_map])⟩
   have eS : ((l.take (k + 1)).filter (inPart p part)).map (fun (x : Nat) => [I x]) = ((l.take k).filter (inPart p part)).map (fun (x : Nat) => [I x]) := by rw [filter_take_succ _ hk', if_neg (by simp [inPart, he, c2']), List.append_nil]
   refine wz 2 ?_
   exact ⟨⟨k + 1, by omega⟩, by simp only; omega, sb 2 ⟨jz, Less.eq (b := .own 1 1 (((l.take (k + 1)).filter (inPart p part)).map fun (x : Nat) => [I x])) (by rw [eS] <;> rfl), jz, jz, jz, jz, trivial⟩ (hH := (congrArg (fun n => [_, AObj.tok n]) (congrArg List.length eS.symm))) (h1 := by simp [slotsIn, objsIn, sget, keepS, AObj.inB, AV.inB, AV.inL, AV.inE, inE_map, inE_ints, inE_sc, -List.map_append, -List.map_take, -List.map_map]) (h2 := by simp [slotsIn, objsIn, sget, keepS, AObj.inB, AV.inB, AV.inL, AV.inE, inE_map, inE_ints, inE_sc, -List.map_append, -List.map_take, -List.map_map])⟩
  obtain rfl : k = l.length := by omega
  refine wz 2 ?_
  exact retQ_pure (v := .own _ _ _) rfl rfl (Less.trans (less_own _ _ _) (Less.eq (by simp [ofP])))
theorem nboth_pure (a b c d : Int) : APure Tryz.prog 179 [.agg [I a, I b], .agg [I c, I d]] (.agg [I (max a c), I (min b d)]) := by
  refine ap (rs := [.cell 4 27]) Tryz.func179 (fun e0 he0 => ?_)
  refine wz 15 ?_
  exact retQ_res (vs := [.agg _]) rfl rfl ⟨resVar_cell rfl rfl ty27.h rfl, trivial⟩ (Less.eq (by simp))
theorem nlasts_pure (p : Pl) (l xs : List Nat) (gp : GP p) (cv : CV p xs) : APure Tryz.prog 95 [played p l, nats xs] (.agg [I (lsum p xs), I (hsum p xs)]) := by
  refine ap (rs := [.cell 4 27]) Tryz.func95 (fun e0 he0 => ?_)
  refine wz 9 ?_
  refine aw_draw 9 mo (by kernel_rfl) ?_
  refine dz 3 ?_
  refine dr_ev rfl (ev_call en145.h jz (nleast_pure p l xs gp cv) ⟨jz, jz, trivial⟩) ?_
  refine dz 3 ?_
  refine dr_ev rfl (ev_call en146.h jz (nmost_pure p l xs gp cv) ⟨jz, jz, trivial⟩) ?_
  refine dz 1 ?_
  refine wz 1 ?_
  exact retQ_res (vs := [.agg _]) rfl rfl ⟨resVar_cell rfl rfl ty27.h rfl, trivial⟩ (Less.eq (by simp))
abbrev fwc (p : Pl) (l : List Nat) (k : Nat) : List AV := [I (fw p l 0).1, I (fw p l 0).2, I (if 0 < k then (fw p l 1).1 else 0), I (if 0 < k then (fw p l 1).2 else 0), I (if 1 < k then (fw p l 2).1 else 0), I (if 1 < k then (fw p l 2).2 else 0), I (if 2 < k then (fw p l 3).1 else 0), I (if 2 < k then (fw p l 3).2 else 0)]
def fwR (p : Pl) (l : List Nat) : ARes → Prop := fun x => match ffail p l with
  | none => x = .ret (.agg (fwc p l 3))
  | some (k, f) => x = .pan (.ifc 222 (.agg [I k, I f]))
theorem nlastsP_pure (p : Pl) (l : List Nat) (k : Nat) (gp : GP p) (cv : CV p l) : APure Tryz.prog 95 [played p l, nats (ofP p l (k : Int))] (.agg [I (pl p l k), I (ph p l k)]) := nlasts_pure p l (ofP p l k) gp (ofP_cv cv _)
theorem nforward_pan (p : Pl) (l : List Nat) (gp : GP p) (cv : CV p l) : APan Tryz.prog 144 [played p l] (fwR p l) := by
  refine APan.of_acall (by simp [AV.pureL, AV.pureB, AV.pureE, pureE_map]) (acall_of (rs := [.cell 2 225]) Tryz.func144 rfl rfl (Nat.le_of_ble_eq_true rfl) fun e0 he0 => ?_)
  refine wz 13 ?_
  refine aw_loopk (ι := { k : Nat // k ≤ 3 ∧ ∀ j, j < k → flt p l j = 0 }) [1, 2, 3] (fun i => [(16, I i.1)]) (fun H i => H.set 2 (.cells (fwc p l i.1))) (fun i => 3 - i.1) (⟨0, by omega, by omega⟩) ⟨jz, jz, jz, jz, trivial⟩ rfl ?_
  rintro ⟨k, hk, hno⟩
  refine nz ?_
  refine wz 1 ?_
  refine iz (fun c1 c1' => ?_) (fun c1 c1' => ?_)
  ·have hk3 : k < 3 := by omega
   have b1 := fw_bd gp cv k
   have b2 : 0 ≤ pl p l k ∧ pl p l k ≤ 10000000 := lsum_bd gp (ofP_cv cv _)
   have b3 : 0 ≤ ph p l k ∧ ph p l k ≤ 10000000 := hsum_bd gp (ofP_cv cv _)
   refine wz 2 ?_
   refine aw_draw 11 mo (by kernel_rfl) ?_
   refine dz 3 ?_
   refine dkz az (nof_pure p l (k : Int) gp cv) ?_
   refine dkz az (nlastsP_pure p l k gp cv) ?_
   refine dz 3 ?_
   refine dkz az (nwindow_pure p k hk3) ?_
   refine dr_alloc rfl z27.h ?_
   refine dr_alloc rfl z27.h ?_
   refine dr_end ?_
   refine wz 2 ?_
   refine aw_draw 16 mo (by kernel_rfl) ?_
   refine dz 1 ?_
   refine dr_ev rfl (ev_index_box ar225.h jz jz rfl (by omega)) ?_
   refine dz 1 ?_
   refine dr_ev rfl (ev_load (v := I (fw p l k).1) jz rfl ty3.h (by rcases k with _ | _ | _ | k <;> first | rfl | omega)) ?_
   refine dz 4 ?_
   refine dr_ev rfl (ev_index_box ar225.h jz jz rfl (by omega)) ?_
   refine dz 1 ?_
   refine dr_ev rfl (ev_load (v := I (fw p l k).2) jz rfl ty3.h (by rcases k with _ | _ | _ | k <;> first | rfl | omega)) ?_
   refine dz 4 ?_
   refine dr_alloc rfl z27.h ?_
   refine dr_end ?_
   refine wz 7 ?_
   refine iz (fun c2 c2' => ?_) (fun c2 c2' => ?_)
   ·refine wz 3 ?_
    refine sq_panic jz ?_
    have hf : flt p l k = 1 := by simp [flt, *]
    exact ⟨rfl, .pan (.ifc 222 (.agg [I k, I 1])), (by rw [fwR, ffail_some hk3 hno (by rw [hf]; decide), hf]), rfl, jz⟩
   refine wz 6 ?_
   refine iz (fun c3 c3' => ?_) (fun c3 c3' => ?_)
   ·refine wz 3 ?_
    refine sq_panic jz ?_
    have hf : flt p l k = 2 := by simp only [flt]; rw [if_neg (by omega), if_pos (by omega)]
    exact ⟨rfl, .pan (.ifc 222 (.agg [I k, I 2])), (by rw [fwR, ffail_some hk3 hno (by rw [hf]; decide), hf]), rfl, jz⟩
   refine wz 4 ?_
   refine kz az (nboth_pure _ _ _ _) ?_
   refine sq_ev rfl (ev_index_box (k := k + 1) ar225.h jz jz (by omega) (by omega)) ?_
   refine sq_store rfl jz jz rfl rfl ty27.h rfl (by rcases k with _ | _ | _ | k <;> first | rfl | omega) ?_
   refine vz 2 ?_
   refine sq_nil ?_
   have hf0 : flt p l k = 0 := by simp [flt, *]
   exact ⟨⟨k + 1, by omega, fun j hj => (by by_cases e : j = k; (subst e; exact hf0); exact hno j (by omega))⟩, by simp only; omega, sb 3 ⟨jz, jz, jz, jz, trivial⟩ (hH := (by rcases k with _ | _ | _ | k <;> first | rfl | omega)) (h1 := by simp [slotsIn, objsIn, sget, keepS, AObj.inB, AV.inB, AV.inL, AV.inE, inE_map, inE_ints, inE_sc, -List.map_append, -List.map_take, -List.map_map]) (h2 := by simp [slotsIn, objsIn, sget, keepS, AObj.inB, AV.inB, AV.inL, AV.inE, inE_map, inE_ints, inE_sc, -List.map_append, -List.map_take, -List.map_map])⟩
  obtain rfl : k = 3 := by omega
  refine wz 2 ?_
  exact retQ_any (vs := [.agg _]) rfl rfl ⟨resVar_cell rfl rfl ty225.h rfl, trivial⟩ (⟨.ret (.agg (fwc p l 3)), (by rw [fwR, ffail_none hno]), rfl, Less.eq (by simp)⟩)
end Go.Proofs.YtnbjaepkbabkhaaGreat
