/-
  A part of the proof: conditions: none beyond each theorem's own.
-/
import Derived.Test.YtjpokekbjmdgmaaGreatDoorSpecA
import Derived.Test.YtjpokekbjmdgmaaGreatDoorLogicD
import Derived.Test.YtjpokekbjmdgmaaGreatDoorLogicC
import Derived.Test.YtjpokekbjmdgmaaGreatDoorProg
import Derived.KernelRfl
import Derived.Lib.LaidTab
import Derived.Lib.ItoaNum
set_option linter.all false
set_option maxRecDepth 100000
set_option maxHeartbeats 8000000
namespace Go.Proofs.YtjpokekbjmdgmaaGreatDoor
open Go Go.Ab Ni Hd
instance tabs : Tabs where
  blk b := Tryz.prog.globalNamed "internal/bytealg.MaxLen" = some b ∨ Tryz.prog.globalNamed "internal/strconv.uint64pow10" = some b
  is w := (∃ b m, Tryz.prog.globalNamed "internal/bytealg.MaxLen" = some b ∧ w.cell? ⟨b, 0, none⟩ = some (.int .i64 m)) ∧ Lib.TabIs Tryz.prog w "internal/strconv.uint64pow10" .u64 Lib.pow10Tab
  mono h k := ⟨by obtain ⟨b, m, hb, hm⟩ := k.1; exact ⟨b, m, hb, by have e := h b (.inl hb); unfold World.cell? at hm ⊢; simp only [e]; exact hm⟩, by
    have k2 := k.2
    unfold Lib.TabIs World.var? at k2 ⊢
    cases hg : Tryz.prog.globalNamed "internal/strconv.uint64pow10" with
    | none => rw [hg] at k2; exact k2
    | some g => rw [hg] at k2; simp only [Option.bind_some] at k2 ⊢; rw [h g (.inr hg)]; exact k2⟩
abbrev I (n : Int) : AV := .raw (.int .i64 n)
abbrev B (b : Bool) : AV := .raw (.bool b)
abbrev C (c : UInt8) : AV := .raw (.int .u8 c.toNat)
abbrev ints (l : List Int) : AV := .sl 1 (l.map fun x => [I x])
abbrev strs (l : List (List UInt8)) : AV := .sl 1 (l.map fun x => [S x])
abbrev hds (l : List (List Int)) : AV := .sl 1 (l.map fun h => [ints h])
abbrev rgC (r : Rg) : List AV := [ints r.kinds, hds r.hides, I r.al, I r.ah, I r.bl, I r.bh, I r.off, I r.mends]
abbrev rgA (r : Rg) : AV := .agg (rgC r)
abbrev rtC (x : Rt) : List AV := [I x.a, I x.b]
abbrev rtA (x : Rt) : AV := .agg (rtC x)
abbrev fdC (r : Rg) (h : Int) (f : List Int) : List AV := [ints r.kinds, hds r.hides, I r.al, I r.ah, I r.bl, I r.bh, I r.off, I r.mends, I h, ints f]
abbrev fdA (r : Rg) (h : Int) (f : List Int) : AV := .agg (fdC r h f)
abbrev spans (l : List (Int × Int)) : AV := .sl 2 (l.map fun s => [I s.1, I s.2])
theorem wr {n : Int} (h1 : -9223372036854775808 ≤ n) (h2 : n ≤ 9223372036854775807) : IntKind.i64.wrap n = n := IntWalk.i64_in _ ⟨h1, h2⟩
theorem wr8 {n : Int} (h1 : 0 ≤ n) (h2 : n ≤ 255) : IntKind.u8.wrap n = n := IntWalk.u8_in _ ⟨h1, h2⟩
@[simp] theorem inE_ints (n : Nat) (l : List Int) : AV.inE n (l.map fun x => [I x]) = true := inE_map fun x _ => by simp [AV.inL, AV.inB]
@[simp] theorem inE_strs (n : Nat) (l : List (List UInt8)) : AV.inE n (l.map fun x => [S x]) = true := inE_map fun x _ => by simp [AV.inL, AV.inB]
@[simp] theorem inE_hds (n : Nat) (l : List (List Int)) : AV.inE n (l.map fun x => [ints x]) = true := inE_map fun x _ => by simp [AV.inL, AV.inB]
@[simp] theorem inE_two (n : Nat) (l : List (Int × Int)) : AV.inE n (l.map fun s => [I s.1, I s.2]) = true := inE_map fun x _ => by simp [AV.inL, AV.inB]
@[simp] theorem inE_rts (n : Nat) (l : List Rt) : AV.inE n (l.map rtC) = true := inE_map fun x _ => by simp [AV.inL, AV.inB]
@[simp] theorem pureE_ints (l : List Int) : AV.pureE (l.map fun x => [I x]) = true := pureE_map fun x _ => by simp [AV.pureL, AV.pureB]
@[simp] theorem pureE_strs (l : List (List UInt8)) : AV.pureE (l.map fun x => [S x]) = true := pureE_map fun x _ => by simp [AV.pureL, AV.pureB]
@[simp] theorem pureE_hds (l : List (List Int)) : AV.pureE (l.map fun x => [ints x]) = true := pureE_map fun x _ => by simp [AV.pureL, AV.pureB]
@[simp] theorem pureE_two (l : List (Int × Int)) : AV.pureE (l.map fun s => [I s.1, I s.2]) = true := pureE_map fun x _ => by simp [AV.pureL, AV.pureB]
@[simp] theorem pureE_rts (l : List Rt) : AV.pureE (l.map rtC) = true := pureE_map fun x _ => by simp [AV.pureL, AV.pureB]
instance bi117 : BdI Tryz.prog 117 [.raw .nilFunc, .raw .nilFunc] false [] 1 := ⟨by kernel_rfl⟩
instance bi191 : BdI Tryz.prog 191 [.raw (.int .i64 0), .raw (.int .i64 0), .raw (.int .i64 0), .raw (.int .i64 0)] false [] 2 := ⟨by kernel_rfl⟩
instance en106 : EnT Tryz.prog 106 := ⟨Ent.of Tryz.func106 (by kernel_rfl) rfl⟩
instance en130 : EnT Tryz.prog 130 := ⟨Ent.of Tryz.func130 (by kernel_rfl) rfl⟩
instance en131 : EnT Tryz.prog 131 := ⟨Ent.of Tryz.func131 (by kernel_rfl) rfl⟩
instance en132 : EnT Tryz.prog 132 := ⟨Ent.of Tryz.func132 (by kernel_rfl) rfl⟩
instance en133 : EnT Tryz.prog 133 := ⟨Ent.of Tryz.func133 (by kernel_rfl) rfl⟩
instance en134 : EnT Tryz.prog 134 := ⟨Ent.of Tryz.func134 (by kernel_rfl) rfl⟩
instance en135 : EnT Tryz.prog 135 := ⟨Ent.of Tryz.func135 (by kernel_rfl) rfl⟩
instance en136 : EnT Tryz.prog 136 := ⟨Ent.of Tryz.func136 (by kernel_rfl) rfl⟩
instance en146 : EnT Tryz.prog 146 := ⟨Ent.of Tryz.func146 (by kernel_rfl) rfl⟩
instance en160 : EnT Tryz.prog 160 := ⟨Ent.of Tryz.func160 (by kernel_rfl) rfl⟩
instance en161 : EnT Tryz.prog 161 := ⟨Ent.of Tryz.func161 (by kernel_rfl) rfl⟩
instance en162 : EnT Tryz.prog 162 := ⟨Ent.of Tryz.func162 (by kernel_rfl) rfl⟩
instance fo120_0 : FoF Tryz.prog 120 0 0 3 := ⟨by kernel_rfl⟩
instance fo120_1 : FoF Tryz.prog 120 1 1 3 := ⟨by kernel_rfl⟩
instance fo25_0 : FoF Tryz.prog 25 0 0 3 := ⟨by kernel_rfl⟩
instance fo25_1 : FoF Tryz.prog 25 1 1 3 := ⟨by kernel_rfl⟩
instance fo27_0 : FoF Tryz.prog 27 0 0 22 := ⟨by kernel_rfl⟩
instance fo27_1 : FoF Tryz.prog 27 1 1 23 := ⟨by kernel_rfl⟩
instance fo27_2 : FoF Tryz.prog 27 2 2 25 := ⟨by kernel_rfl⟩
instance fo27_3 : FoF Tryz.prog 27 3 4 25 := ⟨by kernel_rfl⟩
instance fo27_4 : FoF Tryz.prog 27 4 6 3 := ⟨by kernel_rfl⟩
instance fo27_5 : FoF Tryz.prog 27 5 7 3 := ⟨by kernel_rfl⟩
instance fo30_0 : FoF Tryz.prog 30 0 0 3 := ⟨by kernel_rfl⟩
instance fo30_1 : FoF Tryz.prog 30 1 1 3 := ⟨by kernel_rfl⟩
instance sl22 : SlE Tryz.prog 22 111 1 := ⟨by kernel_rfl⟩
instance sl23 : SlE Tryz.prog 23 28 1 := ⟨by kernel_rfl⟩
instance sl28 : SlE Tryz.prog 28 3 1 := ⟨by kernel_rfl⟩
instance ty111 : TyF Tryz.prog 111 false 1 := ⟨by kernel_rfl⟩
instance ty117 : TyF Tryz.prog 117 true 2 := ⟨by kernel_rfl⟩
instance ty191 : TyF Tryz.prog 191 true 4 := ⟨by kernel_rfl⟩
instance ty22 : TyF Tryz.prog 22 false 1 := ⟨by kernel_rfl⟩
instance ty23 : TyF Tryz.prog 23 false 1 := ⟨by kernel_rfl⟩
instance ty25 : TyF Tryz.prog 25 true 2 := ⟨by kernel_rfl⟩
instance ty28 : TyF Tryz.prog 28 false 1 := ⟨by kernel_rfl⟩
instance ty3 : TyF Tryz.prog 3 false 1 := ⟨by kernel_rfl⟩
instance z117 : ZeO Tryz.prog 117 [.raw .nilFunc, .raw .nilFunc] := ⟨by kernel_rfl⟩
instance z191 : ZeO Tryz.prog 191 [.raw (.int .i64 0), .raw (.int .i64 0), .raw (.int .i64 0), .raw (.int .i64 0)] := ⟨by kernel_rfl⟩
theorem in_pure (n lo hi : Int) : APure Tryz.prog 106 [I n, I lo, I hi] (B (inn n lo hi)) := by
  refine ap Tryz.func106 (fun e0 he0 => ?_)
  refine wz 5 ?_
  refine sz 10 (fun g1 g1' => ?_) (fun g1 g1' => ?_)
  ·refine wz 5 ?_
   exact rz rfl (Less.eq (by simp [inn, *]))
  refine wz 5 ?_
  exact rz rfl (Less.eq (by simp [inn, *]))
theorem isspan_pure (a b : Int) : APure Tryz.prog 130 [.agg [I a, I b]] (B (spOK a b)) := by
  refine ap Tryz.func130 (fun e0 he0 => ?_)
  refine wz 4 ?_
  refine kz az (in_pure _ _ _) ?_
  refine wz 1 ?_
  refine sz 6 (fun g1_3 g1_3' => ?_) (fun g1_3 g1_3' => ?_)
  ·have k3 := g1_3
   simp only [inn, Bool.and_eq_true, decide_eq_true_eq] at k3
   refine wz 4 ?_
   refine ky az (in_pure _ _ _) ?_
   refine wz 2 ?_
   refine sz 13 (fun g1_10 g1_10' => ?_) (fun g1_10 g1_10' => ?_)
   ·have k10 := g1_10
    simp only [inn, Bool.and_eq_true, decide_eq_true_eq] at k10
    refine wz 8 ?_
    exact rz rfl (Less.eq (by simp [spOK, *]))
   refine wz 8 ?_
   exact rz rfl (Less.eq (by simp [spOK, *]))
  refine wz 15 ?_
  exact rz rfl (Less.eq (by simp [spOK, *]))
theorem ishide_pure (r : Rg) (n : Int) (hl : r.hides.length ≤ 1000000) : APure Tryz.prog 79 [rgA r, I n] (B (hdIn r n)) := by
  refine ap Tryz.func79 (fun e0 he0 => ?_)
  refine wz 7 ?_
  refine kz az (in_pure _ _ _) ?_
  refine wz 1 ?_
  exact rz rfl jz
theorem ismeasure_pure (r : Rg) (n : Int) (hl : r.kinds.length ≤ 1000000) : APure Tryz.prog 101 [rgA r, I n] (B (msIn r n)) := by
  refine ap Tryz.func101 (fun e0 he0 => ?_)
  refine wz 7 ?_
  refine kz az (in_pure _ _ _) ?_
  refine wz 1 ?_
  exact rz rfl jz
theorem israted_pure (r : Rg) (x : Rt) : APure Tryz.prog 80 [rgA r, rtA x] (B (rtOK r x)) := by
  refine ap Tryz.func80 (fun e0 he0 => ?_)
  refine wz 11 ?_
  refine kz az (in_pure _ _ _) ?_
  refine wz 1 ?_
  refine sz 14 (fun g1_9 g1_9' => ?_) (fun g1_9 g1_9' => ?_)
  ·refine wz 8 ?_
   refine ky az (in_pure _ _ _) ?_
   refine wz 2 ?_
   exact rz rfl (Less.eq (by simp [rtOK, *]))
  refine wz 11 ?_
  exact rz rfl (Less.eq (by simp [rtOK, *]))
theorem along_pure (x : Rt) : APure Tryz.prog 108 [rtA x] (I x.a) := by
  refine ap Tryz.func108 (fun e0 he0 => ?_)
  refine wz 5 ?_
  exact rz rfl jz
theorem across_pure (x : Rt) : APure Tryz.prog 109 [rtA x] (I x.b) := by
  refine ap Tryz.func109 (fun e0 he0 => ?_)
  refine wz 5 ?_
  exact rz rfl jz
theorem reading_pure  : APure Tryz.prog 82 [] (.agg [.fn (.func 108) [] [], .fn (.func 109) [] []]) := by
  refine ap Tryz.func82 (fun e0 he0 => ?_)
  refine wz 3 ?_
  exact retQ_res (vs := [.agg _]) rfl rfl ⟨resVar_cell rfl rfl ty117.h rfl, trivial⟩ jz
theorem kind_pure (k : Int) (h : -1000000 ≤ k ∧ k ≤ 1000000) : APure Tryz.prog 83 [I k] (I (k - 1)) := by
  refine ap Tryz.func83 (fun e0 he0 => ?_)
  refine wz 4 ?_
  exact rz rfl jz
theorem spans_pure (r : Rg) : APure Tryz.prog 148 [rgA r] (.agg [I r.al, I r.ah, I r.bl, I r.bh]) := by
  refine ap Tryz.func148 (fun e0 he0 => ?_)
  refine wz 8 ?_
  exact retQ_res (vs := [.agg _]) rfl rfl ⟨resVar_cell rfl rfl ty191.h rfl, trivial⟩ jz
theorem intF_ix {f : FuncId} {cap : List AV} {q : Int → Bool} (E : List (Int)) (hE : E.length ≤ 1000000) (en : Ent Tryz.prog f) (hc : ∀ i, (hi : i < E.length) → APure Tryz.prog f (I E[i] :: cap) (B (q E[i]))) (hp : AV.pureL cap = true) : APure Tryz.prog 160 [.sl 1 (E.map fun x => [I x]), .fn (.func f) [] cap] (I (ixQ q E)) := by
  refine ap Tryz.func160 (fun e0 he0 => ?_) (hp := by simp [AV.pureL, AV.pureB, hp])
  refine wz 4 ?_
  refine aw_loopk (ι := { k : Nat // k ≤ E.length ∧ ∀ i, (hi : i < E.length) → i < k → q E[i] = false }) [0, 1, 7] (fun i => [(8, I i.1)]) (fun H i => H) (fun i => E.length - i.1) (⟨0, Nat.zero_le _, by omega⟩) ⟨jz, jz, jz, jz, trivial⟩ rfl ?_
  rintro ⟨k, hk, hok⟩
  refine nz ?_
  refine wz 1 ?_
  refine iz (fun c_9 c_9' => ?_) (fun c_9 c_9' => ?_)
  ·have hkL : k < E.length := by omega
   refine wz 7 ?_
   refine sq_ev rfl (ev_call en jz (hc k hkL) ⟨jz, LessL.rfl' _⟩) ?_
   refine wz 0 ?_
   refine iz (fun c_16 c_16' => ?_) (fun c_16 c_16' => ?_)
   ·refine wz 2 ?_
    exact rz rfl (Less.eq (by rw [ixQ_at hkL (by simpa using c_16') hok]))
   refine wz 2 ?_
   exact ⟨⟨k + 1, by omega, fun i hi h => (by by_cases e : i = k; (subst e; simpa using c_16'); exact hok i hi (by omega))⟩, by simp only; omega, Sub.slots ⟨jz, jz, jz, jz, trivial⟩⟩
  refine wz 1 ?_
  exact rz rfl (Less.eq (by rw [ixQ_no fun i hi => hok i hi (by omega)]))
theorem intF_any {f : FuncId} {cap : List AV} {q : Int → Bool} (E : List (Int)) (hE : E.length ≤ 1000000) (en : Ent Tryz.prog f) (hc : ∀ i, (hi : i < E.length) → APure Tryz.prog f (I E[i] :: cap) (B (q E[i]))) (hp : AV.pureL cap = true) : APure Tryz.prog 132 [.sl 1 (E.map fun x => [I x]), .fn (.func f) [] cap] (B (E.any q)) := by
  refine ap Tryz.func132 (fun e0 he0 => ?_) (hp := by simp [AV.pureL, AV.pureB, hp])
  refine wz 3 ?_
  refine kz az (intF_ix E hE en hc hp) ?_
  refine wz 2 ?_
  exact rz rfl (Less.eq (by rw [← ixQ_any]))
theorem kdF_ix {f : FuncId} {cap : List AV} {q : Int → Bool} (E : List (Int)) (hE : E.length ≤ 1000000) (en : Ent Tryz.prog f) (hc : ∀ i, (hi : i < E.length) → APure Tryz.prog f (I E[i] :: cap) (B (q E[i]))) (hp : AV.pureL cap = true) : APure Tryz.prog 161 [.sl 1 (E.map fun x => [I x]), .fn (.func f) [] cap] (I (ixQ q E)) := by
  refine ap Tryz.func161 (fun e0 he0 => ?_) (hp := by simp [AV.pureL, AV.pureB, hp])
  refine wz 4 ?_
  refine aw_loopk (ι := { k : Nat // k ≤ E.length ∧ ∀ i, (hi : i < E.length) → i < k → q E[i] = false }) [0, 1, 7] (fun i => [(8, I i.1)]) (fun H i => H) (fun i => E.length - i.1) (⟨0, Nat.zero_le _, by omega⟩) ⟨jz, jz, jz, jz, trivial⟩ rfl ?_
  rintro ⟨k, hk, hok⟩
  refine nz ?_
  refine wz 1 ?_
  refine iz (fun c_9 c_9' => ?_) (fun c_9 c_9' => ?_)
  ·have hkL : k < E.length := by omega
   refine wz 7 ?_
   refine sq_ev rfl (ev_call en jz (hc k hkL) ⟨jz, LessL.rfl' _⟩) ?_
   refine wz 0 ?_
   refine iz (fun c_16 c_16' => ?_) (fun c_16 c_16' => ?_)
   ·refine wz 2 ?_
    exact rz rfl (Less.eq (by rw [ixQ_at hkL (by simpa using c_16') hok]))
   refine wz 2 ?_
   exact ⟨⟨k + 1, by omega, fun i hi h => (by by_cases e : i = k; (subst e; simpa using c_16'); exact hok i hi (by omega))⟩, by simp only; omega, Sub.slots ⟨jz, jz, jz, jz, trivial⟩⟩
  refine wz 1 ?_
  exact rz rfl (Less.eq (by rw [ixQ_no fun i hi => hok i hi (by omega)]))
theorem kdF_any {f : FuncId} {cap : List AV} {q : Int → Bool} (E : List (Int)) (hE : E.length ≤ 1000000) (en : Ent Tryz.prog f) (hc : ∀ i, (hi : i < E.length) → APure Tryz.prog f (I E[i] :: cap) (B (q E[i]))) (hp : AV.pureL cap = true) : APure Tryz.prog 134 [.sl 1 (E.map fun x => [I x]), .fn (.func f) [] cap] (B (E.any q)) := by
  refine ap Tryz.func134 (fun e0 he0 => ?_) (hp := by simp [AV.pureL, AV.pureB, hp])
  refine wz 3 ?_
  refine kz az (kdF_ix E hE en hc hp) ?_
  refine wz 2 ?_
  exact rz rfl (Less.eq (by rw [← ixQ_any]))
theorem rowF_ix {f : FuncId} {cap : List AV} {q : List Int → Bool} (E : List (List Int)) (hE : E.length ≤ 1000000) (en : Ent Tryz.prog f) (hc : ∀ i, (hi : i < E.length) → APure Tryz.prog f (ints E[i] :: cap) (B (q E[i]))) (hp : AV.pureL cap = true) : APure Tryz.prog 162 [.sl 1 (E.map fun x => [ints x]), .fn (.func f) [] cap] (I (ixQ q E)) := by
  refine ap Tryz.func162 (fun e0 he0 => ?_) (hp := by simp [AV.pureL, AV.pureB, hp])
  refine wz 4 ?_
  refine aw_loopk (ι := { k : Nat // k ≤ E.length ∧ ∀ i, (hi : i < E.length) → i < k → q E[i] = false }) [0, 1, 7] (fun i => [(8, I i.1)]) (fun H i => H) (fun i => E.length - i.1) (⟨0, Nat.zero_le _, by omega⟩) ⟨jz, jz, jz, jz, trivial⟩ rfl ?_
  rintro ⟨k, hk, hok⟩
  refine nz ?_
  refine wz 1 ?_
  refine iz (fun c_9 c_9' => ?_) (fun c_9 c_9' => ?_)
  ·have hkL : k < E.length := by omega
   refine wz 7 ?_
   refine sq_ev rfl (ev_call en jz (hc k hkL) ⟨jz, LessL.rfl' _⟩) ?_
   refine wz 0 ?_
   refine iz (fun c_16 c_16' => ?_) (fun c_16 c_16' => ?_)
   ·refine wz 2 ?_
    exact rz rfl (Less.eq (by rw [ixQ_at hkL (by simpa using c_16') hok]))
   refine wz 2 ?_
   exact ⟨⟨k + 1, by omega, fun i hi h => (by by_cases e : i = k; (subst e; simpa using c_16'); exact hok i hi (by omega))⟩, by simp only; omega, Sub.slots ⟨jz, jz, jz, jz, trivial⟩⟩
  refine wz 1 ?_
  exact rz rfl (Less.eq (by rw [ixQ_no fun i hi => hok i hi (by omega)]))
theorem rowF_any {f : FuncId} {cap : List AV} {q : List Int → Bool} (E : List (List Int)) (hE : E.length ≤ 1000000) (en : Ent Tryz.prog f) (hc : ∀ i, (hi : i < E.length) → APure Tryz.prog f (ints E[i] :: cap) (B (q E[i]))) (hp : AV.pureL cap = true) : APure Tryz.prog 136 [.sl 1 (E.map fun x => [ints x]), .fn (.func f) [] cap] (B (E.any q)) := by
  refine ap Tryz.func136 (fun e0 he0 => ?_) (hp := by simp [AV.pureL, AV.pureB, hp])
  refine wz 3 ?_
  refine kz az (rowF_ix E hE en hc hp) ?_
  refine wz 2 ?_
  exact rz rfl (Less.eq (by rw [← ixQ_any]))
theorem reg11_pure (n : Int) : APure Tryz.prog 133 [I n] (B (!inn n 1 500)) := by
  refine ap Tryz.func133 (fun e0 he0 => ?_)
  refine wz 2 ?_
  refine kz az (in_pure _ _ _) ?_
  refine wz 2 ?_
  exact rz rfl jz
theorem reg1_pure (r : Rg) (l : List Int) (hl : l.length ≤ 1000000) : APure Tryz.prog 131 [ints l, .iptr (rgC r)] (B (!hdOK r.kinds.length l)) := by
  refine ap Tryz.func131 (fun e0 he0 => ?_)
  refine wz 8 ?_
  refine sz 10 (fun g1_6 g1_6' => ?_) (fun g1_6 g1_6' => ?_)
  ·have k6 : ¬ l.length = r.kinds.length := by omega
   refine wz 4 ?_
   exact rz rfl (Less.eq (by simp only [hdOK, ← any_not]; simp [*]))
  have k6 : l.length = r.kinds.length := by omega
  refine wz 1 ?_
  refine sq_yes rfl rfl (less_b g1_6) rfl (ev_call en132.h jz (intF_any (q := fun n => !inn n 1 500) l hl en133.h (fun i hi => reg11_pure _) rfl) ⟨jz, jz, trivial⟩) ?_
  refine wz 2 ?_
  exact rz rfl (Less.eq (by simp only [hdOK, ← any_not]; simp [*]))
theorem reg2_pure (k : Int) : APure Tryz.prog 135 [I k] (B (!kdOK k)) := by
  refine ap Tryz.func135 (fun e0 he0 => ?_)
  refine wz 4 ?_
  refine sz 5 (fun g1_2 g1_2' => ?_) (fun g1_2 g1_2' => ?_)
  ·refine wz 4 ?_
   exact rz rfl (Less.eq (by simp [kdOK, *]))
  refine wz 4 ?_
  exact rz rfl (Less.eq (by simp [kdOK, *]))
theorem isregister_pure (r : Rg) (hk : r.kinds.length ≤ 1000000) (hh : r.hides.length ≤ 1000000) (hw : ∀ h ∈ r.hides, h.length ≤ 1000000) : APure Tryz.prog 78 [rgA r] (B (rgOK r)) := by
  refine ap Tryz.func78 (fun e0 he0 => ?_)
  refine wz 5 ?_
  refine kz az (in_pure _ _ _) ?_
  refine wz 2 ?_
  refine sz 9 (fun g1_5 g1_5' => ?_) (fun g1_5 g1_5' => ?_)
  ·refine wz 32 ?_
   exact rz rfl (Less.eq (by simp only [rgOK, ← any_not (q := kdOK), ← any_not (q := hdOK r.kinds.length)]; simp [*]))
  refine wz 3 ?_
  refine ky az (in_pure _ _ _) ?_
  refine wz 3 ?_
  refine sz 16 (fun g1_12 g1_12' => ?_) (fun g1_12 g1_12' => ?_)
  ·refine wz 25 ?_
   exact rz rfl (Less.eq (by simp only [rgOK, ← any_not (q := kdOK), ← any_not (q := hdOK r.kinds.length)]; simp [*]))
  refine wz 2 ?_
  refine ky az (isspan_pure _ _) ?_
  refine wz 3 ?_
  refine sz 22 (fun g1_18 g1_18' => ?_) (fun g1_18 g1_18' => ?_)
  ·refine wz 19 ?_
   exact rz rfl (Less.eq (by simp only [rgOK, ← any_not (q := kdOK), ← any_not (q := hdOK r.kinds.length)]; simp [*]))
  refine wz 2 ?_
  refine ky az (isspan_pure _ _) ?_
  refine wz 3 ?_
  refine sz 28 (fun g1_24 g1_24' => ?_) (fun g1_24 g1_24' => ?_)
  ·refine wz 13 ?_
   exact rz rfl (Less.eq (by simp only [rgOK, ← any_not (q := kdOK), ← any_not (q := hdOK r.kinds.length)]; simp [*]))
  refine wz 2 ?_
  refine ky az (in_pure _ _ _) ?_
  refine wz 3 ?_
  refine sz 34 (fun g1_30 g1_30' => ?_) (fun g1_30 g1_30' => ?_)
  ·refine wz 7 ?_
   exact rz rfl (Less.eq (by simp only [rgOK, ← any_not (q := kdOK), ← any_not (q := hdOK r.kinds.length)]; simp [*]))
  refine wz 2 ?_
  refine ky az (in_pure _ _ _) ?_
  refine wz 2 ?_
  refine iz (fun c_39 c_39' => ?_) (fun c_39 c_39' => ?_)
  ·refine wz 1 ?_
   exact rz rfl (Less.eq (by simp only [rgOK, ← any_not (q := kdOK), ← any_not (q := hdOK r.kinds.length)]; simp [*]))
  refine aw_skip ?_
  refine aw_seq ?_
  refine aw_sub (sub_iptrK [0, 2] 1 (j := 0) (l := rgC r) rfl rfl) ?_
  refine wz 4 ?_
  refine sq_ev rfl (ev_call en134.h jz (kdF_any (q := fun k => !kdOK k) r.kinds hk en135.h (fun i hi => reg2_pure _) rfl) ⟨jz, jz, trivial⟩) ?_
  refine wz 2 ?_
  refine sz 45 (fun g4_4 g4_4' => ?_) (fun g4_4 g4_4' => ?_)
  ·refine wz 3 ?_
   refine sq_yes rfl rfl (less_b g4_4) rfl (ev_call en136.h jz (rowF_any (q := fun l => !hdOK r.kinds.length l) r.hides hh en131.h (fun i hi => reg1_pure r _ (hw _ (List.getElem_mem hi))) (by simp [AV.pureL, AV.pureB])) ⟨jz, jz, trivial⟩) ?_
   refine wz 3 ?_
   exact rz rfl (Less.eq (by simp only [rgOK, ← any_not (q := kdOK), ← any_not (q := hdOK r.kinds.length)]; simp [*]))
  refine wz 7 ?_
  exact rz rfl (Less.eq (by simp only [rgOK, ← any_not (q := kdOK), ← any_not (q := hdOK r.kinds.length)]; simp [*]))
theorem find1_pure (n : Int) : APure Tryz.prog 146 [I n] (B (!inn n (-1) 1000)) := by
  refine ap Tryz.func146 (fun e0 he0 => ?_)
  refine wz 2 ?_
  refine kz az (in_pure _ _ _) ?_
  refine wz 2 ?_
  exact rz rfl jz
theorem isfind_pure (r : Rg) (f : List Int) (hl : f.length ≤ 1000000) : APure Tryz.prog 96 [rgA r, ints f] (B (fdOK r f)) := by
  refine ap Tryz.func96 (fun e0 he0 => ?_)
  refine wz 9 ?_
  refine sz 11 (fun g1_6 g1_6' => ?_) (fun g1_6 g1_6' => ?_)
  ·have k6 : f.length = r.kinds.length := by omega
   refine wz 1 ?_
   refine sq_yes rfl rfl (less_b g1_6) rfl (ev_call en132.h jz (intF_any (q := fun n => !inn n (-1) 1000) f hl en146.h (fun i hi => find1_pure _) rfl) ⟨jz, jz, trivial⟩) ?_
   refine wz 3 ?_
   exact rz rfl (Less.eq (by simp only [fdOK, ← any_not (q := fun n => inn n (-1) 1000)]; simp [*]))
  have k6 : ¬ f.length = r.kinds.length := by omega
  refine wz 5 ?_
  exact rz rfl (Less.eq (by simp only [fdOK, ← any_not (q := fun n => inn n (-1) 1000)]; simp [*]))
end Go.Proofs.YtjpokekbjmdgmaaGreatDoor
namespace Go.Proofs.YtjpokekbjmdgmaaGreatDoor
open Go Go.Ab Ni Hd
instance ar191 : ArE Tryz.prog 191 2 25 2 := ⟨by kernel_rfl⟩
instance bi25 : BdI Tryz.prog 25 [.raw (.int .i64 0), .raw (.int .i64 0)] true [(0, 1), (1, 1)] 0 := ⟨by kernel_rfl⟩
instance en100 : EnT Tryz.prog 100 := ⟨Ent.of Tryz.func100 (by kernel_rfl) rfl⟩
instance en138 : EnT Tryz.prog 138 := ⟨Ent.of Tryz.func138 (by kernel_rfl) rfl⟩
instance en140 : EnT Tryz.prog 140 := ⟨Ent.of Tryz.func140 (by kernel_rfl) rfl⟩
instance en141 : EnT Tryz.prog 141 := ⟨Ent.of Tryz.func141 (by kernel_rfl) rfl⟩
instance en144 : EnT Tryz.prog 144 := ⟨Ent.of Tryz.func144 (by kernel_rfl) rfl⟩
instance en148 : EnT Tryz.prog 148 := ⟨Ent.of Tryz.func148 (by kernel_rfl) rfl⟩
instance en166 : EnT Tryz.prog 166 := ⟨Ent.of Tryz.func166 (by kernel_rfl) rfl⟩
instance en81 : EnT Tryz.prog 81 := ⟨Ent.of Tryz.func81 (by kernel_rfl) rfl⟩
instance en83 : EnT Tryz.prog 83 := ⟨Ent.of Tryz.func83 (by kernel_rfl) rfl⟩
instance fo115_0 : FoF Tryz.prog 115 0 0 27 := ⟨by kernel_rfl⟩
instance fo115_1 : FoF Tryz.prog 115 1 8 3 := ⟨by kernel_rfl⟩
instance fo115_2 : FoF Tryz.prog 115 2 9 28 := ⟨by kernel_rfl⟩
theorem mo : Tryz.prog.follows .mixedOrders = true := by kernel_rfl
instance sf28 : SlS Tryz.prog 28 3 1 8 := ⟨SlFact.of (by kernel_rfl)⟩
instance ty115 : TyF Tryz.prog 115 true 10 := ⟨by kernel_rfl⟩
instance ty27 : TyF Tryz.prog 27 true 8 := ⟨by kernel_rfl⟩
instance ud28 : UnD Tryz.prog 28 (.slice 3) := ⟨Tryz.underlying28⟩
instance z25 : ZeO Tryz.prog 25 [.raw (.int .i64 0), .raw (.int .i64 0)] := ⟨by kernel_rfl⟩
instance z3 : ZeO Tryz.prog 3 [.raw (.int .i64 0)] := ⟨by kernel_rfl⟩
theorem q1000 {n : Int} (h : -10000 ≤ n ∧ n ≤ 1000000) : IntKind.i64.wrap (n.tdiv 1000) = n.tdiv 1000 := by
  have := tdiv_bd h; exact wr (by omega) (by omega)
structure ItO (e : Env) (l m : Nat) (st : Bool) (T : Nat → List AObj) (xs : List AV) : Prop where
  hT : ∀ i, (T i).length = (T 0).length
  hm : m ≤ xs.length
  all : st = false → m = xs.length
  pos : st = true → 0 < m
  hy : ∀ i x, i < m → xs[i]? = some x → ∀ X, AYieldAt e Tryz.prog l x (T i ++ X) (goes m st i) (T (i + 1) ++ X)
theorem goes_no {m k : Nat} {st : Bool} (h : goes m st k = false) : st = true ∧ k + 1 = m := by
  unfold goes at h
  cases hst : st with
  | false => rw [hst] at h; cases h
  | true => rw [hst] at h; exact ⟨rfl, Nat.eq_of_beq_eq_true (by simpa using h)⟩
theorem goes_yes {m k : Nat} {st : Bool} (h : goes m st k = true) (hk : k < m) : st = true → k + 1 < m := by
  intro hst
  unfold goes at h
  rw [hst] at h
  have : k + 1 ≠ m := Nat.ne_of_beq_eq_false (by simpa using h)
  omega
abbrev rngA (a b : Int) : List AV := (rng a b).map fun n => I n
theorem rngA_len (a b : Int) : (rngA a b).length = (rng a b).length := by simp
theorem rngA_at {a b : Int} {d : Nat} (h : d < (rng a b).length) : (rngA a b)[d]? = some (I (a + d)) := by
  rw [List.getElem?_map, List.getElem?_eq_getElem h, rng_get]; rfl
theorem rngA_get {a b : Int} {d : Nat} {x : AV} (h : (rngA a b)[d]? = some x) : ∃ hd : d < (rng a b).length, x = I (a + d) := by
  have hd : d < (rng a b).length := by have := lt_of_get? h; rwa [rngA_len] at this
  rw [rngA_at hd] at h; exact ⟨hd, (Option.some.inj h).symm⟩
theorem rngA_pure {a b : Int} {x : AV} (h : x ∈ rngA a b) : x.pureB = true := by
  obtain ⟨n, _, rfl⟩ := List.mem_map.1 h; rfl
theorem unchanged_pure {r : Rg} (gB : RgB r) {h m : Nat} {f : List Int} {rate : Int} (hh : h < r.hides.length) (hm : m < r.kinds.length) (hr : 0 ≤ rate ∧ rate ≤ 1300) : APure Tryz.prog 81 [fdA r h f, I m, I rate] (.agg [I (lo r.off (sz r h m * rate)), I (hi r.off (sz r h m * rate))]) := by
  refine ap Tryz.func81 (fun e0 he0 => ?_)
  refine vz 2 ?_
  refine sq_nil ?_
  refine aw_seq ?_
  have hl := gB.hl h hh
  have ha := sz_at gB hh hm
  have hb := long_bd gB hh hm hr
  rw [ha] at hb
  have ho := gB.off
  refine wz 20 ?_
  refine sq_ev rfl (ev_quo (q := (r.hides[h][m] * rate - 1000 * r.off + 999).tdiv 1000) jz jz (by decide) (q1000 (by omega))) ?_
  refine wz 7 ?_
  refine sq_ev rfl (ev_quo (q := (r.hides[h][m] * rate + 1000 * r.off).tdiv 1000) jz jz (by decide) (q1000 (by omega))) ?_
  refine wz 3 ?_
  exact retQ_res (vs := [.agg _]) rfl rfl ⟨resVar_cell rfl rfl ty25.h rfl, trivial⟩ (Less.eq (by rw [ha]; rfl))
theorem changed_pure {r : Rg} (gB : RgB r) {h m : Nat} {f : List Int} {rate : Int} (hh : h < r.hides.length) (hm : m < r.kinds.length) (hr : 0 ≤ rate ∧ rate ≤ 1300) (hf : f.length = r.kinds.length) : APure Tryz.prog 100 [fdA r h f, I m, I rate] (B (chB r h f rate m)) := by
  refine ap Tryz.func100 (fun e0 he0 => ?_)
  refine vz 2 ?_
  refine sq_nil ?_
  refine aw_seq ?_
  have hfa : f.getD m 0 = f[m] := getD_at (by omega)
  refine wz 3 ?_
  refine kz az (unchanged_pure gB hh hm hr) ?_
  refine wz 2 ?_
  refine aw_draw 20 mo (by kernel_rfl) ?_
  refine dz 7 ?_
  refine dsz 18 (fun g2_6 g2_6' => ?_) (fun g2_6 g2_6' => ?_)
  ·refine dz 9 ?_
   refine dky az (in_pure _ _ _) ?_
   refine dz 3 ?_
   refine wz 0 ?_
   exact rz rfl (Less.eq (by unfold chB chg; rw [hfa]; simp [*]))
  refine dz 13 ?_
  refine wz 0 ?_
  exact rz rfl (Less.eq (by unfold chB chg; rw [hfa]; simp [*]))
theorem changes_pure {r : Rg} (gB : RgB r) {h : Nat} {f : List Int} (k : Nat) {rate : Int} (hh : h < r.hides.length) (hr : 0 ≤ rate ∧ rate ≤ 1300) (hf : f.length = r.kinds.length) : APure Tryz.prog 138 [fdA r h f, I k, I rate] (ints (chs r h f k rate)) := by
  refine ap Tryz.func138 (fun e0 he0 => ?_)
  refine vz 8 ?_
  refine sq_nil ?_
  refine aw_block ?_
  refine aw_sub (sub_token 7 1 jz) ?_
  refine aw_loopk (ι := { k : Nat // k ≤ r.kinds.length }) [1, 2, 3, 12, 13] (fun i => [(14, I i.1), (7, .own 1 1 ((nums (chK r h f k rate) i.1).map fun x => [I x]))]) (fun H i => H.set 1 (.tok ((nums (chK r h f k rate) i.1).map fun x => [I x]).length)) (fun i => r.kinds.length - i.1) (⟨0, Nat.zero_le _⟩) ⟨jz, jz, jz, jz, jz, jz, jz, trivial⟩ rfl ?_
  rintro ⟨m, hm⟩
  refine nz ?_
  have hnl := nums_len (chK r h f k rate) m
  have hnk := gB.nk
  refine wz 1 ?_
  refine iz (fun c_15 c_15' => ?_) (fun c_15 c_15' => ?_)
  ·have hml : m < r.kinds.length := by omega
   refine wz 6 ?_
   refine kz az (kind_pure _ (by have := gB.kd m hml; rw [kd_at hml] at this; omega)) ?_
   refine wz 3 ?_
   refine sz 23 (fun g5_4 g5_4' => ?_) (fun g5_4 g5_4' => ?_)
   ·have hkd : kd r m - 1 = k := by rw [kd_at hml]; simpa using g5_4
    refine wz 3 ?_
    refine ky az (changed_pure gB hh hml hr hf) ?_
    refine wz 1 ?_
    refine iz (fun c_28 c_28' => ?_) (fun c_28 c_28' => ?_)
    ·have hqt : chK r h f k rate m = true := by unfold chK; rw [c_28, decide_eq_true hkd]; rfl
     have eS : (nums (chK r h f k rate) (m + 1)).map (fun x => [I x]) = (nums (chK r h f k rate) m).map (fun x => [I x]) ++ [[I m]] := by rw [nums_succ, if_pos hqt, List.map_append]; rfl
     refine wz 2 ?_
     refine sq_ev rfl (ev_buildSlice (es := [[_]]) sf28.h rfl rfl rfl rfl) ?_
     first | refine sq_append rfl sf28.h Tryz.underlying28 rfl rfl jz (Nat.succ_pos _) (by simp; omega) (by simp; omega) ?_ | refine sq_append rfl sf28.h Tryz.underlying28 rfl rfl (less_slx _ _) (Nat.succ_pos _) (by simp; omega) (by simp; omega) ?_
     refine wz 3 ?_
     exact ⟨⟨m + 1, by omega⟩, by simp only; omega, sb 2 ⟨jz, Less.eq (by rw [eS] <;> rfl), jz, jz, jz, jz, jz, trivial⟩ (hH := (congrArg (fun n => [_, AObj.tok n]) (congrArg List.length eS.symm)))⟩
    have hqf : chK r h f k rate m = false := by unfold chK; rw [c_28]; simp
    have eS : (nums (chK r h f k rate) (m + 1)).map (fun x => [I x]) = (nums (chK r h f k rate) m).map (fun x => [I x]) := by rw [nums_succ, if_neg (by rw [hqf]; simp)]
    refine wz 2 ?_
    exact ⟨⟨m + 1, by omega⟩, by simp only; omega, sb 2 ⟨jz, Less.eq (by rw [eS] <;> rfl), jz, jz, jz, jz, jz, trivial⟩ (hH := (congrArg (fun n => [_, AObj.tok n]) (congrArg List.length eS.symm)))⟩
   have hqf : chK r h f k rate m = false := by unfold chK; rw [kd_at hml, g5_4]; rfl
   have eS : (nums (chK r h f k rate) (m + 1)).map (fun x => [I x]) = (nums (chK r h f k rate) m).map (fun x => [I x]) := by rw [nums_succ, if_neg (by rw [hqf]; simp)]
   refine wz 8 ?_
   exact ⟨⟨m + 1, by omega⟩, by simp only; omega, sb 2 ⟨jz, Less.eq (by rw [eS] <;> rfl), jz, jz, jz, jz, jz, trivial⟩ (hH := (congrArg (fun n => [_, AObj.tok n]) (congrArg List.length eS.symm)))⟩
  obtain rfl : m = r.kinds.length := by omega
  refine wz 2 ?_
  exact retQ_pure (v := .own _ _ _) rfl rfl (less_own _ _ _)
theorem numbers_call {a b : Int} (ha : -1000000 ≤ a ∧ a ≤ 1000000) (hb : -1000000 ≤ b ∧ b ≤ 1000000) {e : Env} {l m : Nat} {st : Bool} {T : Nat → List AObj} (it : ItO e l m st T (rngA a b)) : ACallE e Tryz.prog 166 [.fn (.yield l) [] [], .iptr [I a, I b]] (T 0) (fun y H' => y = .ret (.tup []) ∧ ∃ X, H' = T m ++ X) := by
  refine acallE_of_marks (rs := []) Tryz.func166 rfl rfl (Nat.le_of_ble_eq_true rfl) fun e0 hle he0 => ?_
  rw [nil_pre (T 0)]
  refine wz 3 ?_
  refine aw_loopk (ι := { d : Nat // d ≤ (rng a b).length ∧ (st = true → d < m) }) [0, 1] (fun g => [(3, I (a + (g.1 : Nat)))]) (fun H g => T g.1 ++ []) (fun g => (rng a b).length - g.1) (⟨0, Nat.zero_le _, it.pos⟩) ⟨(by exact less_int (by simp)), jz, jz, trivial⟩ rfl ?_
  rintro ⟨d, hd, hdm⟩
  refine nz ?_
  have hrl := rng_len a b
  refine wz 4 ?_
  refine iz (fun c_9 c_9' => ?_) (fun c_9 c_9' => ?_)
  ·have hdl : d < (rng a b).length := by omega
   have hget := rngA_at hdl
   have hdL : d < m := by cases hst : st with | true => exact hdm hst | false => (have h1 := it.all hst; rw [rngA_len] at h1; omega)
   refine wz 2 ?_
   refine sq_yield hle rfl jz ?_ (it.hy _ _ hdL hget _) ?_
   ·exact jz
   refine wz 1 ?_
   refine iz (fun c_15 c_15' => ?_) (fun c_15 c_15' => ?_)
   ·have hg2 := goes_no (m := m) (st := st) (k := d) (by simpa using c_15)
    refine wz 0 ?_
    exact ⟨_, .tup [], rfl, rfl, rfl, [], by rw [← hg2.2]; rfl⟩
   have hg2 := goes_yes (m := m) (st := st) (k := d) (by simpa using c_15) hdL
   refine vz 3 ?_
   refine sq_nil ?_
   refine ⟨⟨d + 1, by omega, hg2⟩, by simp only; omega, ?_⟩
   refine Sub.slots ?_
   exact ⟨(by exact less_int (by simp <;> omega)), jz, jz, trivial⟩
  obtain rfl : d = (rng a b).length := by omega
  refine aw_exit ?_
  have hst : st = false := by
    cases h : st with
    | false => rfl
    | true => have h1 := hdm h; have h2 := it.hm; rw [rngA_len] at h2; omega
  have hmm := it.all hst
  rw [rngA_len] at hmm
  exact ⟨_, .tup [], rfl, rfl, rfl, [], by rw [hmm]; rfl⟩
/-- **The numbers of a span**, in order. -/
theorem numbers_iter {a b : Int} (ha : -1000000 ≤ a ∧ a ≤ 1000000) (hb : -1000000 ≤ b ∧ b ≤ 1000000) : AIter Tryz.prog 166 [] [.iptr [I a, I b]] (rngA a b) := by
  intro m st hm h1 h2 l T e vs hT ok hH hs hy
  refine (numbers_call ha hb ⟨hT, hm, h1, h2, fun i a hi ha X => hy i a hi ha X⟩ e vs (.refl e) ok hH hs).mono ?_
  rintro y w' ⟨ax, e', rfl, ok', fr, ⟨rfl, hX⟩, u, rfl, hu⟩
  exact ⟨u, e', rfl, rfl, ok', fr, hX⟩
theorem numbers_pure (a b : Int) : APure Tryz.prog 144 [.agg [I a, I b]] (.fn (.func 166) [] [.iptr [I a, I b]]) := by
  refine ap Tryz.func144 (fun e0 he0 => ?_)
  refine vz 2 ?_
  refine sq_nil ?_
  refine aw_seq ?_
  refine aw_sub (sub_iptrK [0, 2] 1 (j := 0) (l := [I a, I b]) rfl rfl) ?_
  refine wz 2 ?_
  exact retQ_pure (v := .fn _ _ _) rfl rfl jz
theorem fewest0_pure {r : Rg} (gB : RgB r) {h : Nat} {f : List Int} (hh : h < r.hides.length) (hf : f.length = r.kinds.length) : APure Tryz.prog 141 [fdA r h f, I 0] (I (few r h f 0)) := by
  refine apure_of_marks (rs := [.tmp 4]) Tryz.func141 rfl rfl (Nat.le_of_ble_eq_true rfl) (by simp [AV.pureL, AV.pureB, AV.pureE, pureE_map]) (by first | rfl | (simp [AV.pureL, AV.pureB, AV.pureE, pureE_map])) fun e0 he0 => ?_
  refine wz 5 ?_
  refine aw_draw 6 mo (by kernel_rfl) ?_
  refine dz 2 ?_
  refine dkz az (spans_pure r) ?_
  refine dz 1 ?_
  refine dr_ev rfl (ev_indexv_agg (k := 0) ar191.h ty25.h jz jz rfl (by decide)) ?_
  refine dkz az (numbers_pure _ _) ?_
  refine dr_end (sq_nil ?_)
  refine aw_block ?_
  refine aw_rangeFuncP (xs := rngA r.al r.ah) (fun k => [.cells (fdC r h f), .cells [I 0], .cells [I (least 6 (((rng r.al r.ah).take k).map (fun n => ((chs r h f 0 n).length : Int))))]]) ((rngA r.al r.ah).length) (none) (Nat.le_refl _) (fun _ => rfl) (fun h => absurd rfl h) rfl (enters_outer rfl) dd_in jz en166.h ((numbers_iter (show -1000000 ≤ r.al ∧ r.al ≤ 1000000 by have h1 := gB.a; have h2 := gB.b; omega) (show -1000000 ≤ r.ah ∧ r.ah ≤ 1000000 by have h1 := gB.a; have h2 := gB.b; omega)).to2) (rfl) (fun _ => rfl) (fun k hk => by simp [objsIn, AObj.inB, AV.inB, AV.inL]) (fun x hx => rngA_pure hx) rfl rfl ?_ ?_
  ·intro l i x e0 hi hx he0 hlp hce
   obtain ⟨hd, rfl⟩ := rngA_get hx
   have hrd : 0 ≤ r.al + (i : Int) ∧ r.al + (i : Int) ≤ 1300 := by have h1 := rng_len r.al r.ah; have h2 := gB.a; have h3 := gB.b; omega
   have hlb := nums_len (chK r h f 0 (r.al + (i : Int))) r.kinds.length
   have hll : (chs r h f 0 (r.al + (i : Int))).length ≤ r.kinds.length := hlb
   have hnk := gB.nk
   have eM : min (least 6 (((rng r.al r.ah).take i).map (fun n => ((chs r h f 0 n).length : Int)))) (((chs r h f 0 (r.al + (i : Int))).length : Int)) = (least 6 (((rng r.al r.ah).take (i + 1)).map (fun n => ((chs r h f 0 n).length : Int)))) := by rw [least_take hd, rng_get]
   refine nz ?_
   refine wz 0 ?_
   refine aw_draw 7 mo (by kernel_rfl) ?_
   refine dz 4 ?_
   refine dkz az (changes_pure gB 0 hh hrd hf) ?_
   refine dz 2 ?_
   refine wz 1 ?_
   exact ⟨⟨[], (congrArg (fun n => [AObj.cells (fdC r h f), .cells [I 0], .cells [I n]]) eM).trans (List.append_nil _).symm⟩, rfl, by split <;> rfl⟩
  ·rintro _ rfl
   have hfull : (rngA r.al r.ah).length = (rng r.al r.ah).length := by simp
   rw [hfull, List.take_length]
   refine nz ?_
   refine wz 2 ?_
   exact retQM_pure (v := .raw _) rfl rfl jz
theorem fewest1_pure {r : Rg} (gB : RgB r) {h : Nat} {f : List Int} (hh : h < r.hides.length) (hf : f.length = r.kinds.length) : APure Tryz.prog 141 [fdA r h f, I 1] (I (few r h f 1)) := by
  refine apure_of_marks (rs := [.tmp 4]) Tryz.func141 rfl rfl (Nat.le_of_ble_eq_true rfl) (by simp [AV.pureL, AV.pureB, AV.pureE, pureE_map]) (by first | rfl | (simp [AV.pureL, AV.pureB, AV.pureE, pureE_map])) fun e0 he0 => ?_
  refine wz 5 ?_
  refine aw_draw 6 mo (by kernel_rfl) ?_
  refine dz 2 ?_
  refine dkz az (spans_pure r) ?_
  refine dz 1 ?_
  refine dr_ev rfl (ev_indexv_agg (k := 1) ar191.h ty25.h jz jz rfl (by decide)) ?_
  refine dkz az (numbers_pure _ _) ?_
  refine dr_end (sq_nil ?_)
  refine aw_block ?_
  refine aw_rangeFuncP (xs := rngA r.bl r.bh) (fun k => [.cells (fdC r h f), .cells [I 1], .cells [I (least 6 (((rng r.bl r.bh).take k).map (fun n => ((chs r h f 1 n).length : Int))))]]) ((rngA r.bl r.bh).length) (none) (Nat.le_refl _) (fun _ => rfl) (fun h => absurd rfl h) rfl (enters_outer rfl) dd_in jz en166.h ((numbers_iter (show -1000000 ≤ r.bl ∧ r.bl ≤ 1000000 by have h1 := gB.a; have h2 := gB.b; omega) (show -1000000 ≤ r.bh ∧ r.bh ≤ 1000000 by have h1 := gB.a; have h2 := gB.b; omega)).to2) (rfl) (fun _ => rfl) (fun k hk => by simp [objsIn, AObj.inB, AV.inB, AV.inL]) (fun x hx => rngA_pure hx) rfl rfl ?_ ?_
  ·intro l i x e0 hi hx he0 hlp hce
   obtain ⟨hd, rfl⟩ := rngA_get hx
   have hrd : 0 ≤ r.bl + (i : Int) ∧ r.bl + (i : Int) ≤ 1300 := by have h1 := rng_len r.bl r.bh; have h2 := gB.a; have h3 := gB.b; omega
   have hlb := nums_len (chK r h f 1 (r.bl + (i : Int))) r.kinds.length
   have hll : (chs r h f 1 (r.bl + (i : Int))).length ≤ r.kinds.length := hlb
   have hnk := gB.nk
   have eM : min (least 6 (((rng r.bl r.bh).take i).map (fun n => ((chs r h f 1 n).length : Int)))) (((chs r h f 1 (r.bl + (i : Int))).length : Int)) = (least 6 (((rng r.bl r.bh).take (i + 1)).map (fun n => ((chs r h f 1 n).length : Int)))) := by rw [least_take hd, rng_get]
   refine nz ?_
   refine wz 0 ?_
   refine aw_draw 7 mo (by kernel_rfl) ?_
   refine dz 4 ?_
   refine dkz az (changes_pure gB 1 hh hrd hf) ?_
   refine dz 2 ?_
   refine wz 1 ?_
   exact ⟨⟨[], (congrArg (fun n => [AObj.cells (fdC r h f), .cells [I 1], .cells [I n]]) eM).trans (List.append_nil _).symm⟩, rfl, by split <;> rfl⟩
  ·rintro _ rfl
   have hfull : (rngA r.bl r.bh).length = (rng r.bl r.bh).length := by simp
   rw [hfull, List.take_length]
   refine nz ?_
   refine wz 2 ?_
   exact retQM_pure (v := .raw _) rfl rfl jz
theorem sum_pure (a b : Int) (ha : -1000000 ≤ a ∧ a ≤ 1000000) (hb : -1000000 ≤ b ∧ b ≤ 1000000) : APure Tryz.prog 140 [.slx 1 [[I a], [I b]]] (I (a + b)) := by
  refine ap Tryz.func140 (fun e0 he0 => ?_)
  refine wz 3 ?_
  refine sq_ev rfl (ev_len (n := 2) sl28.h (less_slx _ _) rfl) ?_
  refine wz 1 ?_
  refine aw_loopk (ι := { k : Nat // k ≤ 2 }) [6, 7] (fun i => [(8, I i.1), (3, I (([a, b].take i.1).sum))]) (fun H i => H) (fun i => 2 - i.1) (⟨0, by omega⟩) ⟨jz, jz, jz, jz, trivial⟩ rfl ?_
  rintro ⟨k, hk⟩
  refine nz ?_
  refine wz 1 ?_
  refine iz (fun c_9 c_9' => ?_) (fun c_9 c_9' => ?_)
  ·have hk2 : k = 0 ∨ k = 1 := by omega
   have eN : ([a, b].take k).sum + [a, b][k]'(by simp; omega) = ([a, b].take (k + 1)).sum := by rcases hk2 with rfl | rfl <;> simp
   have hsb : -1000000 ≤ ([a, b].take k).sum ∧ ([a, b].take k).sum ≤ 1000000 := by rcases hk2 with rfl | rfl <;> simp <;> omega
   have hxb : -1000000 ≤ [a, b][k]'(by simp; omega) ∧ [a, b][k]'(by simp; omega) ≤ 1000000 := by rcases hk2 with rfl | rfl <;> simp <;> omega
   refine wz 0 ?_
   refine sq_ev rfl (ev_less (ev_index_map (k := k) (xs := [a, b]) (f := fun x => [I x]) sl28.h (Less.trans (less_slx 1 [[I a], [I b]]) (Less.eq rfl)) jz rfl (by simp; omega)) jz) ?_
   refine wz 8 ?_
   exact ⟨⟨k + 1, by omega⟩, by simp only; omega, Sub.slots ⟨jz, (by exact less_int eN), jz, jz, trivial⟩⟩
  obtain rfl : k = 2 := by omega
  refine wz 2 ?_
  exact rz rfl (Less.eq (by simp))
theorem least_pure {r : Rg} (gB : RgB r) {h : Nat} {f : List Int} (hh : h < r.hides.length) (hf : f.length = r.kinds.length) : APure Tryz.prog 86 [fdA r h f] (I (fews r h f)) := by
  refine ap Tryz.func86 (fun e0 he0 => ?_)
  refine vz 2 ?_
  refine sq_nil ?_
  refine aw_seq ?_
  have b0 := few_bd gB h f (k := 0) (by have := gB.a; rw [sl0, sh0]; omega)
  have b1 := few_bd gB h f (k := 1) (by have := gB.b; rw [sl1, sh1]; omega)
  refine aw_draw 7 mo (by kernel_rfl) ?_
  refine dz 1 ?_
  refine dkz az (fewest0_pure gB hh hf) ?_
  refine dz 1 ?_
  refine dkz az (fewest1_pure gB hh hf) ?_
  refine dr_ev rfl (ev_buildSlice (es := [[_], [_]]) sf28.h rfl rfl rfl rfl) ?_
  refine dkz az (sum_pure _ _ (by omega) (by omega)) ?_
  refine dz 1 ?_
  refine wz 0 ?_
  exact rz rfl jz
end Go.Proofs.YtjpokekbjmdgmaaGreatDoor
namespace Go.Proofs.YtjpokekbjmdgmaaGreatDoor
open Go Go.Ab Ni Hd
instance en163 : EnT Tryz.prog 163 := ⟨Ent.of Tryz.func163 (by kernel_rfl) rfl⟩
instance en164 : EnT Tryz.prog 164 := ⟨Ent.of Tryz.func164 (by kernel_rfl) rfl⟩
instance en165 : EnT Tryz.prog 165 := ⟨Ent.of Tryz.func165 (by kernel_rfl) rfl⟩
instance en167 : EnT Tryz.prog 167 := ⟨Ent.of Tryz.func167 (by kernel_rfl) rfl⟩
instance en174 : EnT Tryz.prog 174 := ⟨Ent.of Tryz.func174 (by kernel_rfl) rfl⟩
instance en180 : EnT Tryz.prog 180 := ⟨Ent.of Tryz.func180 (by kernel_rfl) rfl⟩
instance en184 : EnT Tryz.prog 184 := ⟨Ent.of Tryz.func184 (by kernel_rfl) rfl⟩
instance ud217 : UnD Tryz.prog 217 (.int .u64) := ⟨Tryz.underlying217⟩
instance ud234 : UnD Tryz.prog 234 (.int .u64) := ⟨Tryz.underlying234⟩
instance ud3 : UnD Tryz.prog 3 (.int .i64) := ⟨Tryz.underlying3⟩
instance ud5 : UnD Tryz.prog 5 (.int .u8) := ⟨Tryz.underlying5⟩
instance ud9 : UnD Tryz.prog 9 .string := ⟨Tryz.underlying9⟩
def tabL : List UInt8 := [0, 1, 2, 2, 3, 3, 3, 3, 4, 4, 4, 4, 4, 4, 4, 4, 5, 5, 5, 5, 5, 5, 5, 5, 5, 5, 5, 5, 5, 5, 5, 5, 6, 6, 6, 6, 6, 6, 6, 6, 6, 6, 6, 6, 6, 6, 6, 6, 6, 6, 6, 6, 6, 6, 6, 6, 6, 6, 6, 6, 6, 6, 6, 6, 7, 7, 7, 7, 7, 7, 7, 7, 7, 7, 7, 7, 7, 7, 7, 7, 7, 7, 7, 7, 7, 7, 7, 7, 7, 7, 7, 7, 7, 7, 7, 7, 7, 7, 7, 7, 7, 7, 7, 7, 7, 7, 7, 7, 7, 7, 7, 7, 7, 7, 7, 7, 7, 7, 7, 7, 7, 7, 7, 7, 7, 7, 7, 7, 8, 8, 8, 8, 8, 8, 8, 8, 8, 8, 8, 8, 8, 8, 8, 8, 8, 8, 8, 8, 8, 8, 8, 8, 8, 8, 8, 8, 8, 8, 8, 8, 8, 8, 8, 8, 8, 8, 8, 8, 8, 8, 8, 8, 8, 8, 8, 8, 8, 8, 8, 8, 8, 8, 8, 8, 8, 8, 8, 8, 8, 8, 8, 8, 8, 8, 8, 8, 8, 8, 8, 8, 8, 8, 8, 8, 8, 8, 8, 8, 8, 8, 8, 8, 8, 8, 8, 8, 8, 8, 8, 8, 8, 8, 8, 8, 8, 8, 8, 8, 8, 8, 8, 8, 8, 8, 8, 8, 8, 8, 8, 8, 8, 8, 8, 8, 8, 8, 8, 8, 8, 8, 8, 8, 8, 8, 8, 8]
theorem one1 (x : Int) : ([I x] : List AV).length = 1 := rfl
theorem row_at {R : List Int} {rs : List AV} {j : Nat} (h : j < R.length) : ((R.map fun x => [I x]).flatten ++ rs)[0 + j * 1]? = some (I (R.getD j 0)) := by
  have e : ∀ l : List Int, (l.map fun x => [I x]).flatten = l.map fun x => I x := fun l => by induction l with
    | nil => rfl
    | cons a l ih => simp [ih]
  rw [e, Nat.zero_add, Nat.mul_one, List.getElem?_append_left (by simpa using h), List.getElem?_map, List.getElem?_eq_getElem h, getD_at h]; rfl
theorem set_same {α : Type} {l : List α} {i : Nat} {a : α} (h : l[i]? = some a) : l.set i a = l := by
  have hi := lt_of_get? h
  rw [List.getElem?_eq_getElem hi, Option.some.injEq] at h
  rw [← h]; exact List.set_getElem_self hi
theorem two_fl (a b : List Int) {k : Nat} (h : k < 2) : (([a, b].take (k + 1)).flatten = ([a, b].take k).flatten ++ [a, b][k]) ∧ ([a, b].take (k + 1)).flatten.length ≤ (a ++ b).length := by
  have : k = 0 ∨ k = 1 := by omega
  rcases this with rfl | rfl <;> simp
theorem two_le (a b : List Int) (k : Nat) : ([a, b].take k).flatten.length ≤ (a ++ b).length := by
  match k with
  | 0 => simp
  | 1 => simp
  | k + 2 => simp
theorem grow_call (n : Nat) (h0 : 0 < n) (hn : n ≤ 1000000) (H0 : List AObj) : ACall Tryz.prog 163 [.raw (.slice none 0 0), I n] H0 (fun x H' => ∃ cap, n ≤ cap ∧ x = .ret (.msl H0.length 0 0 cap) ∧ H' = H0 ++ [.cells (List.replicate (cap * 1) .any)]) := by
  refine acall_of (rs := [.tmp 4]) Tryz.func163 rfl rfl (Nat.le_of_ble_eq_true rfl) fun e0 he0 => ?_
  refine wz 3 ?_
  refine iz (fun c_6 c_6' => ?_) (fun c_6 c_6' => ?_)
  ·exfalso
   omega
  refine wz 2 ?_
  refine sq_ev rfl (ev_cap_nil sl28.h jz) ?_
  refine wz 1 ?_
  refine sq_ev rfl (ev_len (n := 0) sl28.h (less_nil _) rfl) ?_
  refine wz 5 ?_
  refine iz (fun c_16 c_16' => ?_) (fun c_16 c_16' => ?_)
  ·refine wz 0 ?_
   refine sq_ev rfl (ev_mv (v := .raw _) jz) ?_
   refine wz 1 ?_
   refine sq_ev rfl (ev_cap_nil sl28.h jz) ?_
   refine sq_ev rfl (ev_slice_nil sl28.h jz jz) ?_
   refine wz 1 ?_
   refine sq_append_make (n := n) rfl sf28.h Tryz.underlying3 (by decide) jz (less_int (by omega)) (by omega) (by omega) (by omega) fun cap hcap => ?_
   refine wz 1 ?_
   refine sq_ev rfl (ev_len (n := 0) sl28.h (less_nil _) rfl) ?_
   refine sq_ev rfl (ev_slice_msl (hi := 0) sl28.h jz jz (by omega)) ?_
   refine wz 3 ?_
   exact ⟨rfl, _, rfl, cap, hcap, rfl, rfl⟩
  exfalso
  omega
theorem concat_call (a b : List Int) (h0 : 0 < (a ++ b).length) (hn : (a ++ b).length ≤ 1000) (H0 : List AObj) : ACall Tryz.prog 137 [.slx 1 [[ints a], [ints b]]] H0 (fun x H' => ∃ cap rs, (a ++ b).length ≤ cap ∧ x = .ret (.msl H0.length 0 (a ++ b).length cap) ∧ H' = H0 ++ [.cells (((a ++ b).map fun x => [I x]).flatten ++ rs)]) := by
  refine acall_of (rs := [.tmp 2]) Tryz.func137 rfl rfl (Nat.le_of_ble_eq_true rfl) fun e0 he0 => ?_
  refine wz 3 ?_
  refine sq_ev rfl (ev_len (n := 2) sl23.h (less_slx _ _) rfl) ?_
  refine wz 1 ?_
  refine aw_loopk (ι := { k : Nat // k ≤ 2 }) [0, 9, 10] (fun i => [(11, I i.1), (3, I (([a, b].take i.1).flatten.length : Int))]) (fun H i => H) (fun i => 2 - i.1) (⟨0, by omega⟩) ⟨jz, jz, jz, jz, jz, trivial⟩ rfl ?_
  rintro ⟨k, hk⟩
  refine nz ?_
  have htl := two_le a b k
  refine wz 1 ?_
  refine iz (fun c_12 c_12' => ?_) (fun c_12 c_12' => ?_)
  ·have hk2 : k < 2 := by omega
   obtain ⟨hf1, hf2⟩ := two_fl a b hk2
   have eN : (([a, b].take k).flatten.length : Int) + ([a, b][k].length : Int) = (([a, b].take (k + 1)).flatten.length : Int) := by rw [hf1, List.length_append]; omega
   refine wz 0 ?_
   refine sq_ev rfl (ev_index_map (k := k) (xs := [a, b]) (f := fun l => [ints l]) sl23.h (Less.trans (less_slx 1 [[ints a], [ints b]]) (Less.eq rfl)) jz rfl hk2) ?_
   refine wz 9 ?_
   refine iz (fun c_20 c_20' => ?_) (fun c_20 c_20' => ?_)
   ·exfalso
    omega
   refine wz 2 ?_
   exact ⟨⟨k + 1, by omega⟩, by simp only; omega, Sub.slots ⟨jz, (by exact less_int eN), jz, jz, jz, trivial⟩⟩
  obtain rfl : k = 2 := by omega
  refine wz 1 ?_
  refine sq_call (args := [.raw (.slice none 0 0), I (([a, b].take 2).flatten.length : Int)]) rfl en163.h jz ⟨jz, jz, trivial⟩ (grow_call (([a, b].take 2).flatten.length) (by simpa using h0) (by simp at hn ⊢; omega) H0) ?_ (by rintro v H' ⟨_, _, h, _⟩; cases h)
  rintro _ _ ⟨cap, hcap, h, rfl⟩; cases h
  refine sq_ev rfl (ev_as (v := .msl _ _ _ _) jz) ?_
  refine wz 1 ?_
  refine sq_ev rfl (ev_len (n := 2) sl23.h (less_slx _ _) rfl) ?_
  refine wz 1 ?_
  refine aw_loopk (ι := { k : Nat // k ≤ 2 }) [25, 26] (fun i => [(6, .msl H0.length 0 (([a, b].take i.1).flatten).length cap), (27, I i.1)]) (fun H i => H.set H0.length (AObj.cells (((([a, b].take i.1).flatten).map fun x => [I x]).flatten ++ (List.replicate (cap * 1) AV.any).drop (([a, b].take i.1).flatten).length))) (fun i => 2 - i.1) (⟨0, by omega⟩) ⟨jz, jz, jz, jz, trivial⟩ (by show (H0 ++ [AObj.cells (List.replicate (cap * 1) AV.any)]).set H0.length (AObj.cells (((([a, b].take 0).flatten).map fun x => [I x]).flatten ++ (List.replicate (cap * 1) AV.any).drop (([a, b].take 0).flatten).length)) = H0 ++ [AObj.cells (List.replicate (cap * 1) AV.any)]; simp) ?_
  rintro ⟨k, hk⟩
  refine nz ?_
  have htl := two_le a b k
  rw [show (H0 ++ [AObj.cells (List.replicate (cap * 1) AV.any)]).set H0.length (AObj.cells (((([a, b].take k).flatten).map fun x => [I x]).flatten ++ (List.replicate (cap * 1) AV.any).drop (([a, b].take k).flatten).length)) = H0 ++ [(AObj.cells (((([a, b].take k).flatten).map fun x => [I x]).flatten ++ (List.replicate (cap * 1) AV.any).drop (([a, b].take k).flatten).length))] by simp]
  refine wz 1 ?_
  refine iz (fun c_28 c_28' => ?_) (fun c_28 c_28' => ?_)
  ·have hk2 : k < 2 := by omega
   obtain ⟨hf1, hf2⟩ := two_fl a b hk2
   have hfl : (([a, b].take k).flatten).length + [a, b][k].length ≤ cap := by have h1 := congrArg List.length hf1; rw [List.length_append] at h1; simp only [List.take, List.flatten_cons, List.flatten_nil, List.append_nil] at hcap; omega
   have hlk : (([a, b].take k).flatten).length + [a, b][k].length ≤ 1000 := by have h1 := congrArg List.length hf1; rw [List.length_append] at h1; omega
   have eH : (H0 ++ [(AObj.cells (((([a, b].take k).flatten).map fun x => [I x]).flatten ++ (List.replicate (cap * 1) AV.any).drop (([a, b].take k).flatten).length))]).set H0.length (.cells (((([a, b].take k).flatten).map (fun x => [I x]) ++ [a, b][k].map fun x => [I x]).flatten ++ ((List.replicate (cap * 1) AV.any).drop (([a, b].take k).flatten).length).drop (([a, b][k].map fun x => [I x]).length * 1))) = (H0 ++ [AObj.cells (List.replicate (cap * 1) AV.any)]).set H0.length (AObj.cells (((([a, b].take (k + 1)).flatten).map fun x => [I x]).flatten ++ (List.replicate (cap * 1) AV.any).drop (([a, b].take (k + 1)).flatten).length)) := by
    rw [hf1, List.map_append, List.drop_drop, List.length_append, List.length_map, Nat.mul_one]; simp
   refine wz 0 ?_
   refine sq_ev rfl (ev_index_map (k := k) (xs := [a, b]) (f := fun l => [ints l]) sl23.h (Less.trans (less_slx 1 [[ints a], [ints b]]) (Less.eq rfl)) jz rfl hk2) ?_
   refine wz 2 ?_
   refine sq_ev rfl (ev_mv (v := .msl _ _ _ _) jz) ?_
   refine wz 1 ?_
   refine sq_append_fit (j := H0.length) (n := (([a, b].take k).flatten).length) (cap := cap) (es := (([a, b].take k).flatten).map fun x => [I x]) (xs := [a, b][k].map fun x => [I x]) (rs := (List.replicate (cap * 1) AV.any).drop (([a, b].take k).flatten).length) rfl sf28.h Tryz.underlying28 jz (by show (H0 ++ [AObj.cells _])[H0.length]? = _; rw [List.getElem?_append_right (Nat.le_refl _), Nat.sub_self]; rfl) (by simp) (fun q hq => by obtain ⟨x, _, rfl⟩ := List.mem_map.1 hq; rfl) (by simp) jz (by simp only [List.length_map]; omega) (by simp only [List.length_map]; omega) (by simp only [List.length_map]; omega) ?_
   refine sq_ev rfl (ev_as (v := .msl _ _ _ _) jz) ?_
   refine wz 2 ?_
   exact ⟨⟨k + 1, by omega⟩, by simp only; omega, Sub.at ⟨(by rw [hf1, List.length_append]; simp only [List.length_map]; exact jz), jz, jz, jz, trivial⟩ (eH)⟩
  obtain rfl : k = 2 := by omega
  refine wz 0 ?_
  refine sq_ev rfl (ev_mv (v := .msl _ _ _ _) jz) ?_
  refine sq_ev rfl (ev_as (v := .msl _ _ _ _) jz) ?_
  refine sq_nil (aw_ret ?_)
  have fl2 : ([a, b].take 2).flatten = a ++ b := by simp
  exact ⟨rfl, _, rfl, cap, (List.replicate (cap * 1) AV.any).drop ([a, b].take 2).flatten.length, by simpa using hcap, congrArg (fun l => ARes.ret (.msl H0.length 0 (List.length l) cap)) fl2, congrArg (fun l : List Int => H0 ++ [AObj.cells ((l.map fun x => [I x]).flatten ++ (List.replicate (cap * 1) AV.any).drop ([a, b].take 2).flatten.length)]) fl2⟩
theorem grow0_pure  : APure Tryz.prog 163 [.raw (.slice none 0 0), I 0] (.raw (.slice none 0 0)) := by
  refine ap Tryz.func163 (fun e0 he0 => ?_)
  refine wz 3 ?_
  refine iz (fun c_6 c_6' => ?_) (fun c_6 c_6' => ?_)
  ·exfalso
   omega
  refine wz 2 ?_
  refine sq_ev rfl (ev_cap_nil sl28.h jz) ?_
  refine wz 1 ?_
  refine sq_ev rfl (ev_len (n := 0) sl28.h (less_nil _) rfl) ?_
  refine wz 5 ?_
  refine iz (fun c_16 c_16' => ?_) (fun c_16 c_16' => ?_)
  ·exfalso
   omega
  refine wz 2 ?_
  exact rz rfl jz
theorem concat0_pure (a b : List Int) (h0 : a ++ b = []) : APure Tryz.prog 137 [.slx 1 [[ints a], [ints b]]] (.raw (.slice none 0 0)) := by
  refine ap Tryz.func137 (fun e0 he0 => ?_)
  refine vz 1 ?_
  refine sq_nil ?_
  refine aw_seq ?_
  have hab := List.append_eq_nil_iff.1 h0
  have hn : (a ++ b).length ≤ 1000 := by rw [h0]; decide
  refine wz 2 ?_
  refine sq_ev rfl (ev_len (n := 2) sl23.h (less_slx _ _) rfl) ?_
  refine wz 1 ?_
  refine aw_loopk (ι := { k : Nat // k ≤ 2 }) [0, 9, 10] (fun i => [(11, I i.1), (3, I (([a, b].take i.1).flatten.length : Int))]) (fun H i => H) (fun i => 2 - i.1) (⟨0, by omega⟩) ⟨jz, jz, jz, jz, jz, trivial⟩ rfl ?_
  rintro ⟨k, hk⟩
  refine nz ?_
  have htl := two_le a b k
  refine wz 1 ?_
  refine iz (fun c_12 c_12' => ?_) (fun c_12 c_12' => ?_)
  ·have hk2 : k < 2 := by omega
   obtain ⟨hf1, hf2⟩ := two_fl a b hk2
   have eN : (([a, b].take k).flatten.length : Int) + ([a, b][k].length : Int) = (([a, b].take (k + 1)).flatten.length : Int) := by rw [hf1, List.length_append]; omega
   refine wz 0 ?_
   refine sq_ev rfl (ev_index_map (k := k) (xs := [a, b]) (f := fun l => [ints l]) sl23.h (Less.trans (less_slx 1 [[ints a], [ints b]]) (Less.eq rfl)) jz rfl hk2) ?_
   refine wz 9 ?_
   refine iz (fun c_20 c_20' => ?_) (fun c_20 c_20' => ?_)
   ·exfalso
    omega
   refine wz 2 ?_
   exact ⟨⟨k + 1, by omega⟩, by simp only; omega, Sub.slots ⟨jz, (by exact less_int eN), jz, jz, jz, trivial⟩⟩
  obtain rfl : k = 2 := by omega
  refine wz 1 ?_
  refine sq_ev rfl (ev_call en163.h jz grow0_pure ⟨jz, (by exact less_int (by simp [hab.1, hab.2])), trivial⟩) ?_
  refine wz 2 ?_
  refine sq_ev rfl (ev_len (n := 2) sl23.h (less_slx _ _) rfl) ?_
  refine wz 1 ?_
  refine aw_loopk (ι := { k : Nat // k ≤ 2 }) [25, 26] (fun i => [(6, .raw (.slice none 0 0)), (27, I i.1)]) (fun H i => H) (fun i => 2 - i.1) (⟨0, by omega⟩) ⟨jz, jz, jz, jz, trivial⟩ rfl ?_
  rintro ⟨k, hk⟩
  refine nz ?_
  refine wz 1 ?_
  refine iz (fun c_28 c_28' => ?_) (fun c_28 c_28' => ?_)
  ·have hk2 : k < 2 := by omega
   have hx0 : [a, b][k] = [] := by rcases (show k = 0 ∨ k = 1 by omega) with rfl | rfl <;> simp [hab.1, hab.2]
   refine wz 0 ?_
   refine sq_ev rfl (ev_index_map (k := k) (xs := [a, b]) (f := fun l => [ints l]) sl23.h (Less.trans (less_slx 1 [[ints a], [ints b]]) (Less.eq rfl)) jz rfl hk2) ?_
   refine wz 4 ?_
   refine sq_ev rfl (ev_append_none (sz := 1) sf28.h Tryz.underlying28 jz (Less.eq (by rw [hx0]; rfl))) ?_
   refine wz 3 ?_
   exact ⟨⟨k + 1, by omega⟩, by simp only; omega, Sub.slots ⟨jz, jz, jz, jz, trivial⟩⟩
  refine wz 2 ?_
  exact rz rfl (jz)
theorem isnan_pure (x : Int) : APure Tryz.prog 167 [I x] (B false) := by
  refine ap Tryz.func167 (fun e0 he0 => ?_)
  refine wz 5 ?_
  exact rz rfl (Less.eq (by simp))
theorem less_pure (x y : Int) : APure Tryz.prog 180 [I x, I y] (B (decide (x < y))) := by
  refine ap Tryz.func180 (fun e0 he0 => ?_)
  refine wz 2 ?_
  refine kz az (isnan_pure _) ?_
  refine wz 11 ?_
  exact rz rfl (Less.eq (by simp [*]))
theorem insert_call {l : List Int} (h0 : 0 < l.length) (hl : l.length ≤ 12) {k cap : Nat} {rs : List AV} {H0 : List AObj} (hk : H0[k]? = some (.cells (((l).map fun x => [I x]).flatten ++ rs))) : ACall Tryz.prog 174 [.msl k 0 l.length cap, I 0, I l.length] H0 (fun x H' => x = .ret (.tup []) ∧ ∃ R, InsO l R R.length ∧ H' = H0.set k (.cells (((R).map fun x => [I x]).flatten ++ rs))) := by
  refine acall_of (rs := []) Tryz.func174 rfl rfl (Nat.le_of_ble_eq_true rfl) fun e0 he0 => ?_
  have hkA := lt_of_get? hk
  refine wz 3 ?_
  refine aw_loopk (ι := { g : Nat × List Int // 1 ≤ g.1 ∧ g.1 ≤ l.length ∧ InsO l g.2 g.1 }) [0, 1, 2] (fun g => [(6, I (g.1.1 : Nat))]) (fun H g => H0.set k (.cells (((g.1.2).map fun x => [I x]).flatten ++ rs))) (fun g => l.length - g.1.1) (⟨(1, l), Nat.le_refl _, h0, InsO.start l⟩) ⟨jz, jz, jz, jz, trivial⟩ (set_same hk) ?_
  rintro ⟨⟨i, R⟩, hi1, hi2, ho⟩
  refine nz ?_
  dsimp only at hi1 hi2 ho
  have hRl := ho.perm.length_eq
  refine wz 3 ?_
  refine iz (fun c_12 c_12' => ?_) (fun c_12 c_12' => ?_)
  ·have hil : i < l.length := by omega
   refine wz 2 ?_
   refine aw_loopk (ι := { g : Nat × List Int // InsI l g.2 i g.1 }) [0, 1, 2, 6] (fun q => [(7, I (q.1.1 : Nat))]) (fun H q => H0.set k (.cells (((q.1.2).map fun x => [I x]).flatten ++ rs))) (fun q => q.1.1) (⟨(i, R), ho.go (by omega)⟩) ⟨jz, jz, jz, jz, jz, trivial⟩ rfl ?_
   rintro ⟨⟨j, R2⟩, hj⟩
   refine nz ?_
   dsimp only at hj
   have hR2 := hj.perm.length_eq
   have hjh := hj.hi
   have hjj := hj.hj
   refine wz 0 ?_
   refine aw_draw 15 mo (by kernel_rfl) ?_
   refine dz 4 ?_
   refine dsz 19 (fun g4_3 g4_3' => ?_) (fun g4_3 g4_3' => ?_)
   ·obtain ⟨m, rfl⟩ : ∃ m, j = m + 1 := ⟨j - 1, by omega⟩
    have hmR : m + 1 < R2.length := by omega
    refine dz 2 ?_
    refine dr_yes rfl rfl (less_b g4_3) rfl (ev_index_msl (k := m + 1) sl28.h jz jz rfl (by omega)) ?_
    refine dr_yes rfl rfl (less_b g4_3) rfl (ev_load jz (List.getElem?_set_self hkA) ty3.h (row_at (by omega))) ?_
    refine dz 3 ?_
    refine dr_yes rfl rfl (less_b g4_3) rfl (ev_index_msl (k := m) sl28.h jz jz (by omega) (by omega)) ?_
    refine dr_yes rfl rfl (less_b g4_3) rfl (ev_load jz (List.getElem?_set_self hkA) ty3.h (row_at (by omega))) ?_
    refine dky az (less_pure _ _) ?_
    refine dz 1 ?_
    refine wz 0 ?_
    refine iz (fun c_30 c_30' => ?_) (fun c_30 c_30' => ?_)
    ·have hlt : R2.getD (m + 1) 0 < R2.getD m 0 := by simpa using c_30
     refine wz 0 ?_
     refine aw_drawc [] [15, 17] [] mo (by kernel_rfl) (hsub_nil _) ?_
     first | refine dc_ev rfl (ev_mv (v := .sl _ _) jz) ?_ | refine dc_ev rfl (ev_mv (v := .own _ _ _) jz) ?_ | refine dc_ev rfl (ev_mv (v := .raw _) jz) ?_ | refine dc_ev rfl (ev_mv (v := .slx _ _) jz) ?_ | refine dc_ev rfl (ev_mv (v := .msl _ _ _ _) jz) ?_
     refine dc_ev rfl (ev_mv (v := .raw _) jz) ?_
     first | refine dc_ev rfl (ev_mv (v := .sl _ _) jz) ?_ | refine dc_ev rfl (ev_mv (v := .own _ _ _) jz) ?_ | refine dc_ev rfl (ev_mv (v := .raw _) jz) ?_ | refine dc_ev rfl (ev_mv (v := .slx _ _) jz) ?_ | refine dc_ev rfl (ev_mv (v := .msl _ _ _ _) jz) ?_
     refine dc_ev rfl (ev_mv (v := .raw _) jz) ?_
     refine dc_ev rfl (ev_sub jz jz (wr (by omega) (by omega))) ?_
     first | refine dc_ev rfl (ev_mv (v := .sl _ _) jz) ?_ | refine dc_ev rfl (ev_mv (v := .own _ _ _) jz) ?_ | refine dc_ev rfl (ev_mv (v := .raw _) jz) ?_ | refine dc_ev rfl (ev_mv (v := .slx _ _) jz) ?_ | refine dc_ev rfl (ev_mv (v := .msl _ _ _ _) jz) ?_
     refine dc_ev rfl (ev_mv (v := .raw _) jz) ?_
     refine dc_ev rfl (ev_sub jz jz (wr (by omega) (by omega))) ?_
     refine dc_ev rfl (ev_index_msl (k := m) sl28.h jz jz (by omega) (by omega)) ?_
     refine dc_ev0 rfl (by kernel_rfl) (ev_load jz (List.getElem?_set_self hkA) ty3.h (row_at (by omega))) ?_
     first | refine dc_ev rfl (ev_mv (v := .sl _ _) jz) ?_ | refine dc_ev rfl (ev_mv (v := .own _ _ _) jz) ?_ | refine dc_ev rfl (ev_mv (v := .raw _) jz) ?_ | refine dc_ev rfl (ev_mv (v := .slx _ _) jz) ?_ | refine dc_ev rfl (ev_mv (v := .msl _ _ _ _) jz) ?_
     refine dc_ev rfl (ev_mv (v := .raw _) jz) ?_
     refine dc_ev rfl (ev_index_msl (k := m + 1) sl28.h jz jz rfl (by omega)) ?_
     refine dc_ev0 rfl (by kernel_rfl) (ev_load jz (List.getElem?_set_self hkA) ty3.h (row_at (by omega))) ?_
     refine dc_ev rfl (ev_index_msl (k := m + 1) sl28.h jz jz rfl (by omega)) ?_
     refine dc_eff rfl rfl (eff_storeRow (f := fun x => [I x]) (sz := 1) (n := m + 1) (v := R2.getD m 0) one1 hkA (by omega) jz jz rfl ty3.h) (hsub_nil _) ?_
     refine dc_ev rfl (ev_index_msl (k := m) sl28.h jz jz (by omega) (by omega)) ?_
     refine dc_eff rfl rfl (eff_storeRow (f := fun x => [I x]) (sz := 1) (n := m) (v := R2.getD (m + 1) 0) one1 hkA (by rw [List.length_set]; omega) jz jz rfl ty3.h) (hsub_nil _) ?_
     refine dc_nil ?_
     refine wz 3 ?_
     exact ⟨⟨(m, swp R2 m), hj.swap hlt⟩, by show m < m + 1; omega, Sub.at ⟨(by exact less_int (show ((m + 1 : Nat) : Int) - 1 = (m : Int) by omega)), jz, jz, jz, jz, trivial⟩ (rfl)⟩
    have hst : InsO l R2 (i + 1) := hj.stop (.inr (by simpa using c_30))
    refine wz 3 ?_
    exact ⟨⟨(i + 1, R2), by simp only; omega, by simp only; omega, hst⟩, by simp only; omega, Sub.at ⟨jz, jz, jz, jz, trivial⟩ (rfl)⟩
   have hst : InsO l R2 (i + 1) := hj.stop (.inl (by omega))
   refine dz 11 ?_
   refine wz 4 ?_
   exact ⟨⟨(i + 1, R2), by simp only; omega, by simp only; omega, hst⟩, by simp only; omega, Sub.at ⟨jz, jz, jz, jz, trivial⟩ (rfl)⟩
  obtain rfl : i = l.length := by omega
  refine wz 0 ?_
  exact ⟨rfl, .tup [], rfl, rfl, R, by rw [hRl]; exact ho, rfl⟩
theorem pdq_call {l : List Int} (h0 : 0 < l.length) (hl : l.length ≤ 12) {k cap : Nat} {rs : List AV} {H0 : List AObj} (hk : H0[k]? = some (.cells (((l).map fun x => [I x]).flatten ++ rs))) : ACall Tryz.prog 164 [.msl k 0 l.length cap, I 0, I l.length, .any] H0 (fun x H' => x = .ret (.tup []) ∧ ∃ R, InsO l R R.length ∧ H' = H0.set k (.cells (((R).map fun x => [I x]).flatten ++ rs))) := by
  refine acall_of (rs := []) Tryz.func164 rfl rfl (Nat.le_of_ble_eq_true rfl) fun e0 he0 => ?_
  refine wz 2 ?_
  refine aw_loopk (ι := Unit) [0] (fun i => [(1, I 0), (2, I l.length), (3, AV.any), (8, B true), (9, B true)]) (fun H i => H) (fun i => 0) (()) ⟨jz, jz, jz, jz, jz, jz, trivial⟩ rfl ?_
  rintro ⟨⟩
  refine nz ?_
  refine wz 6 ?_
  refine iz (fun c_23 c_23' => ?_) (fun c_23 c_23' => ?_)
  ·refine wz 3 ?_
   refine sq_call (args := [.msl k 0 l.length cap, I 0, I l.length]) rfl en174.h jz ⟨jz, jz, jz, trivial⟩ (insert_call h0 hl hk) ?_ (by rintro v H' ⟨h, _⟩; cases h)
   rintro _ _ ⟨h, R, ho, rfl⟩; cases h
   refine wz 0 ?_
   exact ⟨rfl, .tup [], rfl, rfl, R, ho, rfl⟩
  exfalso
  omega
theorem insert0_pure  : APure Tryz.prog 174 [.raw (.slice none 0 0), I 0, I 0] (.tup []) := by
  refine ap Tryz.func174 (fun e0 he0 => ?_)
  refine wz 3 ?_
  refine aw_loopk (ι := Unit) [0, 1, 2] (fun i => [(6, I 1)]) (fun H i => H) (fun i => 0) (()) ⟨jz, jz, jz, jz, trivial⟩ rfl ?_
  rintro ⟨⟩
  refine nz ?_
  refine wz 3 ?_
  refine iz (fun c_12 c_12' => ?_) (fun c_12 c_12' => ?_)
  ·exfalso
   omega
  refine wz 0 ?_
  exact retQ_pure (v := .tup []) rfl rfl jz
theorem pdq0_pure  : APure Tryz.prog 164 [.raw (.slice none 0 0), I 0, I 0, .any] (.tup []) := by
  refine ap Tryz.func164 (fun e0 he0 => ?_)
  refine wz 2 ?_
  refine aw_loopk (ι := Unit) [0] (fun i => [(1, I 0), (2, I 0), (3, AV.any), (8, B true), (9, B true)]) (fun H i => H) (fun i => 0) (()) ⟨jz, jz, jz, jz, jz, jz, trivial⟩ rfl ?_
  rintro ⟨⟩
  refine nz ?_
  refine wz 6 ?_
  refine iz (fun c_23 c_23' => ?_) (fun c_23 c_23' => ?_)
  ·refine wz 3 ?_
   refine sq_ev rfl (ev_call en174.h jz insert0_pure ⟨jz, jz, jz, trivial⟩) ?_
   refine wz 0 ?_
   exact retQ_pure (v := .tup []) rfl rfl jz
  exfalso
  omega
theorem len64_pure (n : Nat) (hn : n ≤ 12) : APure Tryz.prog 184 [.raw (.int .u64 n)] (.any) := by
  refine ap Tryz.func184 (fun e0 he0 => ?_)
  refine wz 3 ?_
  refine iz (fun c_4 c_4' => ?_) (fun c_4 c_4' => ?_)
  ·exfalso
   omega
  refine wz 2 ?_
  refine iz (fun c_8 c_8' => ?_) (fun c_8 c_8' => ?_)
  ·exfalso
   omega
  refine wz 2 ?_
  refine iz (fun c_14 c_14' => ?_) (fun c_14 c_14' => ?_)
  ·exfalso
   omega
  refine aw_skip ?_
  refine aw_seq ?_
  have hnl : n < tabL.length := by simp [tabL]; omega
  have hb8 : (tabL[n]).toNat < 256 := UInt8.toNat_lt _
  refine wz 2 ?_
  refine sq_ev rfl (ev_conv_int Tryz.underlying234 Tryz.underlying5 jz (wr8 (by omega) (by omega))) ?_
  refine sq_ev rfl (ev_idxS (s := tabL) (k := n) Tryz.underlying9 jz jz rfl hnl) ?_
  refine wz 3 ?_
  exact retQ_pure (v := .raw _) rfl rfl (Less.any _)
theorem len_pure (n : Nat) (hn : n ≤ 12) : APure Tryz.prog 165 [.raw (.int .u64 n)] (.any) := by
  refine ap Tryz.func165 (fun e0 he0 => ?_)
  refine wz 3 ?_
  refine kz az (len64_pure n hn) ?_
  refine sq_ev rfl (ev_as (v := .any) jz) ?_
  refine wz 0 ?_
  exact retQ_pure (v := .any) rfl rfl (Less.any _)
theorem sort_call {l : List Int} (h0 : 0 < l.length) (hl : l.length ≤ 12) {k cap : Nat} {rs : List AV} {H0 : List AObj} (hk : H0[k]? = some (.cells (((l).map fun x => [I x]).flatten ++ rs))) : ACall Tryz.prog 139 [.msl k 0 l.length cap] H0 (fun x H' => x = .ret (.tup []) ∧ ∃ R, InsO l R R.length ∧ H' = H0.set k (.cells (((R).map fun x => [I x]).flatten ++ rs))) := by
  refine acall_of (rs := []) Tryz.func139 rfl rfl (Nat.le_of_ble_eq_true rfl) fun e0 he0 => ?_
  refine wz 6 ?_
  refine sq_ev rfl (ev_conv_int Tryz.underlying3 Tryz.underlying217 jz (by exact IntWalk.u64_in _ ⟨by omega, by omega⟩)) ?_
  refine kz az (len_pure l.length (by omega)) ?_
  refine sq_call (args := [.msl k 0 l.length cap, I 0, I l.length, .any]) rfl en164.h jz ⟨jz, jz, jz, jz, trivial⟩ (pdq_call h0 hl hk) ?_ (by rintro v H' ⟨h, _⟩; cases h)
  rintro _ _ ⟨h, R, ho, rfl⟩; cases h
  refine wz 0 ?_
  exact ⟨rfl, .tup [], rfl, rfl, R, ho, rfl⟩
theorem sort0_pure  : APure Tryz.prog 139 [.raw (.slice none 0 0)] (.tup []) := by
  refine ap Tryz.func139 (fun e0 he0 => ?_)
  refine wz 1 ?_
  refine sq_ev rfl (ev_len (n := 0) sl28.h (less_nil 1) rfl) ?_
  refine wz 4 ?_
  refine sq_ev rfl (ev_conv_int Tryz.underlying3 Tryz.underlying217 jz (by exact IntWalk.u64_in _ ⟨by omega, by omega⟩)) ?_
  refine kz az (len_pure 0 (by omega)) ?_
  refine kz az (pdq0_pure) ?_
  refine wz 0 ?_
  exact retQ_pure (v := .tup []) rfl rfl jz
end Go.Proofs.YtjpokekbjmdgmaaGreatDoor
namespace Go.Proofs.YtjpokekbjmdgmaaGreatDoor
open Go Go.Ab Ni Hd
instance ar117 : ArE Tryz.prog 117 2 116 1 := ⟨by kernel_rfl⟩
instance bi182 : BdI Tryz.prog 182 [.raw (.int .i64 0)] true [(0, 1)] 0 := ⟨by kernel_rfl⟩
instance en108 : EnT Tryz.prog 108 := ⟨Ent.of Tryz.func108 (by kernel_rfl) rfl⟩
instance en109 : EnT Tryz.prog 109 := ⟨Ent.of Tryz.func109 (by kernel_rfl) rfl⟩
instance en137 : EnT Tryz.prog 137 := ⟨Ent.of Tryz.func137 (by kernel_rfl) rfl⟩
instance en139 : EnT Tryz.prog 139 := ⟨Ent.of Tryz.func139 (by kernel_rfl) rfl⟩
instance en142 : EnT Tryz.prog 142 := ⟨Ent.of Tryz.func142 (by kernel_rfl) rfl⟩
instance en152 : EnT Tryz.prog 152 := ⟨Ent.of Tryz.func152 (by kernel_rfl) rfl⟩
instance en82 : EnT Tryz.prog 82 := ⟨Ent.of Tryz.func82 (by kernel_rfl) rfl⟩
instance en86 : EnT Tryz.prog 86 := ⟨Ent.of Tryz.func86 (by kernel_rfl) rfl⟩
instance en87 : EnT Tryz.prog 87 := ⟨Ent.of Tryz.func87 (by kernel_rfl) rfl⟩
instance en88 : EnT Tryz.prog 88 := ⟨Ent.of Tryz.func88 (by kernel_rfl) rfl⟩
instance ni182 : NiF Tryz.prog 182 := ⟨by kernel_rfl⟩
instance ni184 : NiF Tryz.prog 184 := ⟨by kernel_rfl⟩
instance sf23 : SlS Tryz.prog 23 28 1 24 := ⟨SlFact.of (by kernel_rfl)⟩
instance ty116 : TyF Tryz.prog 116 false 1 := ⟨by kernel_rfl⟩
instance ty120 : TyF Tryz.prog 120 true 2 := ⟨by kernel_rfl⟩
instance ty182 : TyF Tryz.prog 182 true 1 := ⟨by kernel_rfl⟩
instance ty184 : TyF Tryz.prog 184 true 1 := ⟨by kernel_rfl⟩
instance ty37 : TyF Tryz.prog 37 false 1 := ⟨by kernel_rfl⟩
theorem un20 : Tryz.prog.underlying 20 = some (.interface #[]) := by kernel_rfl
instance z182 : ZeO Tryz.prog 182 [.raw (.int .i64 0)] := ⟨by kernel_rfl⟩
instance z184 : ZeO Tryz.prog 184 [.raw (.string ByteArray.empty)] := ⟨by kernel_rfl⟩
instance z37 : ZeO Tryz.prog 37 [.raw (.int .i64 0)] := ⟨by kernel_rfl⟩
theorem adefer_none (i : Nat) (H : List AObj) : ADefer Tryz.prog 142 [.ptr i 0] H none (fun H' => H' = H) := by
  refine adefer_of Tryz.func142 rfl rfl (Nat.le_of_ble_eq_true rfl) rfl fun e0 he0 => ?_
  refine aw_block ?_
  refine aw_seq ?_
  refine aw_region (sq_ev rfl (ev_nil_nil un20 jz jz) ?_)
  refine sq_nil ?_
  refine aw_true jz ?_
  refine aw_region (sq_ev rfl (ev_as (v := .raw _) jz) ?_)
  refine sq_nil ?_
  exact ⟨.inl rfl, rfl, rfl⟩
theorem adefer_many (i : Nat) (H : List AObj) (w : AV) {c : AV} (hi : H[i]? = some (.cells [c])) (hw : w.cells = some [w]) :
    ADefer Tryz.prog 142 [.ptr i 0] H (some (.ifc 182 (.agg [w]))) (fun H' => ∃ X, H' = H.set i (.cells [I 5]) ++ X) := by
  refine adefer_of Tryz.func142 rfl rfl (Nat.le_of_ble_eq_true rfl) rfl fun e0 he0 => ?_
  rw [nil_pre H]
  refine aw_block ?_
  refine aw_seq ?_
  refine aw_region (sq_ev rfl (ev_ifc_eqnil un20 jz jz) ?_)
  refine sq_nil ?_
  refine aw_false jz ?_
  refine aw_seq ?_
  refine aw_region (sq_ev rfl (ev_assert_yes ni182.h jz) ?_)
  refine sq_ev rfl (ev_extract jz rfl) ?_
  refine sq_ev rfl (ev_extract jz rfl) ?_
  refine sq_nil ?_
  refine aw_true jz ?_
  refine aw_seq ?_
  refine aw_region ?_
  refine sq_allocP (H0 := H) (X := []) rfl z182.h ?_
  refine sq_storeP (H0 := H) (j := 0) rfl jz jz rfl rfl ty182.h rfl rfl ?_
  refine sq_nil ?_
  refine aw_region ?_
  refine sq_storeL (H0 := H) rfl jz jz rfl hi ty37.h rfl rfl ?_
  refine sq_nil ?_
  exact ⟨.inl rfl, rfl, [.cells [w]], by simp only [List.append_nil]; rfl⟩
theorem adefer_text (i : Nat) (H : List AObj) (w : AV) {c : AV} (hi : H[i]? = some (.cells [c])) (hw : w.cells = some [w]) :
    ADefer Tryz.prog 142 [.ptr i 0] H (some (.ifc 184 (.agg [w]))) (fun H' => ∃ X, H' = H.set i (.cells [I 4]) ++ X) := by
  refine adefer_of Tryz.func142 rfl rfl (Nat.le_of_ble_eq_true rfl) rfl fun e0 he0 => ?_
  rw [nil_pre H]
  refine aw_block ?_
  refine aw_seq ?_
  refine aw_region (sq_ev rfl (ev_ifc_eqnil un20 jz jz) ?_)
  refine sq_nil ?_
  refine aw_false jz ?_
  refine aw_seq ?_
  refine aw_region (sq_ev rfl (ev_assert_no ni182.h z182.h rfl jz) ?_)
  refine sq_ev rfl (ev_extract jz rfl) ?_
  refine sq_ev rfl (ev_extract jz rfl) ?_
  refine sq_nil ?_
  refine aw_false jz ?_
  refine aw_seq ?_
  refine aw_region (sq_ev rfl (ev_assert_yes ni184.h jz) ?_)
  refine sq_ev rfl (ev_extract jz rfl) ?_
  refine sq_ev rfl (ev_extract jz rfl) ?_
  refine sq_nil ?_
  refine aw_true jz ?_
  refine aw_seq ?_
  refine aw_region ?_
  refine sq_allocP (H0 := H) (X := []) rfl z184.h ?_
  refine sq_storeP (H0 := H) (j := 0) rfl jz jz rfl rfl ty184.h rfl rfl ?_
  refine sq_nil ?_
  refine aw_region ?_
  refine sq_storeL (H0 := H) rfl jz jz rfl hi ty37.h rfl rfl ?_
  refine sq_nil ?_
  exact ⟨.inl rfl, rfl, [.cells [w]], by simp only [List.append_nil]; rfl⟩
inductive Gave : ARes → AV → Prop
  | ret (v : AV) : Gave (.ret v) (I 0)
  | many (w : AV) (hw : w.cells = some [w]) : Gave (.pan (.ifc 182 (.agg [w]))) (I 5)
  | text (w : AV) (hw : w.cells = some [w]) : Gave (.pan (.ifc 184 (.agg [w]))) (I 4)
theorem attempt_call {f : FuncId} {first caps : List AV} {H : List AObj} {Rd : ARes → List AObj → Prop} (he : Ent Tryz.prog f)
    (hdo : ACall Tryz.prog f (first ++ caps) (H ++ [.cells [I 0]]) fun x H' => ∃ H1 X, H' = H1 ++ ([.cells [I 0]] ++ X) ∧ H1.length = H.length ∧ Rd x H1 ∧ ∃ v, Gave x v) :
    ACall Tryz.prog 87 [.fn (.func f) first caps] H fun x H' => ∃ y v H1 X, x = .ret v ∧ Gave y v ∧ Rd y H1 ∧ H' = H1 ++ X := by
  refine acall_of_defer (rs := [.cell 2 37]) Tryz.func87 rfl rfl (Nat.le_of_ble_eq_true rfl) en142.h fun e0 he0 => ?_
  rw [nil_pre H] at he0 ⊢
  refine aw_seq ?_
  refine aw_region ?_
  refine sq_allocP (H0 := H) (X := []) rfl z37.h ?_
  refine sq_nil ?_
  refine aw_seq ?_
  refine aw_region (sq_ev rfl ev_makeFunc ?_)
  refine sq_defer rfl rfl jz ?_
  refine sq_nil ?_
  refine aw_seq ?_
  refine aw_region (sq_ev rfl (ev_mv (v := .fn _ _ _) jz) ?_)
  refine sq_call (f := f) (first := first) (cap := caps) (args := first ++ caps) rfl he jz (by simpa using LessL.rfl' (first ++ caps)) hdo ?_ ?_
  · rintro v _ ⟨H1, X, rfl, hl, hRd, hg⟩
    refine sq_nil ?_
    refine aw_seq ?_
    refine aw_region ?_
    refine sq_storeP (H0 := H1) (j := 0) rfl (Less.eq (by rw [hl]; rfl)) jz rfl rfl ty37.h rfl rfl ?_
    refine sq_nil (aw_ret ?_)
    refine ⟨_, _, rfl, adefer_none _ _, ?_⟩
    rintro _ rfl
    refine ⟨I 0, ?_, _, _, H1, _, rfl, Gave.ret v, hRd, rfl⟩
    refine resAV_of (vs := [I 0]) (Nat.le_of_ble_eq_true rfl) ?_
    refine ⟨resVar_cell1 (i := H1.length + 0) (off := 0) ?_ (lookP (H0 := H1) rfl) ty37.h rfl, trivial⟩
    rw [hl]; rfl
  · rintro v _ ⟨H1, X, rfl, hl, hRd, u, hg⟩
    have hi : (H1 ++ ([AObj.cells [I 0]] ++ X))[H.length + 0]? = some (.cells [I 0]) := by rw [← hl]; exact lookP (by rfl)
    cases hg with
    | many w hw =>
      refine ⟨_, _, rfl, adefer_many (H.length + 0) _ w hi hw, ?_⟩
      rintro _ ⟨Y, rfl⟩
      have e1 : (H1 ++ ([AObj.cells [I 0]] ++ X)).set (H.length + 0) (.cells [I 5]) ++ Y = H1 ++ ([.cells [I 5]] ++ (X ++ Y)) := by
        rw [← hl, setP]; simp
      rw [e1]
      refine ⟨I 5, ?_, _, _, H1, _, rfl, Gave.many w hw, hRd, rfl⟩
      refine resAV_of (vs := [I 5]) (Nat.le_of_ble_eq_true rfl) ?_
      refine ⟨resVar_cell1 (i := H1.length + 0) (off := 0) ?_ (lookP (H0 := H1) rfl) ty37.h rfl, trivial⟩
      rw [hl]; rfl
    | text w hw =>
      refine ⟨_, _, rfl, adefer_text (H.length + 0) _ w hi hw, ?_⟩
      rintro _ ⟨Y, rfl⟩
      have e1 : (H1 ++ ([AObj.cells [I 0]] ++ X)).set (H.length + 0) (.cells [I 4]) ++ Y = H1 ++ ([.cells [I 4]] ++ (X ++ Y)) := by
        rw [← hl, setP]; simp
      rw [e1]
      refine ⟨I 4, ?_, _, _, H1, _, rfl, Gave.text w hw, hRd, rfl⟩
      refine resAV_of (vs := [I 4]) (Nat.le_of_ble_eq_true rfl) ?_
      refine ⟨resVar_cell1 (i := H1.length + 0) (off := 0) ?_ (lookP (H0 := H1) rfl) ty37.h rfl, trivial⟩
      rw [hl]; rfl
theorem all0_pure {r : Rg} (gB : RgB r) {h : Nat} {f : List Int} {x : Rt} (hh : h < r.hides.length) (hx : rtOK r x = true) (hf : f.length = r.kinds.length) (h0 : chs r h f 0 x.a ++ chs r h f 1 x.b = []) : APure Tryz.prog 85 [fdA r h f, rtA x] (ints (chA r h f x)) := by
  refine ap Tryz.func85 (fun e0 he0 => ?_)
  refine vz 3 ?_
  refine sq_nil ?_
  refine aw_seq ?_
  obtain ⟨hx1, hx2⟩ := rates_bd gB hx
  have hl0 := nums_len (chK r h f 0 x.a) r.kinds.length
  have hl1 := nums_len (chK r h f 1 x.b) r.kinds.length
  have hnk := gB.nk
  have hll : (chs r h f 0 x.a ++ chs r h f 1 x.b).length ≤ 12 := by rw [List.length_append]; have h0 : (chs r h f 0 x.a).length ≤ r.kinds.length := hl0; have h1 : (chs r h f 1 x.b).length ≤ r.kinds.length := hl1; omega
  refine aw_draw 15 mo (by kernel_rfl) ?_
  refine dz 1 ?_
  refine dkz az (reading_pure) ?_
  refine dr_ev rfl (ev_indexv (k := 0) ar117.h ty116.h jz jz rfl (by decide) rfl) ?_
  refine dz 1 ?_
  refine dr_ev rfl (ev_call en108.h jz (along_pure x) ⟨jz, trivial⟩) ?_
  refine dkz az (changes_pure gB 0 hh hx1 hf) ?_
  refine dz 1 ?_
  refine dkz az (reading_pure) ?_
  refine dr_ev rfl (ev_indexv (k := 1) ar117.h ty116.h jz jz rfl (by decide) rfl) ?_
  refine dz 1 ?_
  refine dr_ev rfl (ev_call en109.h jz (across_pure x) ⟨jz, trivial⟩) ?_
  refine dkz az (changes_pure gB 1 hh hx2 hf) ?_
  refine dr_ev rfl (ev_buildSlice (es := [[_], [_]]) sf23.h rfl rfl rfl rfl) ?_
  refine dr_ev rfl (ev_call en137.h jz (concat0_pure _ _ h0) ⟨jz, trivial⟩) ?_
  refine dz 1 ?_
  refine wz 1 ?_
  refine kz az (sort0_pure) ?_
  refine wz 2 ?_
  exact rz rfl (Less.trans (less_nil 1) (Less.eq (by have := (chA_perm gB h f x).length_eq; rw [h0] at this; rw [show chA r h f x = [] from List.length_eq_zero_iff.1 this.symm]; rfl)))
theorem all1_pure {r : Rg} (gB : RgB r) {h : Nat} {f : List Int} {x : Rt} (hh : h < r.hides.length) (hx : rtOK r x = true) (hf : f.length = r.kinds.length) (h0 : 0 < (chs r h f 0 x.a ++ chs r h f 1 x.b).length) : APure Tryz.prog 85 [fdA r h f, rtA x] (ints (chA r h f x)) := by
  refine ap Tryz.func85 (fun e0 he0 => ?_)
  refine vz 3 ?_
  refine sq_nil ?_
  refine aw_seq ?_
  obtain ⟨hx1, hx2⟩ := rates_bd gB hx
  have hl0 := nums_len (chK r h f 0 x.a) r.kinds.length
  have hl1 := nums_len (chK r h f 1 x.b) r.kinds.length
  have hnk := gB.nk
  have hll : (chs r h f 0 x.a ++ chs r h f 1 x.b).length ≤ 12 := by rw [List.length_append]; have h0 : (chs r h f 0 x.a).length ≤ r.kinds.length := hl0; have h1 : (chs r h f 1 x.b).length ≤ r.kinds.length := hl1; omega
  refine aw_draw 13 mo (by kernel_rfl) ?_
  refine dz 1 ?_
  refine dkz az (reading_pure) ?_
  refine dr_ev rfl (ev_indexv (k := 0) ar117.h ty116.h jz jz rfl (by decide) rfl) ?_
  refine dz 1 ?_
  refine dr_ev rfl (ev_call en108.h jz (along_pure x) ⟨jz, trivial⟩) ?_
  refine dkz az (changes_pure gB 0 hh hx1 hf) ?_
  refine dz 1 ?_
  refine dkz az (reading_pure) ?_
  refine dr_ev rfl (ev_indexv (k := 1) ar117.h ty116.h jz jz rfl (by decide) rfl) ?_
  refine dz 1 ?_
  refine dr_ev rfl (ev_call en109.h jz (across_pure x) ⟨jz, trivial⟩) ?_
  refine dkz az (changes_pure gB 1 hh hx2 hf) ?_
  refine dr_ev rfl (ev_buildSlice (es := [[_], [_]]) sf23.h rfl rfl rfl rfl) ?_
  refine dr_end ?_
  refine sq_call (args := [.slx 1 [[ints (chs r h f 0 x.a)], [ints (chs r h f 1 x.b)]]]) rfl en137.h jz ⟨jz, trivial⟩ (concat_call (chs r h f 0 x.a) (chs r h f 1 x.b) h0 (by omega) _) ?_ (by rintro v H' ⟨_, _, _, h, _⟩; cases h)
  rintro _ _ ⟨cap, rs, hcap, h, rfl⟩; cases h
  refine sq_ev rfl (ev_as (v := .msl _ _ _ _) jz) ?_
  refine wz 0 ?_
  refine sq_ev rfl (ev_mv (v := .msl _ _ _ _) jz) ?_
  refine sq_call (args := [.msl 2 0 (chs r h f 0 x.a ++ chs r h f 1 x.b).length cap]) rfl en139.h jz ⟨jz, trivial⟩ (sort_call (k := 2) (cap := cap) (rs := rs) h0 hll rfl) ?_ (by rintro v H' ⟨h, _⟩; cases h)
  rintro _ _ ⟨h, R, ho, rfl⟩; cases h
  have hRl := ho.perm.length_eq
  refine sq_nil ?_
  refine aw_seq ?_
  refine aw_sub (sub_freezeK [] 5 (j := 2) (sz := 1) (es := R.map fun x => [I x]) (rest := rs) rfl rfl (by rw [List.length_map, hRl]) (fun q hq => by obtain ⟨x, _, rfl⟩ := List.mem_map.1 hq; rfl)) ?_
  refine wz 0 ?_
  refine sq_ev rfl (ev_mv (v := .sl _ _) jz) ?_
  refine sq_ev rfl (ev_as (v := .sl _ _) jz) ?_
  refine wz 0 ?_
  exact retQ_pure (v := .sl _ _) rfl rfl (Less.eq (by rw [chA_sorted gB ho]))
theorem all_pure {r : Rg} (gB : RgB r) {h : Nat} {f : List Int} {x : Rt} (hh : h < r.hides.length) (hx : rtOK r x = true) (hf : f.length = r.kinds.length) : APure Tryz.prog 85 [fdA r h f, rtA x] (ints (chA r h f x)) := by
  rcases Nat.eq_zero_or_pos (chs r h f 0 x.a ++ chs r h f 1 x.b).length with h0 | h0
  · exact all0_pure gB hh hx hf (List.length_eq_zero_iff.1 h0)
  · exact all1_pure gB hh hx hf h0
theorem may_pan {r : Rg} (gB : RgB r) {h : Nat} {f : List Int} (hh : h < r.hides.length) (hf : f.length = r.kinds.length) (H : List AObj) : ACall Tryz.prog 88 [fdA r h f] H (fun x H' => (∃ X, H' = H ++ X) ∧ ((may r h f = true ∧ x = .ret (.tup [])) ∨ (may r h f = false ∧ ∃ w : Int, x = .pan (.ifc 182 (.agg [I w]))))) := by
  refine acall_of (rs := []) Tryz.func88 rfl rfl (Nat.le_of_ble_eq_true rfl) fun e0 he0 => ?_
  refine aw_seq ?_
  rw [nil_pre H]
  refine wz 0 ?_
  refine sq_boxP (H0 := H) (X := []) rfl jz rfl ?_
  refine sq_frz (A := H) (X := []) [] 1 rfl ?_
  refine wz 1 ?_
  refine kz az (least_pure gB hh hf) ?_
  refine wz 6 ?_
  refine iz (fun c_9 c_9' => ?_) (fun c_9 c_9' => ?_)
  ·refine wz 3 ?_
   refine sq_panic jz ?_
   exact ⟨rfl, ⟨[.dead], (by show H ++ ([] ++ [AObj.dead]) = H ++ [] ++ [AObj.dead]; simp)⟩, .inr ⟨by unfold may; simpa using c_9', _, rfl⟩⟩
  refine wz 0 ?_
  exact ⟨rfl, .tup [], rfl, ⟨[.dead], (by show H ++ ([] ++ [AObj.dead]) = H ++ [] ++ [AObj.dead]; simp)⟩, .inl ⟨by unfold may; simpa using c_9', rfl⟩⟩
theorem attmay_pure {r : Rg} (gB : RgB r) {h : Nat} {f : List Int} (hh : h < r.hides.length) (hf : f.length = r.kinds.length) : APure Tryz.prog 87 [.fn (.func 88) [fdA r h f] []] (I (if may r h f = true then 0 else 5)) := by
  refine APure.of_acall (by simp [AV.pureL, AV.pureB]) rfl ?_
  refine (attempt_call (H := []) (first := [fdA r h f]) (caps := []) (Rd := fun x H1 => (may r h f = true ∧ x = .ret (.tup [])) ∨ (may r h f = false ∧ ∃ w : Int, x = .pan (.ifc 182 (.agg [I w])))) en88.h ((may_pan gB hh hf _).mono ?_)).mono ?_
  · rintro x _ ⟨⟨X, rfl⟩, hx⟩
    refine ⟨[], X, by simp, rfl, hx, ?_⟩
    rcases hx with ⟨_, rfl⟩ | ⟨_, w, rfl⟩
    · exact ⟨_, Gave.ret _⟩
    · exact ⟨_, Gave.many (I w) rfl⟩
  · rintro x H' ⟨y, v, H1, X, rfl, hg, hx, rfl⟩
    refine ⟨v, rfl, ?_⟩
    rcases hx with ⟨hm, rfl⟩ | ⟨hm, w, rfl⟩
    · cases hg; rw [hm]; exact jz
    · cases hg; rw [hm]; exact jz
end Go.Proofs.YtjpokekbjmdgmaaGreatDoor
