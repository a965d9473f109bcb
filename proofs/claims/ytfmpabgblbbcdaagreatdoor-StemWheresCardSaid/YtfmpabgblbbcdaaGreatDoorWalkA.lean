/-
  A part of the proof: conditions: none beyond each theorem's own.
-/
import Derived.Test.YtfmpabgblbbcdaaGreatDoorSpecA
import Derived.Test.YtfmpabgblbbcdaaGreatDoorLogicD
import Derived.Test.YtfmpabgblbbcdaaGreatDoorLogicC
import Derived.Test.YtfmpabgblbbcdaaGreatDoorProg
import Derived.KernelRfl
import Derived.Lib.LaidTab
import Derived.Lib.ItoaNum
set_option linter.all false
set_option maxRecDepth 100000
set_option maxHeartbeats 8000000
namespace Go.Proofs.YtfmpabgblbbcdaaGreatDoor
open Go Go.Ab Ni St
open Hd hiding sz
instance tabs : Tabs where
  blk b := Tryz.prog.globalNamed "internal/bytealg.MaxLen" = some b ∨ Tryz.prog.globalNamed "internal/strconv.uint64pow10" = some b
  is w := (∃ b m, Tryz.prog.globalNamed "internal/bytealg.MaxLen" = some b ∧ w.cell? ⟨b, 0, none⟩ = some (.int .i64 m)) ∧ Lib.TabIs Tryz.prog w "internal/strconv.uint64pow10" .u64 Lib.pow10Tab
  mono h k := ⟨by obtain ⟨b, m, hb, hm⟩ := k.1; exact ⟨b, m, hb, by have e := h b (.inl hb); unfold World.cell? at hm ⊢; simp only [e]; exact hm⟩, by
    have k2 := k.2
    unfold Lib.TabIs World.var? at k2 ⊢
    cases hg : Tryz.prog.globalNamed "internal/strconv.uint64pow10" with
    | none => rw [hg] at k2; exact k2
    | some g => rw [hg] at k2; simp only [Option.bind_some] at k2 ⊢; rw [h g (.inr hg)]; exact k2⟩
abbrev I (n : Int) : AV := .raw (.int .i64 n)
abbrev B (b : Bool) : AV := .raw (.bool b)
abbrev ints (l : List Int) : AV := .sl 1 (l.map fun x => [I x])
abbrev strs (l : List (List UInt8)) : AV := .sl 1 (l.map fun x => [S x])
abbrev hds (l : List (List Int)) : AV := .sl 1 (l.map fun h => [ints h])
abbrev fgC (f : Fgr) : List AV := [I f.side, I f.rank, I f.hands]
abbrev scC (x : Scn) : List AV := [ints x.moved, ints x.rest, I x.knocks, ints x.taken]
abbrev fgs (l : List Fgr) : AV := .sl 3 (l.map fgC)
abbrev scs (l : List Scn) : AV := .sl 4 (l.map scC)
abbrev plC (p : Ply) : List AV := [I p.left, ints p.hts, fgs p.figs, scs p.scs]
abbrev plA (p : Ply) : AV := .agg (plC p)
abbrev stC (p : Ply) (x : Scn) : List AV := [I p.left, ints p.hts, fgs p.figs, scs p.scs, ints x.moved, ints x.rest, I x.knocks, ints x.taken]
abbrev stA (p : Ply) (x : Scn) : AV := .agg (stC p x)
theorem wr {n : Int} (h1 : -9223372036854775808 ≤ n) (h2 : n ≤ 9223372036854775807) : IntKind.i64.wrap n = n := IntWalk.i64_in _ ⟨h1, h2⟩
@[simp] theorem inE_ints (n : Nat) (l : List Int) : AV.inE n (l.map fun x => [I x]) = true := inE_map fun x _ => by simp [AV.inL, AV.inB]
@[simp] theorem inE_strs (n : Nat) (l : List (List UInt8)) : AV.inE n (l.map fun x => [S x]) = true := inE_map fun x _ => by simp [AV.inL, AV.inB]
@[simp] theorem inE_hds (n : Nat) (l : List (List Int)) : AV.inE n (l.map fun x => [ints x]) = true := inE_map fun x _ => by simp [AV.inL, AV.inB]
@[simp] theorem inE_fgs (n : Nat) (l : List Fgr) : AV.inE n (l.map fgC) = true := inE_map fun x _ => by simp [AV.inL, AV.inB]
@[simp] theorem inE_scs (n : Nat) (l : List Scn) : AV.inE n (l.map scC) = true := inE_map fun x _ => by simp [AV.inL, AV.inB]
@[simp] theorem pureE_ints (l : List Int) : AV.pureE (l.map fun x => [I x]) = true := pureE_map fun x _ => by simp [AV.pureL, AV.pureB]
@[simp] theorem pureE_strs (l : List (List UInt8)) : AV.pureE (l.map fun x => [S x]) = true := pureE_map fun x _ => by simp [AV.pureL, AV.pureB]
@[simp] theorem pureE_hds (l : List (List Int)) : AV.pureE (l.map fun x => [ints x]) = true := pureE_map fun x _ => by simp [AV.pureL, AV.pureB]
@[simp] theorem pureE_fgs (l : List Fgr) : AV.pureE (l.map fgC) = true := pureE_map fun x _ => by simp [AV.pureL, AV.pureB]
@[simp] theorem pureE_scs (l : List Scn) : AV.pureE (l.map scC) = true := pureE_map fun x _ => by simp [AV.pureL, AV.pureB]
instance en126 : EnT Tryz.prog 126 := ⟨Ent.of Tryz.func126 (by kernel_rfl) rfl⟩
instance en127 : EnT Tryz.prog 127 := ⟨Ent.of Tryz.func127 (by kernel_rfl) rfl⟩
instance en128 : EnT Tryz.prog 128 := ⟨Ent.of Tryz.func128 (by kernel_rfl) rfl⟩
instance en129 : EnT Tryz.prog 129 := ⟨Ent.of Tryz.func129 (by kernel_rfl) rfl⟩
instance en130 : EnT Tryz.prog 130 := ⟨Ent.of Tryz.func130 (by kernel_rfl) rfl⟩
instance en131 : EnT Tryz.prog 131 := ⟨Ent.of Tryz.func131 (by kernel_rfl) rfl⟩
instance en132 : EnT Tryz.prog 132 := ⟨Ent.of Tryz.func132 (by kernel_rfl) rfl⟩
instance en133 : EnT Tryz.prog 133 := ⟨Ent.of Tryz.func133 (by kernel_rfl) rfl⟩
instance en134 : EnT Tryz.prog 134 := ⟨Ent.of Tryz.func134 (by kernel_rfl) rfl⟩
instance en135 : EnT Tryz.prog 135 := ⟨Ent.of Tryz.func135 (by kernel_rfl) rfl⟩
instance en162 : EnT Tryz.prog 162 := ⟨Ent.of Tryz.func162 (by kernel_rfl) rfl⟩
instance en163 : EnT Tryz.prog 163 := ⟨Ent.of Tryz.func163 (by kernel_rfl) rfl⟩
instance en164 : EnT Tryz.prog 164 := ⟨Ent.of Tryz.func164 (by kernel_rfl) rfl⟩
instance en82 : EnT Tryz.prog 82 := ⟨Ent.of Tryz.func82 (by kernel_rfl) rfl⟩
instance fo26_0 : FoF Tryz.prog 26 0 0 3 := ⟨by kernel_rfl⟩
instance fo26_1 : FoF Tryz.prog 26 1 1 22 := ⟨by kernel_rfl⟩
instance fo26_2 : FoF Tryz.prog 26 2 2 23 := ⟨by kernel_rfl⟩
instance fo26_3 : FoF Tryz.prog 26 3 3 24 := ⟨by kernel_rfl⟩
instance fo41_0 : FoF Tryz.prog 41 0 0 22 := ⟨by kernel_rfl⟩
instance fo41_1 : FoF Tryz.prog 41 1 1 22 := ⟨by kernel_rfl⟩
instance fo41_2 : FoF Tryz.prog 41 2 2 3 := ⟨by kernel_rfl⟩
instance fo41_3 : FoF Tryz.prog 41 3 3 22 := ⟨by kernel_rfl⟩
instance fo82_0 : FoF Tryz.prog 82 0 0 80 := ⟨by kernel_rfl⟩
instance fo82_1 : FoF Tryz.prog 82 1 1 3 := ⟨by kernel_rfl⟩
instance fo82_2 : FoF Tryz.prog 82 2 2 3 := ⟨by kernel_rfl⟩
instance sl22 : SlE Tryz.prog 22 3 1 := ⟨by kernel_rfl⟩
instance sl23 : SlE Tryz.prog 23 82 3 := ⟨by kernel_rfl⟩
instance sl24 : SlE Tryz.prog 24 41 4 := ⟨by kernel_rfl⟩
instance ty22 : TyF Tryz.prog 22 false 1 := ⟨by kernel_rfl⟩
instance ty23 : TyF Tryz.prog 23 false 1 := ⟨by kernel_rfl⟩
instance ty24 : TyF Tryz.prog 24 false 1 := ⟨by kernel_rfl⟩
instance ty3 : TyF Tryz.prog 3 false 1 := ⟨by kernel_rfl⟩
instance ty41 : TyF Tryz.prog 41 true 4 := ⟨by kernel_rfl⟩
instance ty80 : TyF Tryz.prog 80 false 1 := ⟨by kernel_rfl⟩
instance ty82 : TyF Tryz.prog 82 true 3 := ⟨by kernel_rfl⟩
theorem in_pure (n lo hi : Int) : APure Tryz.prog 126 [I n, I lo, I hi] (B (inn n lo hi)) := by
  refine ap Tryz.func126 (fun e0 he0 => ?_)
  refine wz 5 ?_
  refine sz 10 (fun g1 g1' => ?_) (fun g1 g1' => ?_)
  ·refine wz 5 ?_
   exact rz rfl (Less.eq (by simp [inn, *]))
  refine wz 5 ?_
  exact rz rfl (Less.eq (by simp [inn, *]))
theorem isscene_pure (p : Ply) (n : Int) (hl : p.scs.length ≤ 1000000) : APure Tryz.prog 81 [plA p, I n] (B (scIn p n)) := by
  refine ap Tryz.func81 (fun e0 he0 => ?_)
  refine wz 7 ?_
  refine kz az (in_pure _ _ _) ?_
  refine wz 1 ?_
  exact rz rfl jz
theorem rising_pure (l : List Int) (n : Nat) (hl : l.length ≤ 1000000) (hn : n ≤ 1000000) : APure Tryz.prog 129 [ints l, I n] (B (rising l n)) := by
  refine ap Tryz.func129 (fun e0 he0 => ?_)
  refine wz 4 ?_
  refine aw_loopk (ι := { k : Nat // k ≤ l.length ∧ ∀ i, (hi : i < l.length) → i < k → (0 ≤ l[i] ∧ l[i] < n) ∧ (0 < i → l[i - 1] < l[i]) }) [0, 1, 7, 8] (fun i => [(9, I i.1)]) (fun H i => H) (fun i => l.length - i.1) (⟨0, Nat.zero_le _, by omega⟩) ⟨jz, jz, jz, jz, jz, trivial⟩ rfl ?_
  rintro ⟨k, hk1, hok⟩
  refine nz ?_
  refine wz 1 ?_
  refine iz (fun c_10 c_10' => ?_) (fun c_10 c_10' => ?_)
  ·have hkl : k < l.length := by omega
   have hin : inn l[k] 0 ((n : Int) - 1) = true ↔ 0 ≤ l[k] ∧ l[k] ≤ (n : Int) - 1 := by unfold inn; simp
   refine wz 8 ?_
   refine kz az (in_pure _ _ _) ?_
   refine wz 2 ?_
   refine sz 19 (fun g4_5 g4_5' => ?_) (fun g4_5 g4_5' => ?_)
   ·have hb0 : ¬ (0 ≤ l[k] ∧ l[k] ≤ (n : Int) - 1) := fun q => by rw [hin.2 q] at g4_5; simp at g4_5
    have hno : rising l n = false := rising_no hkl (fun q => hb0 (by omega))
    refine wz 14 ?_
    exact rz rfl (Less.eq (by rw [hno]))
   have hb1 : 0 ≤ l[k] ∧ l[k] ≤ (n : Int) - 1 := hin.1 (by simpa using g4_5)
   refine wz 3 ?_
   refine sz 22 (fun g4_8 g4_8' => ?_) (fun g4_8 g4_8' => ?_)
   ·refine wz 4 ?_
    refine sq_yes rfl rfl (less_b g4_8) rfl (ev_index_map (k := k - 1) sl22.h jz jz (by omega) (by omega)) ?_
    refine wz 4 ?_
    refine iz (fun c_31 c_31' => ?_) (fun c_31 c_31' => ?_)
    ·have hno : rising l n = false := rising_no hkl (fun q => by have h5 := q.2 (by omega); have h6 := of_decide_eq_true c_31; omega)
     refine wz 1 ?_
     exact rz rfl (Less.eq (by rw [hno]))
    have hst : (0 ≤ l[k] ∧ l[k] < n) ∧ (0 < k → l[k - 1] < l[k]) := ⟨by omega, fun q => by have := of_decide_eq_false c_31; omega⟩
    refine wz 2 ?_
    exact ⟨⟨k + 1, by omega, fun i hi q => by rcases Nat.lt_or_ge i k with q2 | q2; exact hok i hi q2; (obtain rfl : i = k := by omega); exact hst⟩, by simp only; omega, Sub.slots ⟨jz, jz, jz, jz, jz, trivial⟩⟩
   have hst : (0 ≤ l[k] ∧ l[k] < n) ∧ (0 < k → l[k - 1] < l[k]) := ⟨by omega, fun q => by omega⟩
   refine wz 12 ?_
   exact ⟨⟨k + 1, by omega, fun i hi q => by rcases Nat.lt_or_ge i k with q2 | q2; exact hok i hi q2; (obtain rfl : i = k := by omega); exact hst⟩, by simp only; omega, Sub.slots ⟨jz, jz, jz, jz, jz, trivial⟩⟩
  obtain rfl : k = l.length := by omega
  have hall := rising_yes fun i hi => hok i hi hi
  refine wz 1 ?_
  exact rz rfl (Less.eq (by rw [hall]))
theorem intF_ix {f : FuncId} {cap : List AV} {q : Int → Bool} (E : List (Int)) (hE : E.length ≤ 1000000) (en : Ent Tryz.prog f) (hc : ∀ i, (hi : i < E.length) → APure Tryz.prog f (I E[i] :: cap) (B (q E[i]))) (hp : AV.pureL cap = true) : APure Tryz.prog 162 [.sl 1 (E.map fun x => [I x]), .fn (.func f) [] cap] (I (ixQ q E)) := by
  refine ap Tryz.func162 (fun e0 he0 => ?_) (hp := by simp [AV.pureL, AV.pureB, hp])
  refine wz 4 ?_
  refine aw_loopk (ι := { k : Nat // k ≤ E.length ∧ ∀ i, (hi : i < E.length) → i < k → q E[i] = false }) [0, 1, 7] (fun i => [(8, I i.1)]) (fun H i => H) (fun i => E.length - i.1) (⟨0, Nat.zero_le _, by omega⟩) ⟨jz, jz, jz, jz, trivial⟩ rfl ?_
  rintro ⟨k, hk, hok⟩
  refine nz ?_
  refine wz 1 ?_
  refine iz (fun c_9 c_9' => ?_) (fun c_9 c_9' => ?_)
  ·have hkL : k < E.length := by omega
   refine wz 7 ?_
   refine sq_ev rfl (ev_call en jz (hc k hkL) ⟨jz, LessL.rfl' _⟩) ?_
   refine wz 0 ?_
   refine iz (fun c_16 c_16' => ?_) (fun c_16 c_16' => ?_)
   ·refine wz 2 ?_
    exact rz rfl (Less.eq (by rw [ixQ_at hkL (by simpa using c_16') hok]))
   refine wz 2 ?_
   exact ⟨⟨k + 1, by omega, fun i hi h => (by by_cases e : i = k; (subst e; simpa using c_16'); exact hok i hi (by omega))⟩, by simp only; omega, Sub.slots ⟨jz, jz, jz, jz, trivial⟩⟩
  refine wz 1 ?_
  exact rz rfl (Less.eq (by rw [ixQ_no fun i hi => hok i hi (by omega)]))
theorem intF_any {f : FuncId} {cap : List AV} {q : Int → Bool} (E : List (Int)) (hE : E.length ≤ 1000000) (en : Ent Tryz.prog f) (hc : ∀ i, (hi : i < E.length) → APure Tryz.prog f (I E[i] :: cap) (B (q E[i]))) (hp : AV.pureL cap = true) : APure Tryz.prog 130 [.sl 1 (E.map fun x => [I x]), .fn (.func f) [] cap] (B (E.any q)) := by
  refine ap Tryz.func130 (fun e0 he0 => ?_) (hp := by simp [AV.pureL, AV.pureB, hp])
  refine wz 3 ?_
  refine kz az (intF_ix E hE en hc hp) ?_
  refine wz 2 ?_
  exact rz rfl (Less.eq (by rw [← ixQ_any]))
theorem figF_ix {f : FuncId} {cap : List AV} {q : Fgr → Bool} (E : List (Fgr)) (hE : E.length ≤ 1000000) (en : Ent Tryz.prog f) (hc : ∀ i, (hi : i < E.length) → APure Tryz.prog f (.agg (fgC E[i]) :: cap) (B (q E[i]))) (hp : AV.pureL cap = true) : APure Tryz.prog 163 [.sl 3 (E.map fgC), .fn (.func f) [] cap] (I (ixQ q E)) := by
  refine ap Tryz.func163 (fun e0 he0 => ?_) (hp := by simp [AV.pureL, AV.pureB, hp])
  refine wz 4 ?_
  refine aw_loopk (ι := { k : Nat // k ≤ E.length ∧ ∀ i, (hi : i < E.length) → i < k → q E[i] = false }) [0, 1, 7] (fun i => [(8, I i.1)]) (fun H i => H) (fun i => E.length - i.1) (⟨0, Nat.zero_le _, by omega⟩) ⟨jz, jz, jz, jz, trivial⟩ rfl ?_
  rintro ⟨k, hk, hok⟩
  refine nz ?_
  refine wz 1 ?_
  refine iz (fun c_9 c_9' => ?_) (fun c_9 c_9' => ?_)
  ·have hkL : k < E.length := by omega
   refine wz 7 ?_
   refine sq_ev rfl (ev_call en jz (hc k hkL) ⟨jz, LessL.rfl' _⟩) ?_
   refine wz 0 ?_
   refine iz (fun c_16 c_16' => ?_) (fun c_16 c_16' => ?_)
   ·refine wz 2 ?_
    exact rz rfl (Less.eq (by rw [ixQ_at hkL (by simpa using c_16') hok]))
   refine wz 2 ?_
   exact ⟨⟨k + 1, by omega, fun i hi h => (by by_cases e : i = k; (subst e; simpa using c_16'); exact hok i hi (by omega))⟩, by simp only; omega, Sub.slots ⟨jz, jz, jz, jz, trivial⟩⟩
  refine wz 1 ?_
  exact rz rfl (Less.eq (by rw [ixQ_no fun i hi => hok i hi (by omega)]))
theorem figF_any {f : FuncId} {cap : List AV} {q : Fgr → Bool} (E : List (Fgr)) (hE : E.length ≤ 1000000) (en : Ent Tryz.prog f) (hc : ∀ i, (hi : i < E.length) → APure Tryz.prog f (.agg (fgC E[i]) :: cap) (B (q E[i]))) (hp : AV.pureL cap = true) : APure Tryz.prog 134 [.sl 3 (E.map fgC), .fn (.func f) [] cap] (B (E.any q)) := by
  refine ap Tryz.func134 (fun e0 he0 => ?_) (hp := by simp [AV.pureL, AV.pureB, hp])
  refine wz 3 ?_
  refine kz az (figF_ix E hE en hc hp) ?_
  refine wz 2 ?_
  exact rz rfl (Less.eq (by rw [← ixQ_any]))
theorem scnF_ix {f : FuncId} {cap : List AV} {q : Scn → Bool} (E : List (Scn)) (hE : E.length ≤ 1000000) (en : Ent Tryz.prog f) (hc : ∀ i, (hi : i < E.length) → APure Tryz.prog f (.agg (scC E[i]) :: cap) (B (q E[i]))) (hp : AV.pureL cap = true) : APure Tryz.prog 164 [.sl 4 (E.map scC), .fn (.func f) [] cap] (I (ixQ q E)) := by
  refine ap Tryz.func164 (fun e0 he0 => ?_) (hp := by simp [AV.pureL, AV.pureB, hp])
  refine wz 4 ?_
  refine aw_loopk (ι := { k : Nat // k ≤ E.length ∧ ∀ i, (hi : i < E.length) → i < k → q E[i] = false }) [0, 1, 7] (fun i => [(8, I i.1)]) (fun H i => H) (fun i => E.length - i.1) (⟨0, Nat.zero_le _, by omega⟩) ⟨jz, jz, jz, jz, trivial⟩ rfl ?_
  rintro ⟨k, hk, hok⟩
  refine nz ?_
  refine wz 1 ?_
  refine iz (fun c_9 c_9' => ?_) (fun c_9 c_9' => ?_)
  ·have hkL : k < E.length := by omega
   refine wz 7 ?_
   refine sq_ev rfl (ev_call en jz (hc k hkL) ⟨jz, LessL.rfl' _⟩) ?_
   refine wz 0 ?_
   refine iz (fun c_16 c_16' => ?_) (fun c_16 c_16' => ?_)
   ·refine wz 2 ?_
    exact rz rfl (Less.eq (by rw [ixQ_at hkL (by simpa using c_16') hok]))
   refine wz 2 ?_
   exact ⟨⟨k + 1, by omega, fun i hi h => (by by_cases e : i = k; (subst e; simpa using c_16'); exact hok i hi (by omega))⟩, by simp only; omega, Sub.slots ⟨jz, jz, jz, jz, trivial⟩⟩
  refine wz 1 ?_
  exact rz rfl (Less.eq (by rw [ixQ_no fun i hi => hok i hi (by omega)]))
theorem scnF_any {f : FuncId} {cap : List AV} {q : Scn → Bool} (E : List (Scn)) (hE : E.length ≤ 1000000) (en : Ent Tryz.prog f) (hc : ∀ i, (hi : i < E.length) → APure Tryz.prog f (.agg (scC E[i]) :: cap) (B (q E[i]))) (hp : AV.pureL cap = true) : APure Tryz.prog 135 [.sl 4 (E.map scC), .fn (.func f) [] cap] (B (E.any q)) := by
  refine ap Tryz.func135 (fun e0 he0 => ?_) (hp := by simp [AV.pureL, AV.pureB, hp])
  refine wz 3 ?_
  refine kz az (scnF_ix E hE en hc hp) ?_
  refine wz 2 ?_
  exact rz rfl (Less.eq (by rw [← ixQ_any]))
theorem index_pure (l : List Int) (n : Int) (hl : l.length ≤ 1000000) : APure Tryz.prog 82 [ints l, I n] (I (ixQ (fun x => decide (n = x)) l)) := by
  refine ap Tryz.func82 (fun e0 he0 => ?_)
  refine wz 4 ?_
  refine aw_loopk (ι := { k : Nat // k ≤ l.length ∧ ∀ i, (hi : i < l.length) → i < k → decide (n = l[i]) = false }) [0, 1, 7] (fun i => [(8, I i.1)]) (fun H i => H) (fun i => l.length - i.1) (⟨0, Nat.zero_le _, by omega⟩) ⟨jz, jz, jz, jz, trivial⟩ rfl ?_
  rintro ⟨k, hk, hok⟩
  refine nz ?_
  refine wz 1 ?_
  refine iz (fun c_9 c_9' => ?_) (fun c_9 c_9' => ?_)
  ·have hkL : k < l.length := by omega
   refine wz 8 ?_
   refine iz (fun c_16 c_16' => ?_) (fun c_16 c_16' => ?_)
   ·refine wz 2 ?_
    exact rz rfl (Less.eq (by rw [ixQ_at (q := fun x => decide (n = x)) hkL c_16 hok]))
   refine wz 2 ?_
   exact ⟨⟨k + 1, by omega, fun i hi h => (by by_cases e : i = k; (subst e; exact c_16); exact hok i hi (by omega))⟩, by simp only; omega, Sub.slots ⟨jz, jz, jz, jz, trivial⟩⟩
  refine wz 1 ?_
  exact rz rfl (Less.eq (by rw [ixQ_no (q := fun x => decide (n = x)) fun i hi => hok i hi (by omega)]))
theorem contains_pure (l : List Int) (n : Int) (hl : l.length ≤ 1000000) : APure Tryz.prog 132 [ints l, I n] (B (decide (n ∈ l))) := by
  refine ap Tryz.func132 (fun e0 he0 => ?_)
  refine wz 3 ?_
  refine kz az (index_pure l n hl) ?_
  refine wz 2 ?_
  exact rz rfl (Less.eq (congrArg B (by rw [ixQ_any (fun x => decide (n = x)) l, Bool.eq_iff_iff, List.any_eq_true, decide_eq_true_eq]; simp only [decide_eq_true_eq]; exact ⟨fun ⟨x, h, e⟩ => e ▸ h, fun h => ⟨n, h, rfl⟩⟩)))
theorem play1_pure (f : Fgr) : APure Tryz.prog 127 [.agg (fgC f)] (B (!fgOK f)) := by
  refine ap Tryz.func127 (fun e0 he0 => ?_)
  refine wz 6 ?_
  refine sz 6 (fun g1_3 g1_3' => ?_) (fun g1_3 g1_3' => ?_)
  ·refine wz 17 ?_
   exact rz rfl (Less.eq (congrArg B (by unfold fgOK; rw [show inn f.side 1 3 = (!(decide (f.side < 1)) && !(decide (f.side > 3))) by unfold inn; rw [Bool.eq_iff_iff]; simp]; simp [*])))
  refine wz 5 ?_
  refine sz 11 (fun g1_8 g1_8' => ?_) (fun g1_8 g1_8' => ?_)
  ·refine wz 12 ?_
   exact rz rfl (Less.eq (congrArg B (by unfold fgOK; rw [show inn f.side 1 3 = (!(decide (f.side < 1)) && !(decide (f.side > 3))) by unfold inn; rw [Bool.eq_iff_iff]; simp]; simp [*])))
  refine wz 2 ?_
  refine ky az (in_pure _ _ _) ?_
  refine wz 3 ?_
  refine sz 17 (fun g1_14 g1_14' => ?_) (fun g1_14 g1_14' => ?_)
  ·refine wz 6 ?_
   exact rz rfl (Less.eq (congrArg B (by unfold fgOK; rw [show inn f.side 1 3 = (!(decide (f.side < 1)) && !(decide (f.side > 3))) by unfold inn; rw [Bool.eq_iff_iff]; simp]; simp [*])))
  refine wz 2 ?_
  refine ky az (in_pure _ _ _) ?_
  refine wz 3 ?_
  exact rz rfl (Less.eq (congrArg B (by unfold fgOK; rw [show inn f.side 1 3 = (!(decide (f.side < 1)) && !(decide (f.side > 3))) by unfold inn; rw [Bool.eq_iff_iff]; simp]; simp [*])))
theorem play3_pure (n : Int) : APure Tryz.prog 133 [I n] (B (!inn n 1 9)) := by
  refine ap Tryz.func133 (fun e0 he0 => ?_)
  refine wz 2 ?_
  refine kz az (in_pure _ _ _) ?_
  refine wz 2 ?_
  exact rz rfl jz
theorem play21_pure (n : Int) (x : Scn) (hl : x.rest.length ≤ 1000000) : APure Tryz.prog 131 [I n, .iptr (scC x)] (B (decide (n ∈ x.rest))) := by
  refine ap Tryz.func131 (fun e0 he0 => ?_)
  refine wz 4 ?_
  refine kz az (contains_pure _ _ hl) ?_
  refine wz 1 ?_
  exact rz rfl jz
theorem play2_pure (p : Ply) (x : Scn) (h1 : x.moved.length ≤ 1000000) (h2 : x.rest.length ≤ 1000000) (h3 : x.taken.length ≤ 1000000) (hh : p.hts.length ≤ 1000000) (hf : p.figs.length ≤ 1000000) : APure Tryz.prog 128 [.agg (scC x), .iptr (plC p)] (B (!scOK p x)) := by
  refine ap Tryz.func128 (fun e0 he0 => ?_)
  refine vz 2 ?_
  refine sq_nil ?_
  refine aw_seq ?_
  refine aw_sub (sub_iptrK [1, 3] 2 (j := 0) (l := scC x) rfl rfl) ?_
  refine wz 5 ?_
  refine kz az (rising_pure x.moved p.figs.length h1 hf) ?_
  refine wz 2 ?_
  refine sz 11 (fun g1_7 g1_7' => ?_) (fun g1_7 g1_7' => ?_)
  ·refine wz 36 ?_
   exact rz rfl (Less.eq (congrArg B (by unfold scOK; rw [← any_not (fun n => !decide (n ∈ x.rest)) x.moved]; simp [*])))
  refine wz 5 ?_
  refine ky az (rising_pure x.rest p.figs.length h2 hf) ?_
  refine wz 3 ?_
  refine sz 20 (fun g1_16 g1_16' => ?_) (fun g1_16 g1_16' => ?_)
  ·refine wz 27 ?_
   exact rz rfl (Less.eq (congrArg B (by unfold scOK; rw [← any_not (fun n => !decide (n ∈ x.rest)) x.moved]; simp [*])))
  refine wz 5 ?_
  refine ky az (rising_pure x.taken p.hts.length h3 hh) ?_
  refine wz 3 ?_
  refine sz 29 (fun g1_25 g1_25' => ?_) (fun g1_25 g1_25' => ?_)
  ·refine wz 18 ?_
   exact rz rfl (Less.eq (congrArg B (by unfold scOK; rw [← any_not (fun n => !decide (n ∈ x.rest)) x.moved]; simp [*])))
  refine wz 6 ?_
  refine sz 35 (fun g1_31 g1_31' => ?_) (fun g1_31 g1_31' => ?_)
  ·have k31 : ¬ x.rest.length ≤ 4 := by omega
   refine wz 12 ?_
   exact rz rfl (Less.eq (congrArg B (by unfold scOK; rw [← any_not (fun n => !decide (n ∈ x.rest)) x.moved]; simp [*])))
  have k31 : x.rest.length ≤ 4 := by omega
  refine wz 2 ?_
  refine ky az (in_pure _ _ _) ?_
  refine wz 3 ?_
  refine sz 41 (fun g1_37 g1_37' => ?_) (fun g1_37 g1_37' => ?_)
  ·refine wz 6 ?_
   exact rz rfl (Less.eq (congrArg B (by unfold scOK; rw [← any_not (fun n => !decide (n ∈ x.rest)) x.moved]; simp [*])))
  refine wz 3 ?_
  refine sq_yes rfl rfl (less_b g1_37) rfl (ev_call en130.h jz (intF_any (cap := [.iptr (scC x)]) (q := fun n => decide (n ∈ x.rest)) x.moved h1 en131.h (fun i hi => play21_pure _ x h2) (by simp [AV.pureL, AV.pureB])) ⟨jz, jz, trivial⟩) ?_
  refine wz 2 ?_
  exact rz rfl (Less.eq (congrArg B (by unfold scOK; rw [← any_not (fun n => !decide (n ∈ x.rest)) x.moved]; simp [*])))
theorem isplay_pure (p : Ply) (hh : p.hts.length ≤ 1000000) (hf : p.figs.length ≤ 1000000) (hs : p.scs.length ≤ 1000000) (hx : ∀ x ∈ p.scs, x.moved.length ≤ 1000000 ∧ x.rest.length ≤ 1000000 ∧ x.taken.length ≤ 1000000) : APure Tryz.prog 75 [plA p] (B (plOK p)) := by
  refine ap Tryz.func75 (fun e0 he0 => ?_)
  refine wz 5 ?_
  refine kz az (in_pure _ _ _) ?_
  refine wz 2 ?_
  refine sz 10 (fun g1_5 g1_5' => ?_) (fun g1_5 g1_5' => ?_)
  ·refine wz 24 ?_
   exact rz rfl (Less.eq (congrArg B (by unfold plOK; rw [← any_not (fun n => inn n 1 9) p.hts, ← any_not fgOK p.figs, ← any_not (scOK p) p.scs]; simp [*])))
  refine wz 5 ?_
  refine ky az (in_pure _ _ _) ?_
  refine wz 3 ?_
  refine sz 19 (fun g1_14 g1_14' => ?_) (fun g1_14 g1_14' => ?_)
  ·refine wz 15 ?_
   exact rz rfl (Less.eq (congrArg B (by unfold plOK; rw [← any_not (fun n => inn n 1 9) p.hts, ← any_not fgOK p.figs, ← any_not (scOK p) p.scs]; simp [*])))
  refine wz 3 ?_
  refine ky az (in_pure _ _ _) ?_
  refine wz 3 ?_
  refine sz 26 (fun g1_21 g1_21' => ?_) (fun g1_21 g1_21' => ?_)
  ·refine wz 8 ?_
   exact rz rfl (Less.eq (congrArg B (by unfold plOK; rw [← any_not (fun n => inn n 1 9) p.hts, ← any_not fgOK p.figs, ← any_not (scOK p) p.scs]; simp [*])))
  refine wz 3 ?_
  refine ky az (in_pure _ _ _) ?_
  refine wz 2 ?_
  refine iz (fun c_32 c_32' => ?_) (fun c_32 c_32' => ?_)
  ·refine wz 1 ?_
   exact rz rfl (Less.eq (congrArg B (by unfold plOK; rw [← any_not (fun n => inn n 1 9) p.hts, ← any_not fgOK p.figs, ← any_not (scOK p) p.scs]; simp [*])))
  refine vz 1 ?_
  refine sq_nil ?_
  refine aw_seq ?_
  refine aw_sub (sub_iptrK [0, 2, 3] 1 (j := 0) (l := plC p) rfl rfl) ?_
  refine wz 4 ?_
  refine sq_ev rfl (ev_call en130.h jz (intF_any (q := fun n => !inn n 1 9) p.hts hh en133.h (fun i hi => play3_pure _) rfl) ⟨jz, jz, trivial⟩) ?_
  refine wz 2 ?_
  refine sz 38 (fun g5_4 g5_4' => ?_) (fun g5_4 g5_4' => ?_)
  ·refine wz 3 ?_
   refine sq_yes rfl rfl (less_b g5_4) rfl (ev_call en134.h jz (figF_any (q := fun f => !fgOK f) p.figs hf en127.h (fun i hi => play1_pure _) rfl) ⟨jz, jz, trivial⟩) ?_
   refine wz 3 ?_
   refine sz 45 (fun g5_11 g5_11' => ?_) (fun g5_11 g5_11' => ?_)
   ·refine wz 3 ?_
    refine sq_yes rfl rfl (less_b g5_11) rfl (ev_call en135.h jz (scnF_any (cap := [.iptr (plC p)]) (q := fun x => !scOK p x) p.scs hs en128.h (fun i hi => by have h9 := hx _ (List.getElem_mem hi); exact play2_pure p _ h9.1 h9.2.1 h9.2.2 hh hf) (by simp [AV.pureL, AV.pureB])) ⟨jz, jz, trivial⟩) ?_
    refine wz 3 ?_
    exact rz rfl (Less.eq (congrArg B (by unfold plOK; rw [← any_not (fun n => inn n 1 9) p.hts, ← any_not fgOK p.figs, ← any_not (scOK p) p.scs]; simp [*])))
   refine wz 7 ?_
   exact rz rfl (Less.eq (congrArg B (by unfold plOK; rw [← any_not (fun n => inn n 1 9) p.hts, ← any_not fgOK p.figs, ← any_not (scOK p) p.scs]; simp [*])))
  refine wz 14 ?_
  exact rz rfl (Less.eq (congrArg B (by unfold plOK; rw [← any_not (fun n => inn n 1 9) p.hts, ← any_not fgOK p.figs, ← any_not (scOK p) p.scs]; simp [*])))
end Go.Proofs.YtfmpabgblbbcdaaGreatDoor
namespace Go.Proofs.YtfmpabgblbbcdaaGreatDoor
open Go Go.Ab Ni St
open Hd hiding sz
instance bi127 : BdI Tryz.prog 127 [.raw (.int .i64 0), .raw (.slice none 0 0), .raw (.slice none 0 0), .raw (.slice none 0 0), .raw (.slice none 0 0), .raw (.slice none 0 0), .raw (.int .i64 0), .raw (.slice none 0 0)] true [(0, 4), (4, 4)] 0 := ⟨by kernel_rfl⟩
instance bi192 : BdI Tryz.prog 192 [.raw .nilFunc, .raw .nilFunc, .raw .nilFunc] false [] 1 := ⟨by kernel_rfl⟩
instance bi233 : BdI Tryz.prog 233 [] true [] 0 := ⟨by kernel_rfl⟩
instance en159 : EnT Tryz.prog 159 := ⟨Ent.of Tryz.func159 (by kernel_rfl) rfl⟩
instance en186 : EnT Tryz.prog 186 := ⟨Ent.of Tryz.func186 (by kernel_rfl) rfl⟩
instance en187 : EnT Tryz.prog 187 := ⟨Ent.of Tryz.func187 (by kernel_rfl) rfl⟩
instance en188 : EnT Tryz.prog 188 := ⟨Ent.of Tryz.func188 (by kernel_rfl) rfl⟩
instance en203 : EnT Tryz.prog 203 := ⟨Ent.of Tryz.func203 (by kernel_rfl) rfl⟩
instance en91 : EnT Tryz.prog 91 := ⟨Ent.of Tryz.func91 (by kernel_rfl) rfl⟩
instance fo127_0 : FoF Tryz.prog 127 0 0 26 := ⟨by kernel_rfl⟩
instance fo127_1 : FoF Tryz.prog 127 1 4 41 := ⟨by kernel_rfl⟩
theorem it3 : isIntT Tryz.prog 3 = true := by kernel_rfl
theorem mo : Tryz.prog.follows .mixedOrders = true := by kernel_rfl
theorem mt232 : mapTy Tryz.prog 232 = some (3, 233) := by kernel_rfl
instance sf22 : SlS Tryz.prog 22 3 1 8 := ⟨SlFact.of (by kernel_rfl)⟩
instance ty127 : TyF Tryz.prog 127 true 8 := ⟨by kernel_rfl⟩
instance ty192 : TyF Tryz.prog 192 true 3 := ⟨by kernel_rfl⟩
instance ty233 : TyF Tryz.prog 233 true 0 := ⟨by kernel_rfl⟩
instance ty26 : TyF Tryz.prog 26 true 4 := ⟨by kernel_rfl⟩
instance ud22 : UnD Tryz.prog 22 (.slice 3) := ⟨Tryz.underlying22⟩
instance un4 : UnD Tryz.prog 4 .bool := ⟨by kernel_rfl⟩
instance z127 : ZeO Tryz.prog 127 [.raw (.int .i64 0), .raw (.slice none 0 0), .raw (.slice none 0 0), .raw (.slice none 0 0), .raw (.slice none 0 0), .raw (.slice none 0 0), .raw (.int .i64 0), .raw (.slice none 0 0)] := ⟨by kernel_rfl⟩
instance z192 : ZeO Tryz.prog 192 [.raw .nilFunc, .raw .nilFunc, .raw .nilFunc] := ⟨by kernel_rfl⟩
instance z233 : ZeO Tryz.prog 233 [] := ⟨by kernel_rfl⟩
theorem I1 {l : List Int} : ∀ q ∈ (l.map fun x => [I x]), q.length = 1 := fun q hq => by obtain ⟨x, _, rfl⟩ := List.mem_map.1 hq; rfl
theorem clone_x (l : List Int) (hm : l.length ≤ 1000000) (H0 : List AObj) : ACall Tryz.prog 91 [ints l] H0 (fun x H' => ∃ a, x = .ret a ∧ OwnX 1 H0 (l.map fun x => [I x]) a H') := by
  refine acall_of (rs := [.tmp 2]) Tryz.func91 rfl rfl (Nat.le_of_ble_eq_true rfl) fun e0 he0 => ?_
  refine aw_seq ?_
  refine aw_region (sq_ev rfl (ev_as (v := .raw _) jz) ?_)
  refine sq_nil ?_
  refine aw_seq ?_
  refine aw_seq ?_
  refine aw_region (sq_ev rfl (ev_mv (v := .sl _ _) jz) ?_)
  refine sq_isnil rfl sl22.h jz jz (fun hnil => ?_) ?_
  · refine sq_nil ?_
    refine aw_true jz ?_
    refine aw_seq ?_
    refine aw_region (sq_ev rfl (ev_as (v := .raw _) jz) ?_)
    refine sq_nil ?_
    refine aw_sub (Sub.slots (sl' := [(2, .slx 1 [])]) ⟨less_nilx 1, trivial⟩) ?_
    refine aw_ret ?_
    exact ⟨rfl, _, rfl, _, rfl, .inl ⟨rfl, hnil, rfl⟩⟩
  · refine sq_nil ?_
    refine aw_false jz ?_
    refine aw_skip ?_
    refine aw_seq ?_
    refine aw_region (sq_ev rfl (ev_buildSlice (es := []) sf22.h rfl rfl rfl rfl) ?_)
    refine sq_ev rfl (ev_mv (v := .sl _ _) jz) ?_
    rcases Nat.eq_zero_or_pos l.length with hz | hz
    · obtain rfl := List.length_eq_zero_iff.1 hz
      refine sq_ev rfl (ev_append_none2 sf22.h Tryz.underlying22 jz jz) ?_
      refine sq_ev rfl (ev_as (v := .slx _ _) jz) ?_
      refine sq_nil (aw_ret ?_)
      exact ⟨rfl, _, rfl, _, rfl, .inl ⟨rfl, rfl, rfl⟩⟩
    · refine sq_append_msl rfl sf22.h Tryz.underlying22 jz jz (by simpa using hz) (by simp; omega) (by simp; omega) fun cap hcap => ?_
      refine sq_ev rfl (ev_as (v := .msl _ _ _ _) jz) ?_
      refine sq_nil (aw_ret ?_)
      exact ⟨rfl, _, rfl, _, rfl, .inr ⟨cap, hcap, by simpa using hz, rfl, rfl⟩⟩
theorem clone_pure (l : List Int) (hm : l.length ≤ 1000000) : APure Tryz.prog 91 [ints l] (ints l) := by
  refine apure_of (rs := [.tmp 2]) Tryz.func91 rfl rfl (Nat.le_of_ble_eq_true rfl) (by simp [AV.pureL, AV.pureB]) (by simp [AV.pureB]) fun e0 he0 => ?_
  refine aw_seq ?_
  refine aw_region (sq_ev rfl (ev_as (v := .raw _) jz) ?_)
  refine sq_nil ?_
  refine aw_seq ?_
  refine aw_seq ?_
  refine aw_region (sq_ev rfl (ev_mv (v := .sl _ _) jz) ?_)
  refine sq_isnil rfl sl22.h jz jz (fun hnil => ?_) ?_
  · refine sq_nil ?_
    refine aw_true jz ?_
    refine aw_seq ?_
    refine aw_region (sq_ev rfl (ev_as (v := .raw _) jz) ?_)
    refine sq_nil ?_
    refine aw_sub (Sub.slots (sl' := [(2, .slx 1 [])]) ⟨less_nilx 1, trivial⟩) ?_
    refine aw_ret ?_
    exact retQ_pure (v := .slx 1 []) rfl rfl (Less.trans (less_slx 1 []) (Less.eq (congrArg (AV.sl 1) hnil.symm)))
  · refine sq_nil ?_
    refine aw_false jz ?_
    refine aw_skip ?_
    refine aw_seq ?_
    refine aw_region (sq_ev rfl (ev_buildSlice (es := []) sf22.h rfl rfl rfl rfl) ?_)
    refine sq_ev rfl (ev_mv (v := .sl _ _) jz) ?_
    rcases Nat.eq_zero_or_pos l.length with hz | hz
    · obtain rfl := List.length_eq_zero_iff.1 hz
      refine sq_ev rfl (ev_append_none2 sf22.h Tryz.underlying22 jz jz) ?_
      refine sq_ev rfl (ev_as (v := .slx _ _) jz) ?_
      refine sq_nil (aw_ret ?_)
      exact retQ_pure (v := .slx 1 []) rfl rfl (less_slx 1 [])
    · refine sq_append_msl rfl sf22.h Tryz.underlying22 jz jz (by simpa using hz) (by simp; omega) (by simp; omega) fun cap hcap => ?_
      refine sq_ev rfl (ev_as (v := .msl _ _ _ _) jz) ?_
      refine sq_nil ?_
      refine aw_sub (sub_freezeK [] 2 (j := 0) (n := (l.map fun x => [I x]).length) (cap := cap) (sz := 1) (es := l.map fun x => [I x]) rfl rfl rfl I1) ?_
      refine aw_ret ?_
      exact retQ_pure (v := .sl _ _) rfl rfl jz
theorem rkd_no {p : Ply} {x : Scn} {l : List Int} {i j : Nat} (hj : j < i) (h : ¬ (clash p x l j i = false ∧ clash p x l i j = false)) : rkd p x l i = false := decide_eq_false fun q => h (q j hj)
abbrev hidO (l : List Int) : AObj := .map (imap (setM l))
def hdL (p : Ply) (x : Scn) (k : Nat) : List Int := max 0 (x.knocks - 1) :: (x.moved.take k).map fun f => (fg p f).hands
theorem hdL_succ {p : Ply} {x : Scn} {k : Nat} (h : k < x.moved.length) : hdL p x (k + 1) = hdL p x k ++ [(fg p x.moved[k]).hands] := by
  unfold hdL; rw [List.take_succ_eq_append_getElem h, List.map_append]; rfl
theorem hdL_len {p : Ply} {x : Scn} {k : Nat} : (hdL p x k).length ≤ x.moved.length + 1 := by unfold hdL; simp; omega
theorem hdL_sum (p : Ply) (x : Scn) : (hdL p x x.moved.length).sum = hands p x := by unfold hdL hands; rw [List.take_length, List.sum_cons]
theorem hdL_bd {p : Ply} (B : PlB p) {x : Scn} (X : ScB p x) (k : Nat) : ∀ n ∈ hdL p x k, 0 ≤ n ∧ n ≤ 1000 := fun n hn => by
  have hk := X.kn
  rcases List.mem_cons.1 hn with rfl | hn
  · omega
  · obtain ⟨f, hf, rfl⟩ := List.mem_map.1 hn
    have h := (rising_iff.1 X.mv).2 f (List.mem_of_mem_take hf)
    have := (fg_B B h.1 h.2).2.2
    omega
theorem sum_bd : ∀ {l : List Int} (k : Nat), (∀ n ∈ l, 0 ≤ n ∧ n ≤ 1000) → 0 ≤ (l.take k).sum ∧ (l.take k).sum ≤ 1000 * l.length
  | [], k, _ => by simp
  | n :: l, 0, _ => by simp only [List.take_zero, List.sum_nil, List.length_cons]; omega
  | n :: l, k + 1, h => by
    have h1 := h n (by simp)
    have h2 := sum_bd (l := l) k fun m hm => h m (List.mem_cons_of_mem _ hm)
    simp only [List.take_succ_cons, List.sum_cons, List.length_cons]; omega
theorem sum_succ {l : List Int} {k : Nat} (h : k < l.length) : (l.take (k + 1)).sum = (l.take k).sum + l[k] := by rw [List.take_succ_eq_append_getElem h, List.sum_append]; simp
theorem mv_at {p : Ply} {x : Scn} (X : ScB p x) {k : Nat} (h : k < x.moved.length) : 0 ≤ x.moved[k] ∧ x.moved[k] < p.figs.length := (rising_iff.1 X.mv).2 _ (List.getElem_mem h)
theorem rs_at {p : Ply} {x : Scn} (X : ScB p x) {k : Nat} (h : k < x.rest.length) : 0 ≤ x.rest[k] ∧ x.rest[k] < p.figs.length := (rising_iff.1 X.rs).2 _ (List.getElem_mem h)
theorem rf_at {p : Ply} {x : Scn} (X : ScB p x) {k : Nat} (h : k < x.rest.length) : rf p x k = p.figs[(x.rest[k]).toNat]'(by have := rs_at X h; omega) := by
  have := rs_at X h
  unfold rf; rw [getD_at h, fg_at this.1 this.2]
theorem stage_pure {p : Ply} {n : Nat} (hn : n < p.scs.length) (hl : p.scs.length ≤ 1000000) : APure Tryz.prog 98 [plA p, I n] (stA p (sc p n)) := by
  refine ap Tryz.func98 (fun e0 he0 => ?_)
  refine wz 2 ?_
  refine aw_draw 7 mo (by kernel_rfl) ?_
  refine dz 4 ?_
  refine dr_ev rfl (ev_index_map (k := n) (xs := p.scs) sl24.h jz jz rfl hn) ?_
  refine dz 2 ?_
  refine wz 1 ?_
  exact retQ_res (vs := [.agg _]) rfl rfl ⟨resVar_cell rfl rfl ty127.h rfl, trivial⟩ (Less.eq (by rw [sc_at hn] <;> rfl))
theorem sum_pure (l : List Int) (hl : l.length ≤ 1000) (hb : ∀ n ∈ l, 0 ≤ n ∧ n ≤ 1000) : APure Tryz.prog 159 [ints l] (I l.sum) := by
  refine ap Tryz.func159 (fun e0 he0 => ?_)
  refine wz 5 ?_
  refine aw_loopk (ι := { k : Nat // k ≤ l.length }) [6, 7] (fun i => [(8, I i.1), (3, I (l.take i.1).sum)]) (fun H i => H) (fun i => l.length - i.1) (⟨0, Nat.zero_le _⟩) ⟨jz, jz, jz, jz, trivial⟩ rfl ?_
  rintro ⟨k, hk⟩
  refine nz ?_
  have hsb := sum_bd (l := l) k hb
  refine wz 1 ?_
  refine iz (fun c_9 c_9' => ?_) (fun c_9 c_9' => ?_)
  ·have hkl : k < l.length := by omega
   have hbk := hb _ (List.getElem_mem hkl)
   refine wz 9 ?_
   exact ⟨⟨k + 1, by omega⟩, by simp only; omega, Sub.slots ⟨jz, Less.eq (by rw [sum_succ hkl] <;> rfl), jz, jz, trivial⟩⟩
  obtain rfl : k = l.length := by omega
  refine wz 2 ?_
  exact rz rfl (Less.eq (by rw [List.take_length]))
theorem hands_pure {p : Ply} (gP : PlB p) {x : Scn} (gX : ScB p x) : APure Tryz.prog 117 [stA p x] (I (hands p x)) := by
  refine ap Tryz.func117 (fun e0 he0 => ?_)
  refine vz 2 ?_
  refine sq_nil ?_
  refine aw_seq ?_
  have hkn := gX.kn
  have hnf := gP.nf
  have hml := rising_len gX.mv
  refine wz 5 ?_
  refine sq_ev rfl (ev_buildSlice (es := [[_]]) sf22.h rfl rfl rfl rfl) ?_
  refine vz 6 ?_
  refine sq_nil ?_
  refine aw_block ?_
  refine aw_sub (sub_token_slx 3 1 jz) ?_
  refine aw_loopk (ι := { k : Nat // k ≤ x.moved.length }) [1, 14, 15] (fun i => [(16, I i.1), (3, .own 1 1 ((hdL p x i.1).map fun x => [I x]))]) (fun H i => H.set 1 (.tok ((hdL p x i.1).map fun x => [I x]).length)) (fun i => x.moved.length - i.1) (⟨0, Nat.zero_le _⟩) ⟨jz, jz, jz, jz, jz, trivial⟩ rfl ?_
  rintro ⟨k, hk⟩
  refine nz ?_
  have hhl := hdL_len (p := p) (x := x) (k := k)
  refine wz 1 ?_
  refine iz (fun c_17 c_17' => ?_) (fun c_17 c_17' => ?_)
  ·have hkl : k < x.moved.length := by omega
   have hmk := mv_at gX hkl
   have eS : ((hdL p x (k + 1)).map fun x => [I x]) = ((hdL p x k).map fun x => [I x]) ++ [[I (p.figs[(x.moved[k]).toNat]).hands]] := by rw [hdL_succ hkl, List.map_append, fg_at hmk.1 hmk.2]; rfl
   refine wz 8 ?_
   refine sq_ev rfl (ev_index_map (k := (x.moved[k]).toNat) (xs := p.figs) sl23.h jz jz (by have := mv_at gX hkl; omega) (by have := mv_at gX hkl; omega)) ?_
   refine wz 2 ?_
   refine sq_ev rfl (ev_buildSlice (es := [[_]]) sf22.h rfl rfl rfl rfl) ?_
   first | refine sq_append rfl sf22.h Tryz.underlying22 rfl rfl jz (Nat.succ_pos _) (by simp; omega) (by simp; omega) ?_ | refine sq_append rfl sf22.h Tryz.underlying22 rfl rfl (less_slx _ _) (Nat.succ_pos _) (by simp; omega) (by simp; omega) ?_
   refine wz 3 ?_
   exact ⟨⟨k + 1, by omega⟩, by simp only; omega, sb 2 ⟨jz, Less.eq (by rw [eS] <;> rfl), jz, jz, jz, trivial⟩ (hH := (congrArg (fun n => [_, AObj.tok n]) (congrArg List.length eS.symm)))⟩
  obtain rfl : k = x.moved.length := by omega
  refine wz 1 ?_
  refine sq_ev rfl (ev_call en159.h jz (sum_pure (hdL p x x.moved.length) (by have := hdL_len (p := p) (x := x) (k := x.moved.length); omega) (hdL_bd gP gX _)) ⟨less_own _ _ _, trivial⟩) ?_
  refine wz 1 ?_
  exact rz rfl (Less.eq (by rw [hdL_sum]))
theorem left_pure (p : Ply) (x : Scn) (n : Int) : APure Tryz.prog 203 [stA p x, I n] (B (lf p n)) := by
  refine ap Tryz.func203 (fun e0 he0 => ?_)
  refine wz 8 ?_
  exact rz rfl jz
theorem low_pure {p : Ply} (gP : PlB p) {x : Scn} (gX : ScB p x) {l : List Int} {i : Nat} (hi : i + 1 = l.length) (hr : l.length ≤ x.rest.length) (hm : ∀ a ∈ l, 0 ≤ a ∧ a < p.hts.length) : APure Tryz.prog 187 [stA p x, ints l] (B (low p x l i)) := by
  refine ap Tryz.func187 (fun e0 he0 => ?_)
  refine vz 2 ?_
  refine sq_nil ?_
  refine aw_seq ?_
  have hr4 := gX.r4
  have hli : i < l.length := by omega
  have hri : i < x.rest.length := by omega
  have hmi := hm _ (List.getElem_mem hli)
  have hfi := rs_at gX hri
  have hrf := rf_at gX hri
  have hg := getD_at (d := 0) hli
  have hlt : (l.take i).length = i := by rw [List.length_take]; omega
  refine wz 4 ?_
  refine aw_draw 23 mo (by kernel_rfl) ?_
  refine dz 5 ?_
  refine dr_ev rfl (ev_index_map (k := i) (xs := l) sl22.h jz jz (by omega) (by omega)) ?_
  refine dz 1 ?_
  refine dr_ev rfl (ev_index_map (k := (l[i]).toNat) (xs := p.hts) sl22.h jz jz (by have := hmi; omega) (by have := hmi; omega)) ?_
  refine dz 8 ?_
  refine dr_ev rfl (ev_index_map (k := i) (xs := x.rest) sl22.h jz jz (by omega) (by omega)) ?_
  refine dz 1 ?_
  refine dr_ev rfl (ev_index_map (k := (x.rest[i]).toNat) (xs := p.figs) sl23.h jz jz (by have := hfi; omega) (by have := hfi; omega)) ?_
  refine dz 4 ?_
  refine wz 0 ?_
  exact rz rfl (Less.eq (congrArg B (by unfold low; rw [hg, ht_at hmi.1 hmi.2, hrf])))
theorem placed_pure {p : Ply} (gP : PlB p) {x : Scn} (gX : ScB p x) {l : List Int} {i : Nat} (hi : i + 1 = l.length) (hr : l.length ≤ x.rest.length) (hm : ∀ a ∈ l, 0 ≤ a ∧ a < p.hts.length) : APure Tryz.prog 186 [stA p x, ints l] (B (plc p x l i)) := by
  refine ap Tryz.func186 (fun e0 he0 => ?_)
  refine aw_seq ?_
  have hr4 := gX.r4
  have htl := rising_len gX.tk
  have hnh := gP.nh
  have hlt : (l.take i).length = i := by rw [List.length_take]; omega
  refine wz 2 ?_
  refine sq_makeMap rfl ?_
  refine wz 6 ?_
  refine aw_loopk (ι := { k : Nat // k ≤ x.taken.length }) [1, 2, 5, 17, 18] (fun k => [(19, I k.1)]) (fun H k => H.set 1 (hidO (x.taken.take k.1))) (fun k => x.taken.length - k.1) (⟨0, Nat.zero_le _⟩) ⟨jz, jz, jz, jz, jz, jz, trivial⟩ rfl ?_
  rintro ⟨k, hk⟩
  refine nz ?_
  refine wz 1 ?_
  refine iz (fun c_20 c_20' => ?_) (fun c_20 c_20' => ?_)
  ·have hkl : k < x.taken.length := by omega
   refine wz 6 ?_
   refine sq_setAdd (A := [AObj.cells (stC p x)]) (Y := []) (l := x.taken.take k) (l' := x.taken.take (k + 1)) rfl rfl mt232 it3 jz rfl jz less_unit (by rw [List.take_succ_eq_append_getElem hkl]) ?_
   refine wz 2 ?_
   exact ⟨⟨k + 1, by omega⟩, by simp only; omega, sb 2 ⟨jz, jz, jz, jz, jz, jz, trivial⟩⟩
  obtain rfl : k = x.taken.length := by omega
  refine aw_exit ?_
  refine aw_seq ?_
  rw [List.take_length]
  refine wz 6 ?_
  refine sq_ev rfl (ev_less (ev_slice (lo := 0) (hi := i) sl22.h jz rfl (less_int (by omega)) (by omega) (by simp; omega)) (Less.eq (b := ints (l.take i)) (by rw [List.drop_zero, ← List.map_take]))) ?_
  refine wz 2 ?_
  refine aw_loopk (ι := { k : Nat // k ≤ i }) [1, 2, 5, 8, 32, 33] (fun k => [(34, I k.1)]) (fun H k => H.set 1 (hidO (x.taken ++ l.take k.1))) (fun k => i - k.1) (⟨0, Nat.zero_le _⟩) ⟨jz, jz, jz, jz, jz, jz, jz, trivial⟩ (by rw [List.take_zero, List.append_nil] <;> rfl) ?_
  rintro ⟨k, hk⟩
  refine nz ?_
  refine wz 1 ?_
  refine iz (fun c_35 c_35' => ?_) (fun c_35 c_35' => ?_)
  ·have hkl : k < (l.take i).length := by omega
   refine wz 6 ?_
   refine sq_setAdd (A := [AObj.cells (stC p x)]) (Y := []) (l := x.taken ++ l.take k) (l' := x.taken ++ l.take (k + 1)) rfl rfl mt232 it3 jz rfl jz less_unit (by rw [List.take_succ_eq_append_getElem (by omega), List.append_assoc, List.getElem_take]) ?_
   refine wz 2 ?_
   exact ⟨⟨k + 1, by omega⟩, by simp only; omega, sb 2 ⟨jz, jz, jz, jz, jz, jz, jz, trivial⟩⟩
  obtain rfl : i = k := by omega
  refine aw_exit ?_
  refine aw_seq ?_
  have hli : i < l.length := by omega
  have hri : i < x.rest.length := by omega
  have hmi := hm _ (List.getElem_mem hli)
  have hfi := rs_at gX hri
  have hrf := rf_at gX hri
  have hg := getD_at (d := 0) hli
  refine wz 3 ?_
  refine sq_ev rfl (ev_index_map (k := i) (xs := l) sl22.h jz jz (by omega) (by omega)) ?_
  refine wz 1 ?_
  refine sq_ev rfl (ev_lookup_set mt232 it3 z233.h jz jz rfl) ?_
  refine wz 6 ?_
  refine aw_draw 13 mo (by kernel_rfl) ?_
  refine dz 7 ?_
  refine dr_ev rfl (ev_index_map (k := i) (xs := x.rest) sl22.h jz jz (by omega) (by omega)) ?_
  refine dz 1 ?_
  refine dr_ev rfl (ev_index_map (k := (x.rest[i]).toNat) (xs := p.figs) sl23.h jz jz (by have := hfi; omega) (by have := hfi; omega)) ?_
  refine dz 3 ?_
  refine wz 0 ?_
  refine aw_draw 18 mo (by kernel_rfl) ?_
  refine dz 3 ?_
  refine dsz 65 (fun g15_2 g15_2' => ?_) (fun g15_2 g15_2' => ?_)
  ·have hnn : ¬ (l[i] ∈ x.taken ∨ l[i] ∈ l.take i) := fun q => g15_2' (List.mem_append.2 q)
   refine dz 3 ?_
   refine dsz 68 (fun g15_5 g15_5' => ?_) (fun g15_5 g15_5' => ?_)
   ·refine dz 12 ?_
    refine wz 0 ?_
    exact rz rfl (Less.eq (congrArg B (by unfold plc; rw [hg, hrf]; first | (rw [decide_eq_true hyy]; rfl) | (rw [decide_eq_false hnn, Bool.not_false, Bool.true_and]; simp [*]; done))))
   refine dz 3 ?_
   refine dr_yes rfl rfl (less_b g15_5) rfl (ev_index_map (k := i) (xs := l) sl22.h jz jz (by omega) (by omega)) ?_
   refine dz 1 ?_
   refine dky az (left_pure p x _) ?_
   refine dz 6 ?_
   refine wz 0 ?_
   exact rz rfl (Less.eq (congrArg B (by unfold plc; rw [hg, hrf]; first | (rw [decide_eq_true hyy]; rfl) | (rw [decide_eq_false hnn, Bool.not_false, Bool.true_and]; simp [*]; done))))
  have hyy : l[i] ∈ x.taken ∨ l[i] ∈ l.take i := List.mem_append.1 (of_decide_eq_true (by rw [Bool.not_eq_false'] at g15_2; exact g15_2))
  refine dz 15 ?_
  refine wz 0 ?_
  exact rz rfl (Less.eq (congrArg B (by unfold plc; rw [hg, hrf]; first | (rw [decide_eq_true hyy]; rfl) | (rw [decide_eq_false hnn, Bool.not_false, Bool.true_and]; simp [*]; done))))
theorem ranked_pure {p : Ply} (gP : PlB p) {x : Scn} (gX : ScB p x) {l : List Int} {i : Nat} (hi : i + 1 = l.length) (hr : l.length ≤ x.rest.length) (hm : ∀ a ∈ l, 0 ≤ a ∧ a < p.hts.length) : APure Tryz.prog 188 [stA p x, ints l] (B (rkd p x l i)) := by
  refine ap Tryz.func188 (fun e0 he0 => ?_)
  refine aw_seq ?_
  have hr4 := gX.r4
  have hli : i < l.length := by omega
  have hri : i < x.rest.length := by omega
  have hmi := hm _ (List.getElem_mem hli)
  have hfi := rs_at gX hri
  have hrf := rf_at gX hri
  have hg := getD_at (d := 0) hli
  have hlt : (l.take i).length = i := by rw [List.length_take]; omega
  refine wz 6 ?_
  refine aw_draw 18 mo (by kernel_rfl) ?_
  refine dz 7 ?_
  refine dr_ev rfl (ev_index_map (k := i) (xs := x.rest) sl22.h jz jz (by omega) (by omega)) ?_
  refine dz 1 ?_
  refine dr_ev rfl (ev_index_map (k := (x.rest[i]).toNat) (xs := p.figs) sl23.h jz jz (by have := hfi; omega) (by have := hfi; omega)) ?_
  refine dz 4 ?_
  refine dr_ev rfl (ev_index_map (k := i) (xs := l) sl22.h jz jz (by omega) (by omega)) ?_
  refine dz 3 ?_
  refine wz 2 ?_
  refine sq_ev rfl (ev_less (ev_slice (lo := 0) (hi := i) sl22.h jz rfl (less_int (by omega)) (by omega) (by simp; omega)) (Less.eq (b := ints (l.take i)) (by rw [List.drop_zero, ← List.map_take]))) ?_
  refine wz 2 ?_
  refine aw_loopk (ι := { k : Nat // k ≤ i ∧ ∀ j, j < k → clash p x l j i = false ∧ clash p x l i j = false }) [2, 6, 7, 32, 33] (fun k => [(34, I k.1)]) (fun H k => H) (fun k => i - k.1) (⟨0, Nat.zero_le _, by omega⟩) ⟨jz, jz, jz, jz, jz, jz, trivial⟩ rfl ?_
  rintro ⟨k, hk, hok⟩
  refine nz ?_
  refine wz 1 ?_
  refine iz (fun c_35 c_35' => ?_) (fun c_35 c_35' => ?_)
  ·have hki : k < i := by omega
   have hkl : k < (l.take i).length := by omega
   have hkL : k < l.length := by omega
   have hkR : k < x.rest.length := by omega
   have hmk := hm _ (List.getElem_mem hkL)
   have hfk := rs_at gX hkR
   have hq1 : clash p x l k i = ((lf p l[k] == lf p l[i]) && decide ((p.figs[(x.rest[k]).toNat]).rank < (p.figs[(x.rest[i]).toNat]).rank ∧ p.hts[(l[i]).toNat] < p.hts[(l[k]).toNat])) := by unfold clash; rw [getD_at hkL, getD_at hli, rf_at gX hkR, rf_at gX hri, ht_at hmk.1 hmk.2, ht_at hmi.1 hmi.2]
   have hq2 : clash p x l i k = ((lf p l[k] == lf p l[i]) && decide ((p.figs[(x.rest[i]).toNat]).rank < (p.figs[(x.rest[k]).toNat]).rank ∧ p.hts[(l[k]).toNat] < p.hts[(l[i]).toNat])) := by unfold clash; rw [getD_at hkL, getD_at hli, rf_at gX hkR, rf_at gX hri, ht_at hmk.1 hmk.2, ht_at hmi.1 hmi.2, Bool.beq_comm]
   refine wz 1 ?_
   refine sq_ev rfl (ev_less (ev_index_map (k := k) (xs := l.take i) sl22.h jz jz rfl hkl) (Less.eq (b := .iptr [I l[k]]) (by rw [List.getElem_take]))) ?_
   refine wz 3 ?_
   refine aw_draw 13 mo (by kernel_rfl) ?_
   refine dz 7 ?_
   refine dr_ev rfl (ev_index_map (k := k) (xs := x.rest) sl22.h jz jz (by omega) (by omega)) ?_
   refine dz 1 ?_
   refine dr_ev rfl (ev_index_map (k := (x.rest[k]).toNat) (xs := p.figs) sl23.h jz jz (by have := hfk; omega) (by have := hfk; omega)) ?_
   refine dz 3 ?_
   refine wz 0 ?_
   refine aw_draw 47 mo (by kernel_rfl) ?_
   refine dz 2 ?_
   refine dkz az (left_pure p x _) ?_
   refine dz 2 ?_
   refine dkz az (left_pure p x _) ?_
   refine dz 2 ?_
   refine dsz 58 (fun g7_7 g7_7' => ?_) (fun g7_7 g7_7' => ?_)
   ·refine dz 4 ?_
    refine dsz 62 (fun g7_11 g7_11' => ?_) (fun g7_11 g7_11' => ?_)
    ·refine dz 4 ?_
     refine dr_yes rfl rfl (less_b g7_11) rfl (ev_index_map (k := (l[k]).toNat) (xs := p.hts) sl22.h jz jz (by have := hmk; omega) (by have := hmk; omega)) ?_
     refine dz 5 ?_
     refine dr_yes rfl rfl (less_b g7_11) rfl (ev_index_map (k := (l[i]).toNat) (xs := p.hts) sl22.h jz jz (by have := hmi; omega) (by have := hmi; omega)) ?_
     refine dz 4 ?_
     refine dsz 77 (fun g7_26 g7_26' => ?_) (fun g7_26 g7_26' => ?_)
     ·have hno : rkd p x l i = false := rkd_no (j := k) (by omega) (fun q => by have q1 := q.1; have q2 := q.2; rw [hq1] at q1; rw [hq2] at q2; simp_all)
      refine dz 20 ?_
      refine wz 2 ?_
      exact rz rfl (Less.eq (by rw [hno]))
     refine dz 4 ?_
     refine dsz 81 (fun g7_30 g7_30' => ?_) (fun g7_30 g7_30' => ?_)
     ·refine dz 4 ?_
      refine dr_yes rfl rfl (less_b g7_30) rfl (ev_index_map (k := (l[i]).toNat) (xs := p.hts) sl22.h jz jz (by have := hmi; omega) (by have := hmi; omega)) ?_
      refine dz 5 ?_
      refine dr_yes rfl rfl (less_b g7_30) rfl (ev_index_map (k := (l[k]).toNat) (xs := p.hts) sl22.h jz jz (by have := hmk; omega) (by have := hmk; omega)) ?_
      refine dz 5 ?_
      refine wz 0 ?_
      refine iz (fun c_97 c_97' => ?_) (fun c_97 c_97' => ?_)
      ·have hno : rkd p x l i = false := rkd_no (j := k) (by omega) (fun q => by have q1 := q.1; have q2 := q.2; rw [hq1] at q1; rw [hq2] at q2; simp_all)
       refine wz 1 ?_
       exact rz rfl (Less.eq (by rw [hno]))
      have hst : clash p x l k i = false ∧ clash p x l i k = false := ⟨by rw [hq1]; simp [*], by rw [hq2]; simp [*]⟩
      refine wz 2 ?_
      exact ⟨⟨k + 1, by omega, fun j hj => by rcases Nat.lt_or_ge j k with z | z; exact hok j z; (obtain rfl : j = k := by omega); exact hst⟩, by simp only; omega, Sub.slots ⟨jz, jz, jz, jz, jz, jz, trivial⟩⟩
     have hst : clash p x l k i = false ∧ clash p x l i k = false := ⟨by rw [hq1]; simp [*], by rw [hq2]; simp [*]⟩
     refine dz 16 ?_
     refine wz 3 ?_
     exact ⟨⟨k + 1, by omega, fun j hj => by rcases Nat.lt_or_ge j k with z | z; exact hok j z; (obtain rfl : j = k := by omega); exact hst⟩, by simp only; omega, Sub.slots ⟨jz, jz, jz, jz, jz, jz, trivial⟩⟩
    refine dz 19 ?_
    refine dsz 81 (fun g7_30 g7_30' => ?_) (fun g7_30 g7_30' => ?_)
    ·refine dz 4 ?_
     refine dr_yes rfl rfl (less_b g7_30) rfl (ev_index_map (k := (l[i]).toNat) (xs := p.hts) sl22.h jz jz (by have := hmi; omega) (by have := hmi; omega)) ?_
     refine dz 5 ?_
     refine dr_yes rfl rfl (less_b g7_30) rfl (ev_index_map (k := (l[k]).toNat) (xs := p.hts) sl22.h jz jz (by have := hmk; omega) (by have := hmk; omega)) ?_
     refine dz 5 ?_
     refine wz 0 ?_
     refine iz (fun c_97 c_97' => ?_) (fun c_97 c_97' => ?_)
     ·have hno : rkd p x l i = false := rkd_no (j := k) (by omega) (fun q => by have q1 := q.1; have q2 := q.2; rw [hq1] at q1; rw [hq2] at q2; simp_all)
      refine wz 1 ?_
      exact rz rfl (Less.eq (by rw [hno]))
     have hst : clash p x l k i = false ∧ clash p x l i k = false := ⟨by rw [hq1]; simp [*], by rw [hq2]; simp [*]⟩
     refine wz 2 ?_
     exact ⟨⟨k + 1, by omega, fun j hj => by rcases Nat.lt_or_ge j k with z | z; exact hok j z; (obtain rfl : j = k := by omega); exact hst⟩, by simp only; omega, Sub.slots ⟨jz, jz, jz, jz, jz, jz, trivial⟩⟩
    have hst : clash p x l k i = false ∧ clash p x l i k = false := ⟨by rw [hq1]; simp [*], by rw [hq2]; simp [*]⟩
    refine dz 16 ?_
    refine wz 3 ?_
    exact ⟨⟨k + 1, by omega, fun j hj => by rcases Nat.lt_or_ge j k with z | z; exact hok j z; (obtain rfl : j = k := by omega); exact hst⟩, by simp only; omega, Sub.slots ⟨jz, jz, jz, jz, jz, jz, trivial⟩⟩
   have hst : clash p x l k i = false ∧ clash p x l i k = false := ⟨by rw [hq1]; simp [*], by rw [hq2]; simp [*]⟩
   refine dz 39 ?_
   refine wz 3 ?_
   exact ⟨⟨k + 1, by omega, fun j hj => by rcases Nat.lt_or_ge j k with z | z; exact hok j z; (obtain rfl : j = k := by omega); exact hst⟩, by simp only; omega, Sub.slots ⟨jz, jz, jz, jz, jz, jz, trivial⟩⟩
  obtain rfl : k = i := by omega
  have hall : rkd p x l k = true := decide_eq_true fun j hj => hok j hj
  refine wz 1 ?_
  exact rz rfl (Less.eq (by rw [hall]))
theorem rules_pure  : APure Tryz.prog 161 [] (.agg [.fn (.func 186) [] [], .fn (.func 187) [] [], .fn (.func 188) [] []]) := by
  refine ap Tryz.func161 (fun e0 he0 => ?_)
  refine wz 3 ?_
  exact retQ_res (vs := [.agg _]) rfl rfl ⟨resVar_cell rfl rfl ty192.h rfl, trivial⟩ jz
end Go.Proofs.YtfmpabgblbbcdaaGreatDoor
namespace Go.Proofs.YtfmpabgblbbcdaaGreatDoor
open Go Go.Ab Ni St
open Hd hiding sz
instance ar192 : ArE Tryz.prog 192 3 191 1 := ⟨by kernel_rfl⟩
instance en161 : EnT Tryz.prog 161 := ⟨Ent.of Tryz.func161 (by kernel_rfl) rfl⟩
instance en172 : EnT Tryz.prog 172 := ⟨Ent.of Tryz.func172 (by kernel_rfl) rfl⟩
instance sl200 : SlE Tryz.prog 200 191 1 := ⟨by kernel_rfl⟩
instance ty145 : TyF Tryz.prog 145 false 1 := ⟨by kernel_rfl⟩
instance ty191 : TyF Tryz.prog 191 false 1 := ⟨by kernel_rfl⟩
instance ty28 : TyF Tryz.prog 28 false 1 := ⟨by kernel_rfl⟩
instance z22 : ZeO Tryz.prog 22 [.raw (.slice none 0 0)] := ⟨by kernel_rfl⟩
instance z28 : ZeO Tryz.prog 28 [.raw .nilFunc] := ⟨by kernel_rfl⟩
section
variable {P : Program} {r : Option Nat} {H : List AObj} {ρ : Operand → AV}
variable {d : Option Tmp} {t : TypeId} {p : String} {af : Array Edge} {g : Option (Nat × Bool)} {x y z : Operand}
theorem ev_slice_box_h {xt et : TypeId} {len sz n : Nat} {es : List (List AV)} (ht : arrElem P xt = some (len, et, sz)) (h0 : 0 < len) (hx : Less (ρ x) (.iptr es.flatten)) (hy : Less (ρ y) (.raw (.int .i64 n))) (hn : n ≤ len) (hl : es.length = len) (hsz : ∀ c ∈ es, c.length = sz) :
    Ev P r ⟨d, .slice xt x none (some y) none, t, p, af, g⟩ H ρ (.sl sz (es.take n)) :=
  Ev.pure (by intro c h; cases h) fun e ρc ok hE hs => by
    obtain ⟨h1, ti, h2, rfl⟩ := arrElem_und ht
    have := hx e _ (hs x (by simp [Op.operands]))
    rw [Rep] at this
    obtain ⟨b, off, hpv, hc⟩ := this
    have hyv := rep_raw hy (hs y (by simp [Op.operands]))
    refine ⟨.slice (some ⟨b, off, none⟩) n len, ?_, ?_⟩
    · have hb : (Instr.sliceBounds false len len none (some (.int .i64 n)) none).run P e.w = .ok (0, n, len) e.w := by
        simp [Instr.sliceBounds, Instr.sliceBound, asIntOf, hn]
      have hne : ¬ len = 0 := by omega
      simp [execOp, Instr.sliceAt, hpv, hyv, run_und h1, run_size h2, hb, Addr.add_lit, Instr.sureAddr, hne]
    · rw [Rep]
      refine ⟨_, _, _, rfl, by rw [List.length_take]; omega, hn, (fun h => by cases h), fun c hc => hsz c (List.mem_of_mem_take hc), fun ad had => ?_⟩
      simp only [Option.some.injEq] at had
      subst had
      exact ⟨fun _ => rfl, ElemsAt.take n (ElemsAt.flat.2 hc)⟩
end
def dpre (ok : List Int → Bool) (n k : Nat) (now : List Int) (m : Nat) : List (List Int) := ((every n).take m).flatMap fun a => if ok (now ++ [a]) = true then dfs ok n k (now ++ [a]) else []
theorem every_len (n : Nat) : (every n).length = n := by simp [every]
theorem every_at {n m : Nat} (h : m < n) : (every n)[m]'(by rw [every_len]; exact h) = (m : Int) := by simp [every]
theorem dpre_succ {ok : List Int → Bool} {n k m : Nat} {now : List Int} (h : m < n) : dpre ok n k now (m + 1) = dpre ok n k now m ++ (if ok (now ++ [(m : Int)]) = true then dfs ok n k (now ++ [(m : Int)]) else []) := by
  unfold dpre
  rw [List.take_succ_eq_append_getElem (by rw [every_len]; exact h), List.flatMap_append, every_at h]
  simp only [List.flatMap_cons, List.flatMap_nil, List.append_nil]
theorem dpre_all (ok : List Int → Bool) (n k : Nat) (now : List Int) : dpre ok n k now n = dfs ok n (k + 1) now := by
  unfold dpre
  rw [List.take_of_length_le (Nat.le_of_eq (every_len n))]; rfl
theorem dpre_le {ok : List Int → Bool} {n k : Nat} {now : List Int} {a b : Nat} (h : a ≤ b) : (dpre ok n k now a).length ≤ (dpre ok n k now b).length := by
  have : dpre ok n k now b = dpre ok n k now a ++ (((every n).take b).drop a).flatMap fun a => if ok (now ++ [a]) = true then dfs ok n k (now ++ [a]) else [] := by
    unfold dpre
    rw [← List.flatMap_append]
    congr 1
    conv => lhs; rw [← List.take_append_drop a ((every n).take b)]
    rw [List.take_take, Nat.min_eq_left h]
  rw [this, List.length_append]; omega
theorem dpre_get {ok : List Int → Bool} {n k m i : Nat} {now y : List Int} (h : m < n) (ho : ok (now ++ [(m : Int)]) = true) (hi : (dfs ok n k (now ++ [(m : Int)]))[i]? = some y) : (dfs ok n (k + 1) now)[(dpre ok n k now m).length + i]? = some y := by
  have e1 : dfs ok n (k + 1) now = dpre ok n k now m ++ (dfs ok n k (now ++ [(m : Int)]) ++ (((every n).drop (m + 1)).flatMap fun a => if ok (now ++ [a]) = true then dfs ok n k (now ++ [a]) else [])) := by
    have e2 : dfs ok n k (now ++ [(m : Int)]) = (if ok (now ++ [(m : Int)]) = true then dfs ok n k (now ++ [(m : Int)]) else []) := by rw [if_pos ho]
    rw [e2, ← List.append_assoc, ← dpre_succ h, ← dpre_all]
    unfold dpre
    rw [← List.flatMap_append, List.take_append_drop, List.take_of_length_le (Nat.le_of_eq (every_len n))]
  rw [e1, List.getElem?_append_right (Nat.le_add_right _ _), Nat.add_sub_cancel_left, List.getElem?_append_left (lt_of_get? hi)]
  exact hi
theorem seg_le {X D : List (List Int)} {a : Nat} (ha : a ≤ X.length) (h : ∀ i y, D[i]? = some y → X[a + i]? = some y) : a + D.length ≤ X.length := by
  rcases Nat.eq_zero_or_pos D.length with hz | hz
  · omega
  · have h1 := h (D.length - 1) D[D.length - 1] (List.getElem?_eq_getElem (by omega))
    have := lt_of_get? h1
    omega
theorem inE_now (n : Nat) (l : List Int) (a : Int) : AV.inE n ((l.map fun x => [I x]) ++ [[I a]]) = true := by
  have := inE_ints n (l ++ [a])
  rwa [List.map_append] at this
def rF : Nat → FuncId
  | 0 => 186
  | 1 => 187
  | _ => 188
def rV (p : Ply) (x : Scn) (l : List Int) (i : Nat) : Nat → Bool
  | 0 => plc p x l i
  | 1 => low p x l i
  | _ => rkd p x l i
abbrev many (b : Bool) : Nat := if b then 3 else 1
theorem many_le (b : Bool) : 1 ≤ many b ∧ many b ≤ 3 := by cases b <;> decide
theorem rV_all {b : Bool} {p : Ply} {x : Scn} {l : List Int} {i : Nat} (hi : i + 1 = l.length) (h : ∀ j, j < many b → rV p x l i j = true) : okL b p x l = true := by
  unfold okL okI
  rw [show l.length - 1 = i by omega]
  have h0 := h 0 (by cases b <;> decide)
  cases b with
  | false => simpa [rV] using h0
  | true =>
    have h1 := h 1 (by decide)
    have h2 := h 2 (by decide)
    simp only [rV] at h0 h1 h2
    rw [h0, h1, h2]; rfl
theorem rV_no {b : Bool} {p : Ply} {x : Scn} {l : List Int} {i j : Nat} (hi : i + 1 = l.length) (hj : j < many b) (h : rV p x l i j = false) : okL b p x l = false := by
  unfold okL okI
  rw [show l.length - 1 = i by omega]
  cases b with
  | false =>
    obtain rfl : j = 0 := by have : j < 1 := hj; omega
    simp only [rV] at h; rw [h]; rfl
  | true =>
    have : j < 3 := hj
    match j, this with
    | 0, _ => simp only [rV] at h; rw [h]; rfl
    | 1, _ => simp only [rV] at h; rw [h]; simp
    | 2, _ => simp only [rV] at h; rw [h]; simp
theorem rF_ent : ∀ j, j < 3 → Ent Tryz.prog (rF j)
  | 0, _ => en186.h
  | 1, _ => en187.h
  | 2, _ => en188.h
theorem rF_pure {p : Ply} (gP : PlB p) {x : Scn} (gX : ScB p x) {l : List Int} {i : Nat} (hi : i + 1 = l.length) (hr : l.length ≤ x.rest.length) (hm : ∀ a ∈ l, 0 ≤ a ∧ a < p.hts.length) : ∀ j, j < 3 → APure Tryz.prog (rF j) [stA p x, ints l] (B (rV p x l i j))
  | 0, _ => placed_pure gP gX hi hr hm
  | 1, _ => low_pure gP gX hi hr hm
  | 2, _ => ranked_pure gP gX hi hr hm
abbrev rulC : List (List AV) := [[.fn (.func (rF 0)) [] []], [.fn (.func (rF 1)) [] []], [.fn (.func (rF 2)) [] []]]
theorem rul_at {b : Bool} {j : Nat} (h : j < many b) : (rulC.take (many b))[j]? = some [.fn (.func (rF j)) [] []] := by
  cases b with
  | false =>
    obtain rfl : j = 0 := by have : j < 1 := h; omega
    rfl
  | true =>
    have : j < 3 := h
    match j, this with
    | 0, _ => rfl
    | 1, _ => rfl
    | 2, _ => rfl
theorem rul_len (b : Bool) : (rulC.take (many b)).length = many b := by cases b <;> rfl
abbrev putC (p : Ply) (x : Scn) (b : Bool) (l N : Nat) : List AV := [.ptr (N + 1) 0, .iptr (stC p x), .iptr [.fn (.yield l) [] []], .iptr rulC.flatten, .iptr [I (many b : Nat)], .ptr (N + 3) 0]
abbrev putV (p : Ply) (x : Scn) (b : Bool) (l N : Nat) : AV := .fn (.func 172) [] (putC p x b l N)
abbrev putO (p : Ply) (x : Scn) (b : Bool) (l N : Nat) (now : List Int) : List AObj := [.dead, .cells [ints now], .dead, .cells [putV p x b l N]]
theorem bx1 {p : Ply} {x : Scn} {b : Bool} {l N : Nat} {now : List Int} {T : List AObj} (hT : T.length = N) : (T ++ putO p x b l N now)[N + 1]? = some (.cells [ints now]) := by subst hT; exact lookP rfl
theorem bx3 {p : Ply} {x : Scn} {b : Bool} {l N : Nat} {now : List Int} {T : List AObj} (hT : T.length = N) : (T ++ putO p x b l N now)[N + 3]? = some (.cells [putV p x b l N]) := by subst hT; exact lookP rfl
theorem putO_in {p : Ply} {x : Scn} {b : Bool} {l N n : Nat} {now : List Int} (h : N + 4 ≤ n) : objsIn n (putO p x b l N now) = true := by
  simp [objsIn, AObj.inB, AV.inB, AV.inL]; omega
structure ItA (e : Env) (l m : Nat) (st : Bool) (T : Nat → List AObj) (xs : List AV) : Prop where
  hT : ∀ i, (T i).length = (T 0).length
  hin : ∀ i, i ≤ m → objsIn (T 0).length (T i) = true
  hm : m ≤ xs.length
  all : st = false → m = xs.length
  pos : st = true → 0 < m
  hy : ∀ i x, i < m → xs[i]? = some x → ∀ X, AYieldAt e Tryz.prog l x (T i ++ X) (goes m st i) (T (i + 1) ++ X)
theorem goes_no {m k : Nat} {st : Bool} (h : goes m st k = false) : st = true ∧ k + 1 = m := by
  unfold goes at h
  cases hst : st with
  | false => rw [hst] at h; cases h
  | true => rw [hst] at h; exact ⟨rfl, Nat.eq_of_beq_eq_true (by simpa using h)⟩
theorem goes_yes {m k : Nat} {st : Bool} (h : goes m st k = true) (hk : k < m) : st = true → k + 1 < m := by
  intro hst
  unfold goes at h
  rw [hst] at h
  have : k + 1 ≠ m := Nat.ne_of_beq_eq_false (by simpa using h)
  omega
def PutR (p : Ply) (x : Scn) (b : Bool) (l m : Nat) (st : Bool) (T : Nat → List AObj) (now : List Int) (a : Nat) (D : List (List Int)) : ARes → List AObj → Prop := fun y H' =>
  ∃ c : Bool, y = .ret (B c) ∧ (c = false → st = true ∧ m ≤ a + D.length ∧ ∃ X, H' = T m ++ X) ∧ (c = true → (st = true → a + D.length < m) ∧ H' = T (a + D.length) ++ putO p x b l (T 0).length now)
theorem put_zero {p : Ply} (gP : PlB p) {x : Scn} (gX : ScB p x) {b : Bool} {e : Env} {l m : Nat} {st : Bool} {T : Nat → List AObj} (it : ItA e l m st T ((arr b p x).map ints)) {now : List Int} {a : Nat} (hn : now.length = x.rest.length) (hkm : st = true → a < m) (hseg : (arr b p x)[a]? = some now) : ACallE e Tryz.prog 172 (putC p x b l (T 0).length) (T a ++ putO p x b l (T 0).length now) (PutR p x b l m st T now a [now]) := by
  refine acallE_of_marks (rs := [.tmp 6]) Tryz.func172 rfl rfl (Nat.le_of_ble_eq_true rfl) fun e0 hle he0 => ?_
  refine aw_seq ?_
  have hr4 := gX.r4
  have hTa := it.hT a
  have hxa : ((arr b p x).map ints)[a]? = some (ints now) := by rw [List.getElem?_map, hseg]; rfl
  have ham : a < m := by cases hst : st with | true => exact hkm hst | false => (have h1 := it.all hst; have := lt_of_get? hxa; omega)
  refine wz 1 ?_
  refine sq_ev rfl (ev_load jz (bx1 hTa) ty22.h rfl) ?_
  refine wz 5 ?_
  refine sq_ev rfl (ev_less (ev_eql jz jz) (Less.eq (b := B true) (by simp [hn]))) ?_
  refine wz 1 ?_
  refine aw_draw 3 mo (by kernel_rfl) ?_
  refine dz 1 ?_
  refine dr_ev rfl (ev_load jz (bx1 hTa) ty22.h rfl) ?_
  refine dkz az (clone_pure now (by omega)) ?_
  refine dr_end ?_
  refine sq_yield hle rfl jz ?_ (it.hy _ _ ham hxa _) ?_
  ·exact jz
  refine wz 1 ?_
  exact ⟨_, .raw _, rfl, rfl, goes m st a, rfl, fun h => ⟨(goes_no h).1, Nat.le_of_eq (goes_no h).2.symm, putO p x b l (T 0).length now, congrArg (fun n => T n ++ putO p x b l (T 0).length now) (goes_no h).2⟩, fun h => ⟨goes_yes h ham, rfl⟩⟩
theorem put_succ {p : Ply} (gP : PlB p) {x : Scn} (gX : ScB p x) {b : Bool} {e : Env} {l m : Nat} {st : Bool} {T : Nat → List AObj} (it : ItA e l m st T ((arr b p x).map ints)) {k : Nat} (ih : ∀ (now : List Int) (a : Nat), now.length + k = x.rest.length → (∀ q ∈ now, 0 ≤ q ∧ q < p.hts.length) → a ≤ m → (st = true → a < m) → (∀ i y, (dfs (okL b p x) p.hts.length k now)[i]? = some y → (arr b p x)[a + i]? = some y) → ACallE e Tryz.prog 172 (putC p x b l (T 0).length) (T a ++ putO p x b l (T 0).length now) (PutR p x b l m st T now a (dfs (okL b p x) p.hts.length k now))) {now : List Int} {a : Nat} (hn : now.length + (k + 1) = x.rest.length) (hmem : ∀ q ∈ now, 0 ≤ q ∧ q < p.hts.length) (ham : a ≤ m) (hkm : st = true → a < m) (hseg : ∀ i y, (dfs (okL b p x) p.hts.length (k + 1) now)[i]? = some y → (arr b p x)[a + i]? = some y) : ACallE e Tryz.prog 172 (putC p x b l (T 0).length) (T a ++ putO p x b l (T 0).length now) (PutR p x b l m st T now a (dfs (okL b p x) p.hts.length (k + 1) now)) := by
  refine acallE_of_marks (rs := [.tmp 6]) Tryz.func172 rfl rfl (Nat.le_of_ble_eq_true rfl) fun e0 hle he0 => ?_
  refine aw_seq ?_
  have hr4 := gX.r4
  have hnh := gP.nh
  have hmb := many_le b
  have hTa := it.hT a
  refine wz 1 ?_
  refine sq_ev rfl (ev_load jz (bx1 hTa) ty22.h rfl) ?_
  refine wz 5 ?_
  refine sq_ev rfl (ev_less (ev_eql jz jz) (Less.eq (b := B false) (by simp; omega))) ?_
  refine wz 6 ?_
  refine aw_loopk (ι := { n : Nat // n ≤ p.hts.length ∧ (st = true → a + (dpre (okL b p x) p.hts.length k now n).length < m) }) [0, 1, 3, 4, 5, 25] (fun g => [(26, I (g.1 : Nat))]) (fun H g => T (a + (dpre (okL b p x) p.hts.length k now g.1).length) ++ putO p x b l (T 0).length now) (fun g => p.hts.length - g.1) (⟨0, Nat.zero_le _, hkm⟩) ⟨jz, jz, jz, jz, jz, jz, jz, trivial⟩ rfl ?_
  rintro ⟨n, hnn, hkd⟩
  refine nz ?_
  refine wz 1 ?_
  refine iz (fun c_27 c_27' => ?_) (fun c_27 c_27' => ?_)
  ·have hnl : n < p.hts.length := by omega
   have hTm : a + (dpre (okL b p x) p.hts.length k now n).length ≤ m := by cases hst : st with | true => exact Nat.le_of_lt (hkd hst) | false => (have h1 := it.all hst; have h2 := it.hm; rw [List.length_map] at h1; have h3 := seg_le (X := arr b p x) (by omega) hseg; rw [← dpre_all] at h3; have h4 := dpre_le (ok := okL b p x) (n := p.hts.length) (k := k) (now := now) hnn; omega)
   have hmem2 : ∀ q ∈ (now ++ [(n : Int)]), 0 ≤ q ∧ q < p.hts.length := fun q hq => by rcases List.mem_append.1 hq with h | h; exact hmem q h; (obtain rfl := List.mem_singleton.1 h); omega
   refine vz 2 ?_
   refine sq_nil ?_
   refine aw_seq ?_
   have hTn := it.hT (a + (dpre (okL b p x) p.hts.length k now n).length)
   refine wz 0 ?_
   refine sq_ev rfl (ev_load jz (bx1 hTn) ty22.h rfl) ?_
   refine sq_call (first := []) (cap := []) (args := [ints now]) rfl en91.h jz ⟨jz, trivial⟩ (clone_x now (by omega) _) ?_ (by rintro v H' ⟨_, h, _⟩; cases h)
   rintro _ H2 ⟨a0, hv, ho⟩
   cases hv
   refine wz 1 ?_
   refine sq_ev rfl (ev_buildSlice (es := [[_]]) sf22.h rfl rfl rfl rfl) ?_
   refine sq_append_x (A := T (a + (dpre (okL b p x) p.hts.length k now n).length) ++ putO p x b l (T 0).length now) [0, 1, 2, 3, 4, 5, 6, 7, 25, 26] rfl sf22.h Tryz.underlying22 jz ho (less_slx 1 [[I (n : Int)]]) (fun q hq => by rcases List.mem_append.1 hq with h | h; exact I1 q h; (obtain rfl := List.mem_singleton.1 h); rfl) (by simp) (by simp; omega) (by simp; omega) (by decide) ?_ ?_ ?_ rfl ?_
   ·simp [slotsIn, keepS, sget, AV.inB, AV.inL, St.put, slotsOf, inE_now, hTn]
   ·rw [objsIn_append, Bool.and_eq_true]; exact ⟨objsIn_mono (by simp [hTn]) (it.hin _ hTm), putO_in (by simp [hTn])⟩
   ·show e0.H.length ≤ _; rw [he0]; simp [hTa, hTn]
   refine sq_ev rfl (ev_less (ev_as (v := .sl _ _) jz) (Less.eq (b := ints (now ++ [(n : Int)])) (by simp))) ?_
   refine wz 1 ?_
   refine sq_ev rfl (ev_slice_box_h (es := rulC) (n := many b) ar192.h (by decide) jz jz (by omega) rfl (by simp)) ?_
   refine sq_ev rfl (ev_less (ev_len (n := many b) sl200.h jz (congrArg (fun n : Nat => (n : Int)) (rul_len b))) jz) ?_
   refine wz 1 ?_
   refine aw_loopk (ι := { j : Nat // j ≤ many b ∧ ∀ i, i < j → rV p x (now ++ [(n : Int)]) now.length i = true }) [0, 1, 3, 4, 5, 8, 25, 26, 35, 36] (fun j => [(37, I (j.1 : Nat))]) (fun H j => H) (fun j => many b - j.1) (⟨0, Nat.zero_le _, by omega⟩) ⟨jz, jz, jz, jz, jz, jz, jz, jz, jz, jz, jz, trivial⟩ rfl ?_
   rintro ⟨j, hj, hall⟩
   refine nz ?_
   refine wz 1 ?_
   refine iz (fun c_38 c_38' => ?_) (fun c_38 c_38' => ?_)
   ·have hjm : j < many b := by omega
    refine wz 0 ?_
    refine sq_ev rfl (ev_index (k := j) sl200.h jz jz rfl (rul_at hjm)) ?_
    refine wz 5 ?_
    refine sq_ev rfl (ev_call (rF_ent j (by omega)) jz (rF_pure gP gX (i := now.length) (by simp) (by simp; omega) hmem2 j (by omega)) ⟨jz, jz, trivial⟩) ?_
    refine wz 1 ?_
    refine iz (fun c_45 c_45' => ?_) (fun c_45 c_45' => ?_)
    ·have hno := rV_no (b := b) (p := p) (x := x) (l := (now ++ [(n : Int)])) (i := now.length) (j := j) (by simp) hjm (by simpa using c_45)
     have eD : a + (dpre (okL b p x) p.hts.length k now n).length = a + (dpre (okL b p x) p.hts.length k now (n + 1)).length := by rw [dpre_succ hnl, if_neg (by rw [hno]; simp), List.append_nil]
     have hnx : st = true → a + (dpre (okL b p x) p.hts.length k now (n + 1)).length < m := by rw [← eD]; exact hkd
     refine aw_exit ?_
     repeat (first | refine xe ?_ | refine bo ?_ rfl)
     refine wz 2 ?_
     exact ⟨⟨n + 1, by omega, hnx⟩, by simp only; omega, Sub.at ⟨jz, jz, jz, jz, jz, jz, jz, trivial⟩ (congrArg (fun d => T d ++ putO p x b l (T 0).length now) eD)⟩
    have hrv : rV p x (now ++ [(n : Int)]) now.length j = true := by simpa using c_45
    refine wz 2 ?_
    exact ⟨⟨j + 1, by omega, fun i hi => by rcases Nat.lt_or_ge i j with z | z; exact hall i z; (obtain rfl : i = j := by omega); exact hrv⟩, by simp only; omega, Sub.slots ⟨jz, jz, jz, jz, jz, jz, jz, jz, jz, jz, jz, trivial⟩⟩
   obtain rfl : j = many b := by omega
   have hok : okL b p x (now ++ [(n : Int)]) = true := rV_all (by simp) hall
   have eD : a + (dpre (okL b p x) p.hts.length k now n).length + (dfs (okL b p x) p.hts.length k (now ++ [(n : Int)])).length = a + (dpre (okL b p x) p.hts.length k now (n + 1)).length := by rw [dpre_succ hnl, if_pos hok, List.length_append]; omega
   refine wz 1 ?_
   refine sq_storeP (H0 := T (a + (dpre (okL b p x) p.hts.length k now n).length)) (X := putO p x b l (T 0).length now) (j := 1) rfl (Less.eq (by rw [hTn]; rfl)) jz rfl rfl ty22.h rfl rfl ?_
   refine wz 0 ?_
   refine sq_ev rfl (ev_load jz (bx3 (now := (now ++ [(n : Int)])) hTn) ty28.h rfl) ?_
   refine sq_callE (es := e) hle rfl en172.h jz (args := putC p x b l (T 0).length) ⟨jz, jz, jz, jz, jz, jz, trivial⟩ (ih (now ++ [(n : Int)]) (a + (dpre (okL b p x) p.hts.length k now n).length) (by simp; omega) hmem2 hTm hkd (fun i y hi => by have := hseg _ y (dpre_get (by omega) hok hi); rwa [← Nat.add_assoc] at this)) ?_ (by rintro v H' ⟨_, h, _⟩; cases h)
   rintro _ H3 ⟨c, hcv, hcf, hct⟩
   cases hcv
   refine wz 1 ?_
   refine iz (fun c_50 c_50' => ?_) (fun c_50 c_50' => ?_)
   ·obtain ⟨hst, hge, X, rfl⟩ := hcf (by simpa using c_50)
    refine wz 1 ?_
    exact ⟨_, .raw _, rfl, rfl, false, rfl, fun _ => ⟨hst, by rw [← dpre_all]; have := dpre_le (ok := okL b p x) (n := p.hts.length) (k := k) (now := now) (a := n + 1) (b := p.hts.length) (by omega); omega, X, rfl⟩, fun h => by cases h⟩
   obtain ⟨hlt, rfl⟩ := hct (by simpa using c_50)
   have hTb := it.hT (a + (dpre (okL b p x) p.hts.length k now n).length + (dfs (okL b p x) p.hts.length k (now ++ [(n : Int)])).length)
   have hnx : st = true → a + (dpre (okL b p x) p.hts.length k now (n + 1)).length < m := by rw [← eD]; exact hlt
   refine wz 0 ?_
   refine sq_ev rfl (ev_load jz (bx1 (now := (now ++ [(n : Int)])) hTb) ty22.h rfl) ?_
   refine sq_ev rfl (ev_load jz (bx1 (now := (now ++ [(n : Int)])) hTb) ty22.h rfl) ?_
   refine wz 1 ?_
   refine sq_ev rfl (ev_sub (q := (now.length : Int)) jz jz (by rw [wr (by simp <;> omega) (by simp <;> omega)]; simp)) ?_
   refine sq_ev rfl (ev_less (ev_slice (lo := 0) (hi := now.length) sl22.h jz rfl jz (by omega) (by simp)) (Less.eq (b := ints now) (by simp))) ?_
   refine sq_storeP (H0 := T (a + (dpre (okL b p x) p.hts.length k now n).length + (dfs (okL b p x) p.hts.length k (now ++ [(n : Int)])).length)) (X := putO p x b l (T 0).length (now ++ [(n : Int)])) (j := 1) rfl (Less.eq (by rw [hTb]; rfl)) jz rfl rfl ty22.h rfl rfl ?_
   refine wz 2 ?_
   exact ⟨⟨n + 1, by omega, hnx⟩, by simp only; omega, Sub.at ⟨jz, jz, jz, jz, jz, jz, jz, trivial⟩ (congrArg (fun d => T d ++ putO p x b l (T 0).length now) eD)⟩
  obtain rfl : n = p.hts.length := by omega
  refine wz 1 ?_
  exact ⟨_, .raw _, rfl, rfl, true, rfl, fun h => (by cases h), fun _ => by rw [← dpre_all]; exact ⟨hkd, rfl⟩⟩
/-- **The search**, from any beginning. -/
theorem put_call {p : Ply} (gP : PlB p) {x : Scn} (gX : ScB p x) {b : Bool} {e : Env} {l m : Nat} {st : Bool} {T : Nat → List AObj} (it : ItA e l m st T ((arr b p x).map ints)) : ∀ (k : Nat) (now : List Int) (a : Nat), now.length + k = x.rest.length → (∀ q ∈ now, 0 ≤ q ∧ q < p.hts.length) → a ≤ m → (st = true → a < m) → (∀ i y, (dfs (okL b p x) p.hts.length k now)[i]? = some y → (arr b p x)[a + i]? = some y) → ACallE e Tryz.prog 172 (putC p x b l (T 0).length) (T a ++ putO p x b l (T 0).length now) (PutR p x b l m st T now a (dfs (okL b p x) p.hts.length k now))
  | 0, now, a, hn, hmem, _, hkm, hseg => put_zero gP gX it (by omega) hkm (by have := hseg 0 now rfl; simpa using this)
  | k + 1, now, a, hn, hmem, ham, hkm, hseg => put_succ gP gX it (fun now a h1 h2 h3 h4 h5 => put_call gP gX it k now a h1 h2 h3 h4 h5) hn hmem ham hkm hseg
theorem lists1_call {p : Ply} (gP : PlB p) {x : Scn} (gX : ScB p x) {b : Bool} {e : Env} {l m : Nat} {st : Bool} {T : Nat → List AObj} (it : ItA e l m st T ((arr b p x).map ints)) : ACallE e Tryz.prog 171 [.fn (.yield l) [] [], .iptr (stC p x), .iptr [I (many b : Nat)]] (T 0) (fun y H' => y = .ret (.tup []) ∧ ∃ X, H' = T m ++ X) := by
  refine acallE_of_marks (rs := []) Tryz.func171 rfl rfl (Nat.le_of_ble_eq_true rfl) fun e0 hle he0 => ?_
  rw [nil_pre (T 0)]
  refine wz 0 ?_
  refine sq_boxP (H0 := T 0) (X := []) (a := .fn (.yield l) [] []) rfl jz rfl ?_
  refine sq_frz (A := T 0) (X := []) [1, 2] 3 rfl ?_
  refine wz 0 ?_
  refine sq_allocP (H0 := T 0) (X := [.dead]) rfl z22.h ?_
  refine wz 0 ?_
  refine kz az (rules_pure) ?_
  refine sq_allocP (H0 := T 0) (X := [.dead, .cells [.raw (.slice none 0 0)]]) rfl z192.h ?_
  refine sq_storeE (A := T 0) (X := [.dead, .cells [.raw (.slice none 0 0)]]) rfl rfl jz jz rfl ty192.h rfl rfl ?_
  refine sq_frz (A := T 0) (X := [.dead, .cells [.raw (.slice none 0 0)]]) [1, 2, 3, 4] 5 rfl ?_
  refine wz 0 ?_
  refine sq_allocP (H0 := T 0) (X := [.dead, .cells [.raw (.slice none 0 0)], .dead]) rfl z28.h ?_
  refine wz 1 ?_
  refine sq_storeE (A := T 0) (X := [.dead, .cells [.raw (.slice none 0 0)], .dead]) rfl rfl jz jz rfl ty28.h rfl rfl ?_
  refine sq_nil ?_
  refine aw_sub (sub_recell (b := (T 0).length + 1) (l := [.raw (.slice none 0 0)]) (l' := [ints []]) (lookP (H0 := T 0) (m := 1) rfl) (fun e a _ vs hv => by rw [RepL] at hv ⊢; obtain ⟨u, r, h1, h2, h3⟩ := hv; exact ⟨u, r, h1, less_nil 1 _ _ h2, h3⟩)) ?_
  refine aw_norm (H' := T 0 ++ putO p x b l (T 0).length []) (by simp only [setP]; rfl) ?_
  refine wz 0 ?_
  refine sq_ev rfl (ev_load jz (bx3 (p := p) (x := x) (b := b) (l := l) (now := []) rfl) ty28.h rfl) ?_
  refine sq_callE (es := e) hle rfl en172.h jz (args := putC p x b l (T 0).length) ⟨jz, jz, jz, jz, jz, jz, trivial⟩ (put_call gP gX it x.rest.length [] 0 (by simp) (by simp) (Nat.zero_le _) it.pos (fun i y hi => by rw [Nat.zero_add]; exact hi)) ?_ (by rintro v H' ⟨_, h, _⟩; cases h)
  rintro _ H3 ⟨c, hcv, hcf, hct⟩
  cases hcv
  refine sq_nil ?_
  refine ⟨H3, .tup [], rfl, rfl, rfl, ?_⟩
  cases c with
  | false => exact (hcf rfl).2.2
  | true =>
    have h1 := hct rfl
    rw [Nat.zero_add] at h1
    have hst : st = false := by
      cases h : st with
      | false => rfl
      | true => have h2 := h1.1 h; have h3 := it.hm; rw [List.length_map] at h3; exact absurd h2 (Nat.not_lt.2 h3)
    have h4 := it.all hst
    rw [List.length_map] at h4
    exact ⟨putO p x b l (T 0).length [], by rw [h4]; exact h1.2⟩
end Go.Proofs.YtfmpabgblbbcdaaGreatDoor
namespace Go.Proofs.YtfmpabgblbbcdaaGreatDoor
open Go Go.Ab Ni St
open Hd hiding sz
instance en143 : EnT Tryz.prog 143 := ⟨Ent.of Tryz.func143 (by kernel_rfl) rfl⟩
instance en144 : EnT Tryz.prog 144 := ⟨Ent.of Tryz.func144 (by kernel_rfl) rfl⟩
instance sf61 : SlS Tryz.prog 61 22 1 24 := ⟨SlFact.of (by kernel_rfl)⟩
instance ty61 : TyF Tryz.prog 61 false 1 := ⟨by kernel_rfl⟩
instance ud61 : UnD Tryz.prog 61 (.slice 22) := ⟨Tryz.underlying61⟩
/-- **The arrangements**, in order. -/
theorem lists_iter {p : Ply} (gP : PlB p) {x : Scn} (gX : ScB p x) (b : Bool) : AIter2 Tryz.prog 171 [] [.iptr (stC p x), .iptr [I (many b : Nat)]] ((arr b p x).map ints) := by
  intro m st hm h1 h2 l T e vs hT hin ok hH hs hy
  refine (lists1_call gP gX ⟨hT, hin, hm, h1, h2, fun i a hi ha X => hy i a hi ha X⟩ e vs (.refl e) ok hH hs).mono ?_
  rintro y w' ⟨ax, e', rfl, ok', fr, ⟨rfl, hX⟩, u, rfl, hu⟩
  exact ⟨u, e', rfl, rfl, ok', fr, hX⟩
abbrev hdA (l : List (List Int)) : List AV := l.map ints
theorem hdA_get {l : List (List Int)} {k : Nat} {x : AV} (h : (hdA l)[k]? = some x) : ∃ hk : k < l.length, x = ints l[k] := by
  rw [List.getElem?_map] at h
  cases hy : l[k]? with
  | none => rw [hy] at h; cases h
  | some y =>
    rw [hy] at h
    have hk := lt_of_get? hy
    rw [List.getElem?_eq_getElem hk] at hy
    exact ⟨hk, by rw [Option.some.inj hy]; exact (Option.some.inj h).symm⟩
theorem hdA_pure {l : List (List Int)} {x : AV} (h : x ∈ hdA l) : x.pureB = true := by
  obtain ⟨n, _, rfl⟩ := List.mem_map.1 h; simp [AV.pureB]
theorem lists_pure (p : Ply) (x : Scn) (b : Bool) : APure Tryz.prog 144 [stA p x, I (many b : Nat)] (.fn (.func 171) [] [.iptr (stC p x), .iptr [I (many b : Nat)]]) := by
  refine ap Tryz.func144 (fun e0 he0 => ?_)
  refine vz 3 ?_
  refine sq_nil ?_
  refine aw_seq ?_
  refine aw_sub (sub_iptrK [0, 1, 3, 4] 2 (j := 0) (l := stC p x) rfl rfl) ?_
  refine aw_sub (sub_iptrK [0, 1, 2, 4] 3 (j := 1) (l := [I (many b : Nat)]) rfl rfl) ?_
  refine wz 2 ?_
  exact retQ_pure (v := .fn _ _ _) rfl rfl jz
theorem arrs_pure (p : Ply) (x : Scn) : APure Tryz.prog 99 [stA p x] (.fn (.func 171) [] [.iptr (stC p x), .iptr [I (many true : Nat)]]) := by
  refine ap Tryz.func99 (fun e0 he0 => ?_)
  refine wz 3 ?_
  refine kz az (lists_pure p x true) ?_
  refine wz 1 ?_
  exact retQ_pure (v := .fn _ _ _) rfl rfl jz
theorem appseq_pure {l : List (List Int)} (hl : l.length ≤ 1000000) {F : FuncId} {caps : List AV} (en : Ent Tryz.prog F) (hit : AIter2 Tryz.prog F [] caps (hdA l)) (hp : AV.pureL caps = true) : APure Tryz.prog 143 [.raw (.slice none 0 0), .fn (.func F) [] caps] (hds l) := by
  refine apure_of_marks (rs := [.tmp 4]) Tryz.func143 rfl rfl (Nat.le_of_ble_eq_true rfl) (by simp [AV.pureL, AV.pureB, hp]) (by simp [AV.pureB]) fun e0 he0 => ?_
  refine vz 3 ?_
  refine sq_nil ?_
  refine aw_block ?_
  refine aw_sub (sub_token_box 0 1 rfl) ?_
  refine nz ?_
  refine aw_rangeFuncP (xs := hdA l) (fun k => [.cells [.own 1 1 ((l.take k).map fun x => [ints x])], .tok ((l.take k).map fun x => [ints x]).length]) ((hdA l).length) (none) (Nat.le_refl _) (fun _ => rfl) (fun h => absurd rfl h) rfl (enters_outer rfl) dd_in jz en (hit) (rfl) (fun _ => rfl) (fun k hk => by simp [objsIn, AObj.inB, AV.inB, AV.inL, inE_hds, -List.map_take]) (fun x hx => hdA_pure hx) rfl rfl ?_ ?_
  ·intro q i x e2 hi hx he2 hlp hce
   obtain ⟨hk, rfl⟩ := hdA_get hx
   have eS : ((l.take (i + 1)).map fun x => [ints x]) = ((l.take i).map fun x => [ints x]) ++ [[ints l[i]]] := by rw [List.take_succ_eq_append_getElem hk, List.map_append]; rfl
   refine nz ?_
   refine wz 2 ?_
   refine sq_ev rfl (ev_buildSlice (es := [[_]]) sf61.h rfl rfl rfl rfl) ?_
   first | refine sq_append rfl sf61.h Tryz.underlying61 rfl rfl jz (Nat.succ_pos _) (by simp; omega) (by simp; omega) ?_ | refine sq_append rfl sf61.h Tryz.underlying61 rfl rfl (less_slx _ _) (Nat.succ_pos _) (by simp; omega) (by simp; omega) ?_
   refine wz 1 ?_
   exact ⟨⟨[], (congrArg (fun L => [AObj.cells [.own 1 1 L], .tok L.length]) eS.symm).trans (List.append_nil _).symm⟩, rfl, by split <;> rfl⟩
  ·rintro _ rfl
   have hfull : (hdA l).length = l.length := by simp
   rw [hfull, List.take_length]
   refine nz ?_
   refine wz 2 ?_
   exact retQM_pure (v := .own _ _ _) rfl rfl (less_own _ _ _)
theorem collect_pure {l : List (List Int)} (hl : l.length ≤ 1000000) {F : FuncId} {caps : List AV} (en : Ent Tryz.prog F) (hit : AIter2 Tryz.prog F [] caps (hdA l)) (hp : AV.pureL caps = true) : APure Tryz.prog 97 [.fn (.func F) [] caps] (hds l) := by
  refine ap Tryz.func97 (fun e0 he0 => ?_) (hp := by simp [AV.pureL, AV.pureB, hp])
  refine wz 2 ?_
  refine kz az (appseq_pure hl en hit hp) ?_
  refine wz 1 ?_
  exact retQ_pure (v := .sl _ _) rfl rfl jz
end Go.Proofs.YtfmpabgblbbcdaaGreatDoor
