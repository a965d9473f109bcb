/-
  A part of the proof: conditions: none beyond each theorem's own.
-/
import Derived.Test.YtmbknoaneglilaaGreatDoorSpecA
import Derived.Test.YtmbknoaneglilaaGreatDoorLogicD
import Derived.KernelRfl
import Derived.Lib.LaidTab
import Derived.Lib.ItoaNum
import Derived.Test.YtmbknoaneglilaaGreatDoorProg
import Derived.Test.YtmbknoaneglilaaGreatDoorWalkG
import Derived.ChangeKeysEq
import Derived.Test.YtmbknoaneglilaaGreatDoorLogicA
import Derived.Test.YtmbknoaneglilaaGreatDoorLogicB
import Derived.Test.YtmbknoaneglilaaGreatDoorLogicC
import Derived.Test.YtmbknoaneglilaaGreatDoorShelf
import Derived.Test.YtmbknoaneglilaaGreatDoorWalkA
import Derived.Test.YtmbknoaneglilaaGreatDoorWalkB
import Derived.Test.YtmbknoaneglilaaGreatDoorWalkC
import Derived.Test.YtmbknoaneglilaaGreatDoorWalkD
import Derived.Test.YtmbknoaneglilaaGreatDoorWalkE
import Derived.Test.YtmbknoaneglilaaGreatDoorWalkF
import Derived.Test.YtmbknoaneglilaaGreatDoorRow
set_option linter.all false
set_option maxHeartbeats 8000000
namespace Ol
open Ni (inn)
theorem mists_iff {a b : List Th} : mists a b = true ↔ ∃ t ∈ a, ∃ u ∈ b, agree t.sh u.sh = true := by
  unfold mists mist; simp only [List.any_eq_true]
theorem pairI_inv {L : List (List Th)} {i : Nat} (h : pairI L i = none) : ∀ k, i < k → k < L.length → mists (L.getD i []) (L.getD k []) = false := by
  intro k hik hk
  unfold pairI at h
  cases hf : (List.range L.length).find? (fun k => decide (i < k) && mists (L.getD i []) (L.getD k [])) with
  | some q => rw [hf] at h; cases h
  | none =>
    rw [List.find?_eq_none] at hf
    have := hf k (List.mem_range.2 hk)
    simpa [hik] using this
theorem pair_none_inv {L : List (List Th)} (h : pairOf L = none) : ∀ i k, i < k → k < L.length → mists (L.getD i []) (L.getD k []) = false := by
  intro i k hik hk
  unfold pairOf at h
  rw [List.findSome?_eq_none_iff] at h
  exact pairI_inv (h i (List.mem_range.2 (by omega))) k hik hk
theorem findSome_inv {α : Type} {f : Nat → Option α} : ∀ {n : Nat} {a : α}, (List.range n).findSome? f = some a → ∃ i, i < n ∧ f i = some a ∧ ∀ j, j < i → f j = none
  | 0, a, h => by simp at h
  | n + 1, a, h => by
    rw [List.range_succ, List.findSome?_append] at h
    cases hp : (List.range n).findSome? f with
    | some b =>
      rw [hp] at h; simp only [Option.some_or, Option.some.injEq] at h; subst h
      obtain ⟨i, h1, h2, h3⟩ := findSome_inv hp
      exact ⟨i, by omega, h2, h3⟩
    | none =>
      rw [hp] at h
      rw [List.findSome?_eq_none_iff] at hp
      refine ⟨n, by omega, by simpa using h, fun j hj => hp j (List.mem_range.2 hj)⟩
theorem pair_some_inv {L : List (List Th)} {a b : Nat} (h : pairOf L = some (a, b)) : (a < b ∧ b < L.length) ∧ ∀ i k, i < k → k < L.length → mists (L.getD i []) (L.getD k []) = true → a < i ∨ (a = i ∧ b ≤ k) := by
  obtain ⟨i0, hi0, hp, hno⟩ := findSome_inv h
  have hp' := hp
  unfold pairI at hp'
  cases hf : (List.range L.length).find? (fun k => decide (i0 < k) && mists (L.getD i0 []) (L.getD k [])) with
  | none => rw [hf] at hp'; cases hp'
  | some q =>
    rw [hf] at hp'
    simp only [Option.map_some, Option.some.injEq, Prod.mk.injEq] at hp'
    obtain ⟨rfl, rfl⟩ := hp'
    rw [List.find?_range_eq_some] at hf
    obtain ⟨h1, h2, h3⟩ := hf
    simp only [Bool.and_eq_true, decide_eq_true_eq] at h1
    refine ⟨⟨h1.1, List.mem_range.1 h2⟩, fun i k hik hk hm => ?_⟩
    rcases Nat.lt_trichotomy i0 i with h | h | h
    · exact .inl h
    · subst h
      refine .inr ⟨rfl, ?_⟩
      rcases Nat.lt_or_ge k q with hq | hq
      · have := h3 k hq
        simp only [hik, decide_true, Bool.true_and, hm, Bool.not_true] at this
        cases this
      · exact hq
    · have := pairI_inv (hno i h) k hik hk
      rw [hm] at this; cases this
end Ol
namespace Ol
open Ni (inn)
theorem mts_ex {c : Ca} (hF : 0 < c.s.far) {e : Int × Int} (h : e.1 < e.2) : ∃ i, i ∈ rng (c.mts e).1 (c.mts e).2 := by
  refine ⟨e.1 / c.s.far, (mem_mts hF).2 ⟨?_, ?_⟩⟩
  · exact (floor_le hF).1 (Int.le_refl _)
  · have := Int.ediv_mul_le e.1 (show c.s.far ≠ 0 by omega); omega
theorem boxAll_iff {c : Ca} {h v : Int × Int} : c.boxAll h v = true ↔ ∀ m ∈ rng v.1 v.2, ∀ i ∈ rng h.1 h.2, c.hide m i = true := by
  unfold Ca.boxAll Ca.rowAll; simp only [List.all_eq_true]
theorem cell_35 {c : Ca} {k m : Int} : c.cell k m = 35 ↔ ∀ j ∈ rng (c.mts (c.dwn m)).1 (c.mts (c.dwn m)).2, ∀ i ∈ rng (c.mts (c.acr k)).1 (c.mts (c.acr k)).2, c.hide j i = true := by
  rw [← boxAll_iff]
  unfold Ca.cell Ca.cellAt
  by_cases h : c.boxAll (c.mts (c.acr k)) (c.mts (c.dwn m)) = true
  · rw [if_pos h]; exact ⟨fun _ => h, fun _ => rfl⟩
  · rw [if_neg h]
    refine ⟨fun e => ?_, fun e => absurd e h⟩
    split at e <;> cases e
theorem CaB.good {c : Ca} (h : CaB c) : Good c := by
  have h1 := h.st; have h2 := h.pc
  exact ⟨by omega, by omega, by omega, by omega⟩
theorem frm_step (c : Ca) (k axis edge : Int) : c.frm (k + 1) axis edge = c.frm k axis edge + (c.s.far - c.p.near) := by
  unfold Ca.frm
  rw [show k + 1 - axis = (k - axis) + 1 by omega, Int.add_mul]; omega
theorem acr_lt {c : Ca} (h : Good c) (k : Int) : (c.acr k).1 < (c.acr k).2 := by
  have := h.blur; have := h.near
  unfold Ca.acr; simp only; rw [frm_step]; omega
theorem dwn_lt {c : Ca} (h : Good c) (k : Int) : (c.dwn k).1 < (c.dwn k).2 := by
  have := h.blur; have := h.near
  unfold Ca.dwn; simp only; rw [frm_step]; omega
theorem cell_46 {c : Ca} (g : Good c) {k m : Int} : c.cell k m = 46 ↔ ∀ j ∈ rng (c.mts (c.dwn m)).1 (c.mts (c.dwn m)).2, ∀ i ∈ rng (c.mts (c.acr k)).1 (c.mts (c.acr k)).2, c.hide j i = false := by
  have hno : c.boxAny (c.mts (c.acr k)) (c.mts (c.dwn m)) = false ↔ ∀ j ∈ rng (c.mts (c.dwn m)).1 (c.mts (c.dwn m)).2, ∀ i ∈ rng (c.mts (c.acr k)).1 (c.mts (c.acr k)).2, c.hide j i = false := by
    unfold Ca.boxAny Ca.rowAny
    simp only [List.any_eq_false, Bool.not_eq_true]
  rw [← hno]
  unfold Ca.cell Ca.cellAt
  by_cases h : c.boxAll (c.mts (c.acr k)) (c.mts (c.dwn m)) = true
  · rw [if_pos h]
    obtain ⟨i, hi⟩ := mts_ex g.far (acr_lt g k)
    obtain ⟨j, hj⟩ := mts_ex g.far (dwn_lt g m)
    refine ⟨fun e => (by cases e), fun e => ?_⟩
    rw [hno] at e
    have h1 := boxAll_iff.1 h j hj i hi
    rw [e j hj i hi] at h1; cases h1
  · rw [if_neg h]
    cases hb : c.boxAny (c.mts (c.acr k)) (c.mts (c.dwn m)) with
    | true => rw [if_pos rfl]; exact ⟨fun e => (by cases e), fun e => (by cases e)⟩
    | false => rw [if_neg (by simp)]; exact ⟨fun _ => rfl, fun _ => rfl⟩
theorem Gr.good {c d : Ca} (g : Gr c d) (h : Good c) : Good d := ⟨by rw [g.f]; exact h.far, by rw [g.f, g.p]; exact h.near, by rw [g.p]; exact h.pos, by have := h.fl; have := g.fl; omega⟩
end Ol
namespace Ol
open Ni (inn)
theorem caOK_f {c : Ca} (h : caOK c = true) : stOK c.s = true ∧ fgOK c.f = true ∧ pcOK c.s c.p = true := by
  unfold caOK at h; simp only [Bool.and_eq_true] at h; exact ⟨h.1.1, h.1.2, h.2⟩
def chF (f : Fg) (i j : Int) : UInt8 := if 0 ≤ j ∧ j < f.length ∧ 0 ≤ i ∧ i < ((f.getD j.toNat []).length : Int) then (f.getD j.toNat []).getD i.toNat 0 else 46
theorem chF_hide {c : Ca} (B : CaB c) (hf : fgOK c.f = true) (i j : Int) : chF c.f i j = if c.hide j i = true then 35 else 46 := by
  unfold chF
  by_cases h : 0 ≤ j ∧ j < c.f.length ∧ 0 ≤ i ∧ i < ((c.f.getD j.toNat []).length : Int)
  · rw [if_pos h]
    obtain ⟨h1, h2, h3, h4⟩ := h
    obtain ⟨j', rfl⟩ : ∃ n : Nat, j = n := ⟨j.toNat, by omega⟩
    obtain ⟨i', rfl⟩ : ∃ n : Nat, i = n := ⟨i.toNat, by omega⟩
    rw [Int.toNat_natCast] at h4 ⊢
    have hj : j' < c.f.length := by omega
    rw [getD_get hj] at h4 ⊢
    have hi : i' < c.f[j'].length := by omega
    rw [Int.toNat_natCast, getD_get hi, hide_in B hj hi]
    unfold fgOK at hf
    simp only [Bool.and_eq_true, List.all_eq_true] at hf
    have := hf.1.2 _ (List.getElem_mem hj)
    unfold fgRow at this
    simp only [Bool.and_eq_true, List.all_eq_true, decide_eq_true_eq] at this
    rcases this.2 _ (List.getElem_mem hi) with e | e <;> rw [e] <;> rfl
  · rw [if_neg h, if_neg]
    rw [Bool.not_eq_true]
    apply hide_out
    rw [Bool.and_eq_false_iff]
    unfold inn
    simp only [Bool.and_eq_false_iff, decide_eq_false_iff_not]
    by_cases hj : 0 ≤ j ∧ j < c.f.length
    · right
      have hj2 : j.toNat < c.f.length := by omega
      have := B.row j.toNat hj2
      rw [getD_get hj2] at h
      omega
    · left; omega
theorem ray {F D b k s e u t x : Int} (hF : 0 < F) (hu : 1 ≤ u) (hu2 : u ≤ 59) (hD : 0 < D) (ht : -(60 * b) ≤ t ∧ t ≤ 60 * b)
    (hx : x = (s - e) * (60 * F) + (60 * (k - s) + u) * D + t) : (s - e) * F + (k - s) * D - b < (x / (60 * F) + 1) * F ∧ x / (60 * F) * F < (s - e) * F + (k + 1 - s) * D + b := by
  have q1 : (s - e) * (60 * F) = 60 * ((s - e) * F) := by rw [← Int.mul_assoc, Int.mul_comm (s - e) 60, Int.mul_assoc]
  have q2 : (60 * (k - s) + u) * D = 60 * ((k - s) * D) + u * D := by rw [Int.add_mul, Int.mul_assoc]
  have q3 : (k + 1 - s) * D = (k - s) * D + D := by rw [show k + 1 - s = (k - s) + 1 by omega, Int.add_mul]; omega
  have d1 : 0 < u * D := Int.mul_pos (by omega) hD
  have d2 : u * D ≤ 59 * D := Int.mul_le_mul_of_nonneg_right hu2 (by omega)
  have h1 := Int.ediv_mul_le x (show 60 * F ≠ 0 by omega)
  have h2 := Int.lt_ediv_add_one_mul_self x (show 0 < 60 * F by omega)
  have q4 : x / (60 * F) * (60 * F) = 60 * (x / (60 * F) * F) := by rw [← Int.mul_assoc, Int.mul_comm (x / (60 * F)) 60, Int.mul_assoc]
  have q5 : (x / (60 * F) + 1) * (60 * F) = 60 * ((x / (60 * F) + 1) * F) := by rw [← Int.mul_assoc, Int.mul_comm (x / (60 * F) + 1) 60, Int.mul_assoc]
  rw [q4] at h1
  rw [q5] at h2
  rw [q1, q2] at hx
  constructor
  · omega
  · rw [q3]; omega
theorem rays {c : Ca} (h : caOK c = true) {k m u v a b x y : Int} (hu : 1 ≤ u ∧ u ≤ 59) (hv : 1 ≤ v ∧ v ≤ 59) (ha : -(60 * c.s.flame) ≤ a ∧ a ≤ 60 * c.s.flame) (hb : -(60 * c.s.flame) ≤ b ∧ b ≤ 60 * c.s.flame)
    (hx : x = (c.s.x - c.p.x) * (60 * c.s.far) + (60 * (k - c.s.x) + u) * (c.s.far - c.p.near) + a * c.p.near) (hy : y = (c.s.y - c.p.y) * (60 * c.s.far) + (60 * (m - c.s.y) + v) * (c.s.far - c.p.near) + b * c.p.near) :
    (c.cell k m = 35 → chF c.f (x / (60 * c.s.far)) (y / (60 * c.s.far)) = 35) ∧ (c.cell k m = 46 → chF c.f (x / (60 * c.s.far)) (y / (60 * c.s.far)) = 46) := by
  have B := caOK_B h
  have g := B.good
  have hD : 0 < c.s.far - c.p.near := by have := g.near; omega
  have bd : ∀ n : Int, -(60 * c.s.flame) ≤ n → n ≤ 60 * c.s.flame → -(60 * c.blur) ≤ n * c.p.near ∧ n * c.p.near ≤ 60 * c.blur := fun n h1 h2 => by
    have e1 := Int.mul_le_mul_of_nonneg_right h1 g.pos
    have e2 := Int.mul_le_mul_of_nonneg_right h2 g.pos
    rw [Int.neg_mul, Int.mul_assoc] at e1
    rw [Int.mul_assoc] at e2
    exact ⟨e1, e2⟩
  have r1 := ray (b := c.blur) g.far hu.1 hu.2 hD (bd a ha.1 ha.2) hx
  have r2 := ray (b := c.blur) g.far hv.1 hv.2 hD (bd b hb.1 hb.2) hy
  have hm : x / (60 * c.s.far) ∈ rng (c.mts (c.acr k)).1 (c.mts (c.acr k)).2 := (mem_mts g.far).2 r1
  have hn : y / (60 * c.s.far) ∈ rng (c.mts (c.dwn m)).1 (c.mts (c.dwn m)).2 := (mem_mts g.far).2 r2
  rw [chF_hide B (caOK_f h).2.1]
  constructor
  · intro e; rw [if_pos (cell_35.1 e _ hn _ hm)]
  · intro e; rw [if_neg (by rw [(cell_46 g).1 e _ hn _ hm]; simp)]
end Ol
namespace Ol
open Ni (inn)
namespace Ca
def eR (c : Ca) (k : Int) : Int := (k + 1) * (c.s.far - c.p.near) + c.s.flame * c.p.near
end Ca
end Ol
namespace Ol
open Ni (inn)
theorem mem_rdgs {x : Sn} {t : Th} : t ∈ rdgs x ↔ t.rd.fig < x.l.length ∧ t ∈ rdN x t.rd.fig := by
  unfold rdgs
  rw [List.mem_flatMap]
  constructor
  · rintro ⟨i, hi, h⟩
    have := rdN_fig h
    subst this
    exact ⟨List.mem_range.1 hi, h⟩
  · rintro ⟨h1, h2⟩; exact ⟨_, List.mem_range.2 h1, h2⟩
theorem good_mists {x : Sn} {t u : Th} (ht : t ∈ rdgs x) (hu : u ∈ rdgs x) (h : goodP t u) : mists ((byF x).getD t.rd.fig []) ((byF x).getD u.rd.fig []) = true := by
  obtain ⟨a1, a2⟩ := mem_rdgs.1 ht
  obtain ⟨b1, b2⟩ := mem_rdgs.1 hu
  have g : ∀ {i : Nat}, i < x.l.length → (byF x).getD i [] = rdN x i := fun {i} hi => by
    unfold byF; rw [getD_get (by simpa using hi)]; simp
  rw [g a1, g b1]
  exact mists_iff.2 ⟨t, a2, u, b2, h.2⟩
theorem MInv.done {x : Sn} {M : Option (Nat × Nat)} (h : MInv (rdgs x) M (rdgs x).length 0) : misOf x = M := by
  have g : ∀ {i : Nat}, i < x.l.length → (byF x).getD i [] = rdN x i := fun {i} hi => by
    unfold byF; rw [getD_get (by simpa using hi)]; simp
  have hl : (byF x).length = x.l.length := by simp [byF]
  have real : ∀ {a b : Nat}, a < b → b < x.l.length → mists ((byF x).getD a []) ((byF x).getD b []) = true → leM M a b := fun {a b} hab hb hm => by
    rw [g (by omega), g hb] at hm
    obtain ⟨t, ht, u, hu, hag⟩ := mists_iff.1 hm
    have ft := rdN_fig ht
    have fu := rdN_fig hu
    have mt : t ∈ rdgs x := mem_rdgs.2 ⟨by omega, by rw [ft]; exact ht⟩
    have mu : u ∈ rdgs x := mem_rdgs.2 ⟨by omega, by rw [fu]; exact hu⟩
    obtain ⟨p, hp, rfl⟩ := List.getElem_of_mem mt
    obtain ⟨q, hq, rfl⟩ := List.getElem_of_mem mu
    have := h.least p q hp hq (.inl hp) ⟨by omega, hag⟩
    rw [ft, fu] at this; exact this
  cases hm : misOf x with
  | none =>
    cases M with
    | none => rfl
    | some m =>
      obtain ⟨t, ht, u, hu, hg, e1, e2⟩ := h.real m rfl
      have h1 := good_mists ht hu hg
      have h2 := pair_none_inv hm _ _ hg.1 (by rw [hl]; exact (mem_rdgs.1 hu).1)
      rw [h1] at h2; cases h2
  | some m' =>
    obtain ⟨a, b⟩ := m'
    obtain ⟨⟨hab, hbl⟩, hmin⟩ := pair_some_inv hm
    rw [hl] at hbl hmin
    obtain ⟨i, hi, e, _⟩ := findSome_inv (show (List.range (byF x).length).findSome? (pairI (byF x)) = some (a, b) from hm)
    have hmm : mists ((byF x).getD a []) ((byF x).getD b []) = true := by
      unfold pairI at e
      cases hf : (List.range (byF x).length).find? (fun k => decide (i < k) && mists ((byF x).getD i []) ((byF x).getD k [])) with
      | none => rw [hf] at e; cases e
      | some k =>
        rw [hf] at e
        simp only [Option.map_some, Option.some.injEq, Prod.mk.injEq] at e
        have h1 := List.find?_some hf
        simp only [Bool.and_eq_true] at h1
        rw [← e.1, ← e.2]; exact h1.2
    have hle := real hab hbl hmm
    cases M with
    | none => unfold leM at hle; simp only [mA] at hle; omega
    | some m =>
      obtain ⟨t, ht, u, hu, hg, e1, e2⟩ := h.real m rfl
      have h1 := good_mists ht hu hg
      have h2 := hmin _ _ hg.1 (mem_rdgs.1 hu).1 h1
      unfold leM at hle
      simp only [mA, mB] at hle
      obtain ⟨m1, m2⟩ := m
      simp only at *
      congr 1
      refine Prod.ext ?_ ?_ <;> simp only <;> omega
end Ol
namespace Go.Proofs.YtmbknoaneglilaaGreatDoor
open Go Go.Ab Ni Ol
theorem en31 : Ent Tryz.prog 31 := Ent.of Tryz.func31 (by kernel_rfl) rfl
theorem en89 : Ent Tryz.prog 89 := Ent.of Tryz.func89 (by kernel_rfl) rfl
theorem rin_pure (n lo hi : Int) : APure Tryz.prog 89 [I n, I lo, I hi] (B (inn n lo hi)) := by
 refine apure_of (rs := [.tmp 6]) Tryz.func89 rfl rfl (Nat.le_of_ble_eq_true rfl) (by simp [AV.pureL, AV.pureB, AV.pureE, pureE_map]) (by first | rfl | (simp [AV.pureL, AV.pureB, AV.pureE, pureE_map])) fun e0 he0 => ?_
 refine aw_seq (aw_region ?_)
 refine asr J rfl (sq_nil (aw_seq (aw_region (mvr J rfl (mvr J rfl (sq_ev rfl (ev_geq J J) ?_))))))
 refine mvr J rfl ?_
 refine sq_split 10 J (fun g1 => ?_) (fun g1 => ?_)
 ·
  have g1' := g1
  try simp only [qq] at g1'
  refine sq_yes rfl rfl (less_b g1) rfl (ev_mv (v := .raw _) J) ?_
  refine sq_yes rfl rfl (less_b g1) rfl (ev_mv (v := .raw _) J) ?_
  refine sq_yes rfl rfl (less_b g1) rfl (ev_leq J J) ?_
  refine sq_ev rfl (ev_pickT (v := .raw _) (less_b g1) J) ?_
  refine asr J rfl (sq_nil (aw_ret ?_))
  exact retQ_pure (v := .raw _) rfl rfl (Less.eq (by simp [inn, *]))
 have g1' := g1
 try simp only [qq] at g1'
 refine sq_no rfl rfl (less_b g1) rfl rfl ?_
 refine sq_no rfl rfl (less_b g1) rfl rfl ?_
 refine sq_no rfl rfl (less_b g1) rfl rfl ?_
 refine sq_ev rfl (ev_pickF (v := .raw _) (less_b g1) J) ?_
 refine asr J rfl (sq_nil (aw_ret ?_))
 exact retQ_pure (v := .raw _) rfl rfl (Less.eq (by simp [inn, *]))
theorem rstage_pure (s : Sg) : APure Tryz.prog 24 [stA s] (B (stOK s)) := by
 refine apure_of (rs := [.tmp 2]) Tryz.func24 rfl rfl (Nat.le_of_ble_eq_true rfl) (by simp [AV.pureL, AV.pureB, AV.pureE, pureE_map]) (by first | rfl | (simp [AV.pureL, AV.pureB, AV.pureE, pureE_map])) fun e0 he0 => ?_
 refine aw_seq (aw_region (sq_box rfl J rfl (asr J rfl (sq_nil (aw_seq (aw_region (sq_ev rfl (ev_fieldAddr fo23_0 J) ?_)))))))
 refine sq_ev rfl (ev_load J rfl ty3 rfl) ?_
 refine sq_ev rfl (ev_call en89 J (rin_pure _ _ _) ⟨J, J, J, trivial⟩) ?_
 refine mvr J rfl ?_
 refine sq_split 6 J (fun g1 => ?_) (fun g1 => ?_)
 ·
  have g1' := g1
  try simp only [qq] at g1'
  refine sq_yes rfl rfl (less_b g1) rfl (ev_fieldAddr fo23_1 J) ?_
  refine sq_yes rfl rfl (less_b g1) rfl (ev_load J rfl ty3 rfl) ?_
  refine sq_yes rfl rfl (less_b g1) rfl (ev_call en89 J (rin_pure _ _ _) ⟨J, J, J, trivial⟩) ?_
  refine sq_ev rfl (ev_pickT (v := .raw _) (less_b g1) J) ?_
  refine mvr J rfl ?_
  refine sq_split 11 J (fun g2 => ?_) (fun g2 => ?_)
  ·
   have g2' := g2
   try simp only [qq] at g2'
   refine sq_yes rfl rfl (less_b g2) rfl (ev_fieldAddr fo23_2 J) ?_
   refine sq_yes rfl rfl (less_b g2) rfl (ev_load J rfl ty3 rfl) ?_
   refine sq_yes rfl rfl (less_b g2) rfl (ev_call en89 J (rin_pure _ _ _) ⟨J, J, J, trivial⟩) ?_
   refine sq_ev rfl (ev_pickT (v := .raw _) (less_b g2) J) ?_
   refine mvr J rfl ?_
   refine sq_split 16 J (fun g3 => ?_) (fun g3 => ?_)
   ·
    have g3' := g3
    try simp only [qq] at g3'
    refine sq_yes rfl rfl (less_b g3) rfl (ev_fieldAddr fo23_3 J) ?_
    refine sq_yes rfl rfl (less_b g3) rfl (ev_load J rfl ty3 rfl) ?_
    refine sq_yes rfl rfl (less_b g3) rfl (ev_call en89 J (rin_pure _ _ _) ⟨J, J, J, trivial⟩) ?_
    refine sq_ev rfl (ev_pickT (v := .raw _) (less_b g3) J) ?_
    refine mvr J rfl ?_
    refine sq_split 21 J (fun g4 => ?_) (fun g4 => ?_)
    ·
     have g4' := g4
     try simp only [qq] at g4'
     refine sq_yes rfl rfl (less_b g4) rfl (ev_fieldAddr fo23_4 J) ?_
     refine sq_yes rfl rfl (less_b g4) rfl (ev_load J rfl ty3 rfl) ?_
     refine sq_yes rfl rfl (less_b g4) rfl (ev_fieldAddr fo23_0 J) ?_
     refine sq_yes rfl rfl (less_b g4) rfl (ev_load J rfl ty3 rfl) ?_
     refine sq_yes rfl rfl (less_b g4) rfl (ev_call en89 J (rin_pure _ _ _) ⟨J, J, J, trivial⟩) ?_
     refine sq_ev rfl (ev_pickT (v := .raw _) (less_b g4) J) ?_
     refine mvr J rfl ?_
     refine sq_split 28 J (fun g5 => ?_) (fun g5 => ?_)
     ·
      have g5' := g5
      try simp only [qq] at g5'
      refine sq_yes rfl rfl (less_b g5) rfl (ev_fieldAddr fo23_5 J) ?_
      refine sq_yes rfl rfl (less_b g5) rfl (ev_load J rfl ty3 rfl) ?_
      refine sq_yes rfl rfl (less_b g5) rfl (ev_fieldAddr fo23_1 J) ?_
      refine sq_yes rfl rfl (less_b g5) rfl (ev_load J rfl ty3 rfl) ?_
      refine sq_yes rfl rfl (less_b g5) rfl (ev_call en89 J (rin_pure _ _ _) ⟨J, J, J, trivial⟩) ?_
      refine sq_ev rfl (ev_pickT (v := .raw _) (less_b g5) J) ?_
      refine asr J rfl (sq_nil (aw_ret ?_))
      exact retQ_pure (v := .raw _) rfl rfl (Less.eq (by simp [stOK, *]))
     have g5' := g5
     try simp only [qq] at g5'
     refine sq_no rfl rfl (less_b g5) rfl rfl ?_
     refine sq_no rfl rfl (less_b g5) rfl rfl ?_
     refine sq_no rfl rfl (less_b g5) rfl rfl ?_
     refine sq_no rfl rfl (less_b g5) rfl rfl ?_
     refine sq_no rfl rfl (less_b g5) rfl rfl ?_
     refine sq_ev rfl (ev_pickF (v := .raw _) (less_b g5) J) ?_
     refine asr J rfl (sq_nil (aw_ret ?_))
     exact retQ_pure (v := .raw _) rfl rfl (Less.eq (by simp [stOK, *]))
    have g4' := g4
    try simp only [qq] at g4'
    refine sq_no rfl rfl (less_b g4) rfl rfl ?_
    refine sq_no rfl rfl (less_b g4) rfl rfl ?_
    refine sq_no rfl rfl (less_b g4) rfl rfl ?_
    refine sq_no rfl rfl (less_b g4) rfl rfl ?_
    refine sq_no rfl rfl (less_b g4) rfl rfl ?_
    refine sq_ev rfl (ev_pickF (v := .raw _) (less_b g4) J) ?_
    refine mvr J rfl (sq_no rfl rfl J rfl rfl (sq_no rfl rfl J rfl rfl ?_))
    refine sq_no rfl rfl J rfl rfl (sq_no rfl rfl J rfl rfl (sq_no rfl rfl J rfl rfl (pf rfl J J (asr J rfl (sq_nil (aw_ret ?_))))))
    exact retQ_pure (v := .raw _) rfl rfl (Less.eq (by simp [stOK, *]))
   have g3' := g3
   try simp only [qq] at g3'
   refine sq_no rfl rfl (less_b g3) rfl rfl ?_
   refine sq_no rfl rfl (less_b g3) rfl rfl ?_
   refine sq_no rfl rfl (less_b g3) rfl rfl ?_
   refine sq_ev rfl (ev_pickF (v := .raw _) (less_b g3) J) ?_
   refine mvr J rfl (sq_no rfl rfl J rfl rfl (sq_no rfl rfl J rfl rfl ?_))
   refine sq_no rfl rfl J rfl rfl (sq_no rfl rfl J rfl rfl (sq_no rfl rfl J rfl rfl (pf rfl J J (mvr J rfl (sq_no rfl rfl J rfl rfl (sq_no rfl rfl J rfl rfl ?_))))))
   refine sq_no rfl rfl J rfl rfl (sq_no rfl rfl J rfl rfl (sq_no rfl rfl J rfl rfl (pf rfl J J (asr J rfl (sq_nil (aw_ret ?_))))))
   exact retQ_pure (v := .raw _) rfl rfl (Less.eq (by simp [stOK, *]))
  have g2' := g2
  try simp only [qq] at g2'
  refine sq_no rfl rfl (less_b g2) rfl rfl ?_
  refine sq_no rfl rfl (less_b g2) rfl rfl ?_
  refine sq_no rfl rfl (less_b g2) rfl rfl ?_
  refine sq_ev rfl (ev_pickF (v := .raw _) (less_b g2) J) ?_
  refine mvr J rfl ?_
  refine sq_no rfl rfl J rfl rfl (sq_no rfl rfl J rfl rfl (sq_no rfl rfl J rfl rfl (pf rfl J J (mvr J rfl (sq_no rfl rfl J rfl rfl (sq_no rfl rfl J rfl rfl ?_))))))
  refine sq_no rfl rfl J rfl rfl (sq_no rfl rfl J rfl rfl (sq_no rfl rfl J rfl rfl (pf rfl J J (mvr J rfl (sq_no rfl rfl J rfl rfl (sq_no rfl rfl J rfl rfl ?_))))))
  refine sq_no rfl rfl J rfl rfl (sq_no rfl rfl J rfl rfl (sq_no rfl rfl J rfl rfl (pf rfl J J (asr J rfl (sq_nil (aw_ret ?_))))))
  exact retQ_pure (v := .raw _) rfl rfl (Less.eq (by simp [stOK, *]))
 have g1' := g1
 try simp only [qq] at g1'
 refine sq_no rfl rfl (less_b g1) rfl rfl ?_
 refine sq_no rfl rfl (less_b g1) rfl rfl ?_
 refine sq_no rfl rfl (less_b g1) rfl rfl ?_
 refine sq_ev rfl (ev_pickF (v := .raw _) (less_b g1) J) ?_
 refine mvr J rfl (sq_no rfl rfl J rfl rfl (sq_no rfl rfl J rfl rfl (sq_no rfl rfl J rfl rfl (pf rfl J J (mvr J rfl ?_)))))
 refine sq_no rfl rfl J rfl rfl (sq_no rfl rfl J rfl rfl (sq_no rfl rfl J rfl rfl (pf rfl J J (mvr J rfl (sq_no rfl rfl J rfl rfl (sq_no rfl rfl J rfl rfl ?_))))))
 refine sq_no rfl rfl J rfl rfl (sq_no rfl rfl J rfl rfl (sq_no rfl rfl J rfl rfl (pf rfl J J (mvr J rfl (sq_no rfl rfl J rfl rfl (sq_no rfl rfl J rfl rfl ?_))))))
 refine sq_no rfl rfl J rfl rfl (sq_no rfl rfl J rfl rfl (sq_no rfl rfl J rfl rfl (pf rfl J J (asr J rfl (sq_nil (aw_ret ?_))))))
 exact retQ_pure (v := .raw _) rfl rfl (Less.eq (by simp [stOK, *]))
theorem rat_pure (x y : Int) : APure Tryz.prog 31 [I x, I y] (B (awayOK x && awayOK y)) := by
 refine apure_of (rs := [.tmp 4]) Tryz.func31 rfl rfl (Nat.le_of_ble_eq_true rfl) (by simp [AV.pureL, AV.pureB, AV.pureE, pureE_map]) (by first | rfl | (simp [AV.pureL, AV.pureB, AV.pureE, pureE_map])) fun e0 he0 => ?_
 refine aw_seq (aw_region (asr J rfl (sq_nil (aw_seq (aw_region (mvr J rfl (sq_ev rfl (ev_call en89 J (rin_pure _ _ _) ⟨J, J, J, trivial⟩) ?_)))))))
 refine mvr J rfl ?_
 refine sq_split 7 J (fun g1 => ?_) (fun g1 => ?_)
 ·
  have g1' := g1
  try simp only [qq] at g1'
  refine sq_yes rfl rfl (less_b g1) rfl (ev_mv (v := .raw _) J) ?_
  refine sq_yes rfl rfl (less_b g1) rfl (ev_call en89 J (rin_pure _ _ _) ⟨J, J, J, trivial⟩) ?_
  refine sq_ev rfl (ev_pickT (v := .raw _) (less_b g1) J) ?_
  refine asr J rfl (sq_nil (aw_ret ?_))
  exact retQ_pure (v := .raw _) rfl rfl (Less.eq (by simp [awayOK, *]))
 have g1' := g1
 try simp only [qq] at g1'
 refine sq_no rfl rfl (less_b g1) rfl rfl ?_
 refine sq_no rfl rfl (less_b g1) rfl rfl ?_
 refine sq_ev rfl (ev_pickF (v := .raw _) (less_b g1) J) ?_
 refine asr J rfl (sq_nil (aw_ret ?_))
 exact retQ_pure (v := .raw _) rfl rfl (Less.eq (by simp [awayOK, *]))
theorem rplace_pure (s : Sg) (p : Pc) (h : 2 ≤ s.far ∧ s.far ≤ 40) : APure Tryz.prog 26 [stA s, pcA p] (B (pcOK s p)) := by
 refine apure_of (rs := [.tmp 4]) Tryz.func26 rfl rfl (Nat.le_of_ble_eq_true rfl) (by simp [AV.pureL, AV.pureB, AV.pureE, pureE_map]) (by first | rfl | (simp [AV.pureL, AV.pureB, AV.pureE, pureE_map])) fun e0 he0 => ?_
 refine aw_seq (aw_region ?_)
 refine sq_box rfl J rfl (sq_box rfl J rfl (asr J rfl (sq_nil (aw_seq (aw_region (sq_ev rfl (ev_fieldAddr fo28_0 J) ?_))))))
 refine sq_ev rfl (ev_load J rfl ty3 rfl) ?_
 refine sq_ev rfl (ev_fieldAddr fo23_2 J) ?_
 refine sq_ev rfl (ev_load J rfl ty3 rfl) ?_
 refine sq_ev rfl (ev_sub J J (wr (by omega) (by omega))) ?_
 refine sq_ev rfl (ev_call en89 J (rin_pure _ _ _) ⟨J, J, J, trivial⟩) ?_
 refine mvr J rfl ?_
 refine sq_split 11 J (fun g1 => ?_) (fun g1 => ?_)
 ·
  have g1' := g1
  try simp only [qq] at g1'
  refine sq_yes rfl rfl (less_b g1) rfl (ev_fieldAddr fo28_1 J) ?_
  refine sq_yes rfl rfl (less_b g1) rfl (ev_load J rfl ty3 rfl) ?_
  refine sq_yes rfl rfl (less_b g1) rfl (ev_fieldAddr fo28_2 J) ?_
  refine sq_yes rfl rfl (less_b g1) rfl (ev_load J rfl ty3 rfl) ?_
  refine sq_yes rfl rfl (less_b g1) rfl (ev_call en31 J (rat_pure _ _) ⟨J, J, trivial⟩) ?_
  refine sq_ev rfl (ev_pickT (v := .raw _) (less_b g1) J) ?_
  refine asr J rfl (sq_nil (aw_ret ?_))
  exact retQ_pure (v := .raw _) rfl rfl (Less.eq (by simp [pcOK, Bool.and_assoc, *]))
 have g1' := g1
 try simp only [qq] at g1'
 refine sq_no rfl rfl (less_b g1) rfl rfl ?_
 refine sq_no rfl rfl (less_b g1) rfl rfl ?_
 refine sq_no rfl rfl (less_b g1) rfl rfl ?_
 refine sq_no rfl rfl (less_b g1) rfl rfl ?_
 refine sq_no rfl rfl (less_b g1) rfl rfl ?_
 refine sq_ev rfl (ev_pickF (v := .raw _) (less_b g1) J) ?_
 refine asr J rfl (sq_nil (aw_ret ?_))
 exact retQ_pure (v := .raw _) rfl rfl (Less.eq (by simp [pcOK, Bool.and_assoc, *]))
end Go.Proofs.YtmbknoaneglilaaGreatDoor
namespace Go.Proofs.YtmbknoaneglilaaGreatDoor
open Go Go.Ab Ni Ol
theorem ch_ok {c : UInt8} (h : (c.toNat : Int) = 35 ∨ (c.toNat : Int) = 46) : chOK c = true := by
  unfold chOK; simp only [decide_eq_true_eq]
  exact h.imp (fun h => UInt8.toNat_inj.1 (by show c.toNat = 35; omega)) (fun h => UInt8.toNat_inj.1 (by show c.toNat = 46; omega))
theorem ch_no {c : UInt8} (h : (c.toNat : Int) ≠ 35) (k : (c.toNat : Int) ≠ 46) : chOK c = false := by
  rw [Bool.eq_false_iff]; intro ho; unfold chOK at ho; simp only [decide_eq_true_eq] at ho
  rcases ho with e | e <;> (subst e; first | exact h rfl | exact k rfl)
theorem rfigure_pure (f : Fg) : APure Tryz.prog 25 [fgA f] (B (fgOK f)) := by
  refine apure_of (rs := [.tmp 2]) Tryz.func25 rfl rfl (Nat.le_of_ble_eq_true rfl) (by simp [AV.pureL, AV.pureB, AV.pureE, pureE_map]) (by first | rfl | (simp [AV.pureL, AV.pureB, AV.pureE, pureE_map])) fun e0 he0 => ?_
  refine aw_seq (aw_region ?_)
  refine sq_box rfl J rfl (asr J rfl (sq_nil (aw_seq (aw_seq (aw_region (sq_ev rfl (ev_fieldAddr fo26_0 J) ?_))))))
  refine sq_ev rfl (ev_load J rfl ty24 rfl) ?_
  refine sq_ev rfl (ev_len_map sl24 J) ?_
  refine sq_ev rfl (ev_call en89 J (rin_pure _ _ _) ⟨J, J, J, trivial⟩) ?_
  refine sq_ev rfl (ev_not J) ?_
  refine mvr J rfl ?_
  refine sq_split 11 J (fun g1_5 => ?_) (fun g1_5 => ?_)
  · skip
    have g1_5' := g1_5
    try simp only [qq] at g1_5'
    refine sq_no rfl rfl (less_b g1_5) rfl rfl ?_
    refine sq_no rfl rfl (less_b g1_5) rfl rfl ?_
    refine sq_no rfl rfl (less_b g1_5) rfl rfl ?_
    refine sq_no rfl rfl (less_b g1_5) rfl rfl ?_
    refine sq_no rfl rfl (less_b g1_5) rfl rfl ?_
    refine sq_no rfl rfl (less_b g1_5) rfl rfl ?_
    refine sq_no rfl rfl (less_b g1_5) rfl rfl ?_
    refine sq_ev rfl (ev_pickT (v := .raw _) (less_b g1_5) J) ?_
    refine sq_nil ?_
    refine aw_true J ?_
    refine aw_seq (aw_region (asr J rfl (sq_nil (aw_ret ?_))))
    exact retQ_pure (v := .raw _) rfl rfl (Less.eq (by unfold fgOK; simp_all))
  · skip
    have g1_5' := g1_5
    try simp only [qq] at g1_5'
    have h1 : inn f.length 1 6 = true := by simpa using g1_5
    have hlen : 1 ≤ f.length ∧ f.length ≤ 6 := by simp only [inn, Bool.and_eq_true, decide_eq_true_eq] at h1; omega
    have hw0 := w0_eq (f := f) (by omega)
    refine sq_yes rfl rfl (less_b g1_5) rfl (ev_fieldAddr fo26_0 J) ?_
    refine sq_yes rfl rfl (less_b g1_5) rfl (ev_load J rfl ty24 rfl) ?_
    refine sq_yes rfl rfl (less_b g1_5) rfl (ev_index_map (k := 0) sl24 J J rfl (by omega)) ?_
    refine sq_yes rfl rfl (less_b g1_5) rfl (ev_load_i J ty9 rfl) ?_
    refine sq_yes rfl rfl (less_b g1_5) rfl (ev_lenS Tryz.underlying9 J) ?_
    refine sq_yes rfl rfl (less_b g1_5) rfl (ev_call en89 J (rin_pure _ _ _) ⟨J, J, J, trivial⟩) ?_
    refine sq_yes rfl rfl (less_b g1_5) rfl (ev_not J) ?_
    refine sq_ev rfl (ev_pickF (v := .raw _) (less_b g1_5) J) ?_
    refine sq_nil ?_
    refine aw_cond J (fun c_19 => ?_) (fun c_19 => ?_)
    · skip
      have c_19' := c_19
      try simp only [qq] at c_19'
      refine aw_seq (aw_region (asr J rfl (sq_nil (aw_ret ?_))))
      exact retQ_pure (v := .raw _) rfl rfl (Less.eq (by unfold fgOK; rw [hw0]; simp_all))
    · skip
      have c_19' := c_19
      try simp only [qq] at c_19'
      have h2 : inn (w0 f) 1 6 = true := by rw [hw0]; simpa using c_19
      refine aw_skip (aw_seq (aw_region (asr J rfl ?_)))
      refine sq_nil (aw_seq (aw_seq (aw_region (asr J rfl (sq_nil (aw_block ?_))))))
      refine aw_loopk (ι := { k : Nat // k ≤ f.length ∧ ∀ i, (h : i < f.length) → i < k → fgRow (w0 f) f[i] = true }) [1] (fun i => [(3, B ((f.take i.1).any hasH)), (4, I i.1)]) (fun H i => H) (fun i => f.length - i.1) (⟨0, Nat.zero_le _, by omega⟩) ⟨J, J, J, trivial⟩ rfl ?_
      rintro ⟨k, hk, hok⟩
      dsimp only [keepS, St.put, sget, slotsOf, nn1, nn2, nn3, nn4, nn5, nn6, Nat.reduceBEq, Nat.reduceAdd, nn7, nn8]
      refine aw_seq (aw_seq (aw_region (mvr J rfl (sq_ev rfl (ev_fieldAddr fo26_0 J) ?_))))
      refine sq_ev rfl (ev_load J rfl ty24 rfl) ?_
      refine sq_ev rfl (ev_len_map sl24 J) ?_
      refine sq_ev rfl (ev_lss J J) ?_
      refine sq_nil ?_
      refine aw_cond J (fun c_24 => ?_) (fun c_24 => ?_)
      · skip
        have c_24' := c_24
        try simp only [qq] at c_24'
        refine aw_skip (aw_seq (aw_block (aw_seq (aw_seq ?_))))
        refine aw_draw 12 mo (by kernel_rfl) ?_
        refine dr_ev rfl (ev_fieldAddr fo26_0 J) ?_
        refine dr_ev rfl (ev_load J rfl ty24 rfl) ?_
        refine dr_ev rfl (ev_mv (v := .raw _) J) ?_
        refine dr_ev rfl (ev_index_map sl24 J J rfl (by omega)) ?_
        refine dr_ev rfl (ev_load_i J ty9 rfl) ?_
        refine dr_ev rfl (ev_lenS Tryz.underlying9 J) ?_
        refine dr_ev rfl (ev_fieldAddr fo26_0 J) ?_
        refine dr_ev rfl (ev_load J rfl ty24 rfl) ?_
        refine dr_ev rfl (ev_index_map (k := 0) sl24 J J rfl (by omega)) ?_
        refine dr_ev rfl (ev_load_i J ty9 rfl) ?_
        refine dr_ev rfl (ev_lenS Tryz.underlying9 J) ?_
        refine dr_ev rfl (ev_neq J J) ?_
        refine dr_end (sq_nil ?_)
        refine aw_cond J (fun c_38 => ?_) (fun c_38 => ?_)
        · skip
          have c_38' := c_38
          try simp only [qq] at c_38'
          refine aw_seq (aw_region (asr J rfl (sq_nil (aw_ret ?_))))
          exact retQ_pure (v := .raw _) rfl rfl (Less.eq (by rw [fg_row_bad (k := k) (by omega) (fgRow_len (by rw [hw0]; omega))]))
        · skip
          have c_38' := c_38
          try simp only [qq] at c_38'
          have hlk : f[k].length ≤ 6 := by simp only [inn, Bool.and_eq_true, decide_eq_true_eq] at h2; omega
          refine aw_skip (aw_seq (aw_region (asr J rfl (sq_nil (aw_block ?_)))))
          refine aw_loopk (ι := { j : Nat // j ≤ f[k].length ∧ ∀ i, (h : i < f[k].length) → i < j → chOK f[k][i] = true }) [1, 4] (fun q => [(3, B ((f.take k).any hasH || (f[k].take q.1).any fun c => decide (c = 35))), (5, I q.1)]) (fun H q => H) (fun q => f[k].length - q.1) (⟨0, Nat.zero_le _, by omega⟩) ⟨(Less.eq (by show B ((f.take k).any hasH) = _; simp)), J, J, J, trivial⟩ rfl ?_
          rintro ⟨j, hj, hoj⟩
          dsimp only [keepS, St.put, sget, slotsOf, nn1, nn2, nn3, nn4, nn5, nn6, Nat.reduceBEq, Nat.reduceAdd, nn7, nn8]
          refine aw_seq (aw_seq (aw_region (mvr J rfl (sq_ev rfl (ev_fieldAddr fo26_0 J) ?_))))
          refine sq_ev rfl (ev_load J rfl ty24 rfl) ?_
          refine mvr J rfl (sq_ev rfl (ev_index_map sl24 J J rfl (by omega)) ?_)
          refine sq_ev rfl (ev_load_i J ty9 rfl) ?_
          refine sq_ev rfl (ev_lenS Tryz.underlying9 J) ?_
          refine sq_ev rfl (ev_lss J J) ?_
          refine sq_nil ?_
          refine aw_cond J (fun c_46 => ?_) (fun c_46 => ?_)
          · skip
            have c_46' := c_46
            try simp only [qq] at c_46'
            have hk' : j < f[k].length := by omega
            have eC := any_take (q := fun c => decide (c = 35)) (l := f[k]) (k := j) hk'
            refine aw_skip (aw_seq (aw_block (aw_seq (aw_seq (aw_region (sq_ev rfl (ev_fieldAddr fo26_0 J) ?_))))))
            refine sq_ev rfl (ev_load J rfl ty24 rfl) ?_
            refine mvr J rfl (sq_ev rfl (ev_index_map sl24 J J rfl (by omega)) ?_)
            refine sq_ev rfl (ev_load_i J ty9 rfl) ?_
            refine mvr J rfl (sq_ev rfl (ev_idxS Tryz.underlying9 J J rfl (by omega)) ?_)
            refine sq_ev rfl (ev_neq J J) ?_
            refine mvr J rfl ?_
            refine sq_split 57 J (fun g12_8 => ?_) (fun g12_8 => ?_)
            · skip
              have g12_8' := g12_8
              try simp only [qq] at g12_8'
              refine sq_yes rfl rfl (less_b g12_8) rfl (ev_fieldAddr fo26_0 J) ?_
              refine sq_yes rfl rfl (less_b g12_8) rfl (ev_load J rfl ty24 rfl) ?_
              refine sq_yes rfl rfl (less_b g12_8) rfl (ev_mv (v := .raw _) J) ?_
              refine sq_yes rfl rfl (less_b g12_8) rfl (ev_index_map sl24 J J rfl (by omega)) ?_
              refine sq_yes rfl rfl (less_b g12_8) rfl (ev_load_i J ty9 rfl) ?_
              refine sq_yes rfl rfl (less_b g12_8) rfl (ev_mv (v := .raw _) J) ?_
              refine sq_yes rfl rfl (less_b g12_8) rfl (ev_idxS Tryz.underlying9 J J rfl (by omega)) ?_
              refine sq_yes rfl rfl (less_b g12_8) rfl (ev_neq J J) ?_
              refine sq_ev rfl (ev_pickT (v := .raw _) (less_b g12_8) J) ?_
              refine sq_nil ?_
              refine aw_cond J (fun c_66 => ?_) (fun c_66 => ?_)
              · skip
                have c_66' := c_66
                try simp only [qq] at c_66'
                refine aw_seq (aw_region (asr J rfl (sq_nil (aw_ret ?_))))
                exact retQ_pure (v := .raw _) rfl rfl (Less.eq (by rw [fg_row_bad (k := k) (by omega) (fgRow_ch (j := j) hk' (ch_no g12_8' c_66'))]))
              · skip
                have c_66' := c_66
                try simp only [qq] at c_66'
                have hch : chOK f[k][j] = true := ch_ok (.inr (by simpa using c_66))
                refine aw_skip (aw_region (mvr J rfl (mvr J rfl ?_)))
                refine sq_split 68 J (fun g14_1 => ?_) (fun g14_1 => ?_)
                · skip
                  have g14_1' := g14_1
                  try simp only [qq] at g14_1'
                  have eF : B true = B ((f.take k).any hasH || (f[k].take (j + 1)).any fun c => decide (c = 35)) := by rw [eC, ← Bool.or_assoc, g14_1]; rfl
                  refine sq_no rfl rfl (less_b g14_1) rfl rfl ?_
                  refine sq_no rfl rfl (less_b g14_1) rfl rfl ?_
                  refine sq_no rfl rfl (less_b g14_1) rfl rfl ?_
                  refine sq_no rfl rfl (less_b g14_1) rfl rfl ?_
                  refine sq_no rfl rfl (less_b g14_1) rfl rfl ?_
                  refine sq_no rfl rfl (less_b g14_1) rfl rfl ?_
                  refine sq_no rfl rfl (less_b g14_1) rfl rfl ?_
                  refine sq_no rfl rfl (less_b g14_1) rfl rfl ?_
                  refine sq_ev rfl (ev_pickT (v := .raw _) (less_b g14_1) J) ?_
                  refine asr J rfl (sq_nil (aw_region (mvr J rfl (sq_ev rfl (ev_add J J (wr (by omega) (by omega))) ?_))))
                  refine asr J rfl (sq_nil ?_)
                  exact ⟨⟨j + 1, by omega, fun i h hi => (by by_cases e : i = j; (subst e; exact hch); exact hoj i h (by omega))⟩, by simp only; omega, Sub.slots ⟨(Less.eq eF), J, J, J, trivial⟩⟩
                · skip
                  have g14_1' := g14_1
                  try simp only [qq] at g14_1'
                  have eF : B (decide (((f[k][j]).toNat : Int) = 35)) = B ((f.take k).any hasH || (f[k].take (j + 1)).any fun c => decide (c = 35)) := by rw [eC, ← Bool.or_assoc, g14_1, dec35]; rfl
                  refine sq_yes rfl rfl (less_b g14_1) rfl (ev_fieldAddr fo26_0 J) ?_
                  refine sq_yes rfl rfl (less_b g14_1) rfl (ev_load J rfl ty24 rfl) ?_
                  refine sq_yes rfl rfl (less_b g14_1) rfl (ev_mv (v := .raw _) J) ?_
                  refine sq_yes rfl rfl (less_b g14_1) rfl (ev_index_map sl24 J J rfl (by omega)) ?_
                  refine sq_yes rfl rfl (less_b g14_1) rfl (ev_load_i J ty9 rfl) ?_
                  refine sq_yes rfl rfl (less_b g14_1) rfl (ev_mv (v := .raw _) J) ?_
                  refine sq_yes rfl rfl (less_b g14_1) rfl (ev_idxS Tryz.underlying9 J J rfl (by omega)) ?_
                  refine sq_yes rfl rfl (less_b g14_1) rfl (ev_eql J J) ?_
                  refine sq_ev rfl (ev_pickF (v := .raw _) (less_b g14_1) J) ?_
                  refine asr J rfl (sq_nil (aw_region (mvr J rfl (sq_ev rfl (ev_add J J (wr (by omega) (by omega))) ?_))))
                  refine asr J rfl (sq_nil ?_)
                  exact ⟨⟨j + 1, by omega, fun i h hi => (by by_cases e : i = j; (subst e; exact hch); exact hoj i h (by omega))⟩, by simp only; omega, Sub.slots ⟨(Less.eq eF), J, J, J, trivial⟩⟩
            · skip
              have g12_8' := g12_8
              try simp only [qq] at g12_8'
              have hch : chOK f[k][j] = true := ch_ok (.inl (by simpa using g12_8))
              refine sq_no rfl rfl (less_b g12_8) rfl rfl ?_
              refine sq_no rfl rfl (less_b g12_8) rfl rfl ?_
              refine sq_no rfl rfl (less_b g12_8) rfl rfl ?_
              refine sq_no rfl rfl (less_b g12_8) rfl rfl ?_
              refine sq_no rfl rfl (less_b g12_8) rfl rfl ?_
              refine sq_no rfl rfl (less_b g12_8) rfl rfl ?_
              refine sq_no rfl rfl (less_b g12_8) rfl rfl ?_
              refine sq_no rfl rfl (less_b g12_8) rfl rfl ?_
              refine sq_ev rfl (ev_pickF (v := .raw _) (less_b g12_8) J) ?_
              refine sq_nil ?_
              refine aw_false J ?_
              refine aw_skip (aw_region (mvr J rfl (mvr J rfl ?_)))
              refine sq_split 68 J (fun g14_1 => ?_) (fun g14_1 => ?_)
              · skip
                have g14_1' := g14_1
                try simp only [qq] at g14_1'
                have eF : B true = B ((f.take k).any hasH || (f[k].take (j + 1)).any fun c => decide (c = 35)) := by rw [eC, ← Bool.or_assoc, g14_1]; rfl
                refine sq_no rfl rfl (less_b g14_1) rfl rfl ?_
                refine sq_no rfl rfl (less_b g14_1) rfl rfl ?_
                refine sq_no rfl rfl (less_b g14_1) rfl rfl ?_
                refine sq_no rfl rfl (less_b g14_1) rfl rfl ?_
                refine sq_no rfl rfl (less_b g14_1) rfl rfl ?_
                refine sq_no rfl rfl (less_b g14_1) rfl rfl ?_
                refine sq_no rfl rfl (less_b g14_1) rfl rfl ?_
                refine sq_no rfl rfl (less_b g14_1) rfl rfl ?_
                refine sq_ev rfl (ev_pickT (v := .raw _) (less_b g14_1) J) ?_
                refine asr J rfl (sq_nil (aw_region (mvr J rfl (sq_ev rfl (ev_add J J (wr (by omega) (by omega))) ?_))))
                refine asr J rfl (sq_nil ?_)
                exact ⟨⟨j + 1, by omega, fun i h hi => (by by_cases e : i = j; (subst e; exact hch); exact hoj i h (by omega))⟩, by simp only; omega, Sub.slots ⟨(Less.eq eF), J, J, J, trivial⟩⟩
              · skip
                have g14_1' := g14_1
                try simp only [qq] at g14_1'
                have eF : B (decide (((f[k][j]).toNat : Int) = 35)) = B ((f.take k).any hasH || (f[k].take (j + 1)).any fun c => decide (c = 35)) := by rw [eC, ← Bool.or_assoc, g14_1, dec35]; rfl
                refine sq_yes rfl rfl (less_b g14_1) rfl (ev_fieldAddr fo26_0 J) ?_
                refine sq_yes rfl rfl (less_b g14_1) rfl (ev_load J rfl ty24 rfl) ?_
                refine sq_yes rfl rfl (less_b g14_1) rfl (ev_mv (v := .raw _) J) ?_
                refine sq_yes rfl rfl (less_b g14_1) rfl (ev_index_map sl24 J J rfl (by omega)) ?_
                refine sq_yes rfl rfl (less_b g14_1) rfl (ev_load_i J ty9 rfl) ?_
                refine sq_yes rfl rfl (less_b g14_1) rfl (ev_mv (v := .raw _) J) ?_
                refine sq_yes rfl rfl (less_b g14_1) rfl (ev_idxS Tryz.underlying9 J J rfl (by omega)) ?_
                refine sq_yes rfl rfl (less_b g14_1) rfl (ev_eql J J) ?_
                refine sq_ev rfl (ev_pickF (v := .raw _) (less_b g14_1) J) ?_
                refine asr J rfl (sq_nil (aw_region (mvr J rfl (sq_ev rfl (ev_add J J (wr (by omega) (by omega))) ?_))))
                refine asr J rfl (sq_nil ?_)
                exact ⟨⟨j + 1, by omega, fun i h hi => (by by_cases e : i = j; (subst e; exact hch); exact hoj i h (by omega))⟩, by simp only; omega, Sub.slots ⟨(Less.eq eF), J, J, J, trivial⟩⟩
          · skip
            have c_46' := c_46
            try simp only [qq] at c_46'
            refine aw_exit (aw_region (mvr J rfl (sq_ev rfl (ev_add J J (wr (by omega) (by omega))) ?_)))
            refine asr J rfl (sq_nil ?_)
            have hgood : fgRow (w0 f) f[k] = true := fgRow_ok (by omega) (fun i h => hoj i h (by omega))
            have eA := any_take (q := hasH) (l := f) (k := k) (by omega)
            have eB : hasH f[k] = (f[k].take j).any (fun c => decide (c = 35)) := by unfold hasH; rw [List.take_of_length_le (by omega)]
            exact ⟨⟨k + 1, by omega, fun i h hi => (by by_cases e : i = k; (subst e; exact hgood); exact hok i h (by omega))⟩, by simp only; omega, Sub.slots ⟨(Less.eq (show B ((f.take k).any hasH || (f[k].take j).any fun c => decide (c = 35)) = _ by rw [eA, eB])), J, J, trivial⟩⟩
      · skip
        have c_24' := c_24
        try simp only [qq] at c_24'
        refine aw_exit (aw_seq (aw_region (mvr J rfl (asr J rfl (sq_nil (aw_ret ?_))))))
        exact retQ_pure (v := .raw _) rfl rfl (Less.eq (by rw [fg_end h1 h2 (fun i h => hok i h (by omega)), show k = f.length by omega, List.take_length]))
end Go.Proofs.YtmbknoaneglilaaGreatDoor
namespace Go.Proofs.YtmbknoaneglilaaGreatDoor
open Go Go.Ab Ni Ol
theorem en23 : Ent Tryz.prog 23 := Ent.of Tryz.func23 (by kernel_rfl) rfl
theorem en24 : Ent Tryz.prog 24 := Ent.of Tryz.func24 (by kernel_rfl) rfl
theorem en25 : Ent Tryz.prog 25 := Ent.of Tryz.func25 (by kernel_rfl) rfl
theorem en26 : Ent Tryz.prog 26 := Ent.of Tryz.func26 (by kernel_rfl) rfl
theorem en29 : Ent Tryz.prog 29 := Ent.of Tryz.func29 (by kernel_rfl) rfl
theorem en37 : Ent Tryz.prog 37 := Ent.of Tryz.func37 (by kernel_rfl) rfl
theorem en41 : Ent Tryz.prog 41 := Ent.of Tryz.func41 (by kernel_rfl) rfl
theorem allT_no {α : Type} {q : α → Bool} {l : List α} {n i : Nat} (hi : i < l.length) (hn : i < n) (h : q l[i] = false) : (l.take n).all q = false := by
  rw [List.all_eq_false]
  have hm : i < (l.take n).length := by rw [List.length_take]; omega
  exact ⟨(l.take n)[i], List.getElem_mem hm, by rw [List.getElem_take, h]; simp⟩
theorem allT_yes {α : Type} {q : α → Bool} {l : List α} {n : Nat} (h : ∀ i, (hi : i < l.length) → i < n → q l[i] = true) : (l.take n).all q = true := by
  rw [List.all_eq_true]
  intro x hx
  obtain ⟨i, hi, rfl⟩ := List.getElem_of_mem hx
  rw [List.length_take] at hi
  rw [List.getElem_take]; exact h i (by omega) (by omega)
def shortB (l : List (List UInt8)) : Bool := (l.take 20).all (fun r => decide (r.length ≤ 20)) && decide (l.length ≤ 18)
def wholeB (s : Sg) (c : List (List UInt8)) : Bool := siOK s c && decide (cnt 63 c = 0)
theorem short_pure (l : List (List UInt8)) : APure Tryz.prog 23 [strs l] (B (shortB l)) := by
  refine apure_of (rs := [.tmp 2]) Tryz.func23 rfl rfl (Nat.le_of_ble_eq_true rfl) (by simp [AV.pureL, AV.pureB, AV.pureE, pureE_map]) (by first | rfl | (simp [AV.pureL, AV.pureB, AV.pureE, pureE_map])) fun e0 he0 => ?_
  refine aw_seq (aw_region (asr J rfl ?_))
  refine sq_nil (aw_seq (aw_seq (aw_region (asr J rfl (sq_nil (aw_block ?_))))))
  refine aw_loopk (ι := { k : Nat // k ≤ l.length ∧ k ≤ 20 ∧ ∀ i, (h : i < l.length) → i < k → decide (l[i].length ≤ 20) = true }) [0] (fun g => [(3, I g.1)]) (fun H g => H) (fun g => 20 - g.1) (⟨0, Nat.zero_le _, by omega, by omega⟩) ⟨J, J, trivial⟩ rfl ?_
  rintro ⟨k, hk, hok⟩
  dsimp only [keepS, St.put, sget, slotsOf, nn1, nn2, nn3, nn4, nn5, nn6, Nat.reduceBEq, Nat.reduceAdd, nn7, nn8]
  refine aw_seq (aw_seq (aw_region (mvr J rfl (mvs rfl J (sq_ev rfl (ev_len_map sl24 J) ?_)))))
  refine sq_ev rfl (ev_lss J J) ?_
  refine mvr J rfl ?_
  refine sq_split 8 J (fun g2_4 => ?_) (fun g2_4 => ?_)
  · skip
    have g2_4' := g2_4
    try simp only [qq] at g2_4'
    have hkL : k < l.length := by omega
    refine sq_yes rfl rfl (less_b g2_4) rfl (ev_mv (v := .raw _) J) ?_
    refine sq_yes rfl rfl (less_b g2_4) rfl (ev_lss J J) ?_
    refine sq_ev rfl (ev_pickT (v := .raw _) (less_b g2_4) J) ?_
    refine sq_nil ?_
    refine aw_cond J (fun c_11 => ?_) (fun c_11 => ?_)
    · skip
      have c_11' := c_11
      try simp only [qq] at c_11'
      refine aw_skip (aw_seq (aw_block (aw_seq (aw_region (mvs rfl J (mvr J rfl (sq_ev rfl (ev_index_map sl24 J J rfl (by omega)) ?_)))))))
      refine sq_ev rfl (ev_load_i J ty9 rfl) ?_
      refine sq_ev rfl (ev_lenS Tryz.underlying9 J) ?_
      refine sq_ev rfl (ev_gtr J J) ?_
      refine sq_nil ?_
      refine aw_cond J (fun c_19 => ?_) (fun c_19 => ?_)
      · skip
        have c_19' := c_19
        try simp only [qq] at c_19'
        refine aw_seq (aw_region (asr J rfl (sq_nil (aw_ret ?_))))
        exact retQ_pure (v := .raw _) rfl rfl (Less.eq (by rw [shortB, allT_no (i := k) (n := 20) hkL (by omega) (by simp only [decide_eq_false_iff_not]; omega)]; rfl))
      · skip
        have c_19' := c_19
        try simp only [qq] at c_19'
        refine aw_skip (aw_region (mvr J rfl (sq_ev rfl (ev_add J J (wr (by omega) (by omega))) ?_)))
        refine asr J rfl (sq_nil ?_)
        have hgood : decide (l[k].length ≤ 20) = true := by simp only [decide_eq_true_eq]; omega
        exact ⟨⟨k + 1, by omega, by omega, fun i h hi => (by by_cases e : i = k; (subst e; exact hgood); exact hok.2 i h (by omega))⟩, by simp only; omega, Sub.slots ⟨J, J, trivial⟩⟩
    · skip
      have c_11' := c_11
      try simp only [qq] at c_11'
      refine aw_exit (aw_seq (aw_region (mvs rfl J (sq_ev rfl (ev_len_map sl24 J) ?_))))
      refine sq_ev rfl (ev_leq J J) ?_
      refine asr J rfl (sq_nil (aw_ret ?_))
      exact retQ_pure (v := .raw _) rfl rfl (Less.eq (by rw [shortB, allT_yes (n := 20) (fun i h hi => hok.2 i h (by omega))]; simp; omega))
  · skip
    have g2_4' := g2_4
    try simp only [qq] at g2_4'
    refine sq_no rfl rfl (less_b g2_4) rfl rfl ?_
    refine sq_no rfl rfl (less_b g2_4) rfl rfl ?_
    refine sq_ev rfl (ev_pickF (v := .raw _) (less_b g2_4) J) ?_
    refine sq_nil ?_
    refine aw_false J ?_
    refine aw_exit (aw_seq (aw_region (mvs rfl J (sq_ev rfl (ev_len_map sl24 J) ?_))))
    refine sq_ev rfl (ev_leq J J) ?_
    refine asr J rfl (sq_nil (aw_ret ?_))
    exact retQ_pure (v := .raw _) rfl rfl (Less.eq (by rw [shortB, allT_yes (n := 20) (fun i h hi => hok.2 i h (by omega))]; simp; omega))
theorem rsight_pure (s : Sg) (l : List (List UInt8)) (hs : shp l) : APure Tryz.prog 37 [stA s, strs l] (B (siOK s l)) := by
 refine apure_of (rs := [.tmp 4]) Tryz.func37 rfl rfl (Nat.le_of_ble_eq_true rfl) (by simp [AV.pureL, AV.pureB, AV.pureE, pureE_map]) (by first | rfl | (simp [AV.pureL, AV.pureB, AV.pureE, pureE_map])) fun e0 he0 => ?_
 refine aw_seq (aw_region (sq_box rfl J rfl ?_))
 refine asr J rfl (sq_nil (aw_seq (aw_seq (aw_region (mvs rfl J (sq_ev rfl (ev_len_map sl24 J) ?_))))))
 refine sq_ev rfl (ev_fieldAddr fo23_1 J) ?_
 refine sq_ev rfl (ev_load J rfl ty3 rfl) ?_
 refine sq_ev rfl (ev_neq J J) ?_
 refine sq_nil ?_
 refine aw_cond J (fun c_12 => ?_) (fun c_12 => ?_)
 ·
  have c_12' := c_12
  try simp only [qq] at c_12'
  refine aw_seq (aw_region (asr J rfl (sq_nil (aw_ret ?_))))
  exact retQ_pure (v := .raw _) rfl rfl (Less.eq (by unfold siOK; rw [decide_eq_false c_12']; rfl))
 have c_12' := c_12
 try simp only [qq] at c_12'
 have hlen : (l.length : Int) = s.high := by omega
 refine aw_skip (aw_seq (aw_seq (aw_region (asr J rfl (sq_nil (aw_block ?_))))))
 refine aw_loopk (ι := { m : Nat // m ≤ l.length ∧ ∀ i, (h : i < l.length) → i < m → siRow s.wide l[i] = true }) [1, 2] (fun g => [(5, I g.1)]) (fun H g => H) (fun g => l.length - g.1) (⟨0, Nat.zero_le _, by omega⟩) ⟨J, J, J, trivial⟩ rfl ?_
 rintro ⟨m, hm, hok⟩
 dsimp only [keepS, St.put, sget, slotsOf, nn1, nn2, nn3, nn4, nn5, nn6, Nat.reduceBEq, Nat.reduceAdd, nn7, nn8]
 have hs1 := hs.1
 refine aw_seq (aw_seq (aw_region (mvr J rfl (mvs rfl J (sq_ev rfl (ev_len_map sl24 J) ?_)))))
 refine sq_ev rfl (ev_lss J J) ?_
 refine sq_nil ?_
 refine aw_cond J (fun c_16 => ?_) (fun c_16 => ?_)
 ·
  have c_16' := c_16
  try simp only [qq] at c_16'
  have hmL : m < l.length := by omega
  have hrl := hs.2 _ (List.getElem_mem hmL)
  refine aw_skip (aw_seq (aw_block (aw_seq (aw_seq ?_))))
  refine aw_draw 8 mo (by kernel_rfl) ?_
  refine dr_ev rfl (ev_mv (v := .sl _ _) J) ?_
  refine dr_ev rfl (ev_mv (v := .raw _) J) ?_
  refine dr_ev rfl (ev_index_map sl24 J J rfl (by omega)) ?_
  refine dr_ev rfl (ev_load_i J ty9 rfl) ?_
  refine dr_ev rfl (ev_lenS Tryz.underlying9 J) ?_
  refine dr_ev rfl (ev_fieldAddr fo23_0 J) ?_
  refine dr_ev rfl (ev_load J rfl ty3 rfl) ?_
  refine dr_ev rfl (ev_neq J J) ?_
  refine dr_end (sq_nil ?_)
  refine aw_cond J (fun c_26 => ?_) (fun c_26 => ?_)
  ·
   have c_26' := c_26
   try simp only [qq] at c_26'
   refine aw_seq (aw_region (asr J rfl (sq_nil (aw_ret ?_))))
   exact retQ_pure (v := .raw _) rfl rfl (Less.eq (by rw [siOK_bad hmL (by rw [siRow_eq, decide_eq_false (by simpa using c_26')]; rfl)]))
  have c_26' := c_26
  try simp only [qq] at c_26'
  refine aw_skip (aw_seq (aw_region (asr J rfl (sq_nil (aw_block ?_)))))
  refine aw_loopk (ι := { k : Nat // k ≤ l[m].length ∧ ∀ i, (h : i < l[m].length) → i < k → sBad l[m][i] = false }) [1, 2, 5] (fun g => [(6, I g.1)]) (fun H g => H) (fun g => l[m].length - g.1) (⟨0, Nat.zero_le _, by omega⟩) ⟨J, J, J, J, trivial⟩ rfl ?_
  rintro ⟨k, hk, hok2⟩
  dsimp only [keepS, St.put, sget, slotsOf, nn1, nn2, nn3, nn4, nn5, nn6, Nat.reduceBEq, Nat.reduceAdd, nn7, nn8]
  refine aw_seq (aw_seq (aw_region (mvr J rfl (mvs rfl J (mvr J rfl (sq_ev rfl (ev_index_map sl24 J J rfl (by omega)) ?_))))))
  refine sq_ev rfl (ev_load_i J ty9 rfl) ?_
  refine sq_ev rfl (ev_lenS Tryz.underlying9 J) ?_
  refine sq_ev rfl (ev_lss J J) ?_
  refine sq_nil ?_
  refine aw_cond J (fun c_33 => ?_) (fun c_33 => ?_)
  ·
   have c_33' := c_33
   try simp only [qq] at c_33'
   have hkL : k < l[m].length := by omega
   refine aw_skip (aw_seq (aw_block (aw_seq (aw_region (mvs rfl J (mvr J rfl (sq_ev rfl (ev_index_map sl24 J J rfl (by omega)) ?_)))))))
   refine sq_ev rfl (ev_load_i J ty9 rfl) ?_
   refine mvr J rfl (sq_ev rfl (ev_idxS Tryz.underlying9 J J rfl (by omega)) ?_)
   refine asr J rfl (sq_nil (aw_seq (aw_region (mvr J rfl (sq_ev rfl (ev_neq J J) ?_)))))
   refine mvr J rfl ?_
   refine sq_split 44 J (fun g12_2 => ?_) (fun g12_2 => ?_)
   ·
    have g12_2' := g12_2
    try simp only [qq] at g12_2'
    refine sq_yes rfl rfl (less_b g12_2) rfl (ev_mv (v := .raw _) J) ?_
    refine sq_yes rfl rfl (less_b g12_2) rfl (ev_neq J J) ?_
    refine sq_ev rfl (ev_pickT (v := .raw _) (less_b g12_2) J) ?_
    refine mvr J rfl ?_
    refine sq_split 48 J (fun g12_6 => ?_) (fun g12_6 => ?_)
    ·
     have g12_6' := g12_6
     try simp only [qq] at g12_6'
     refine sq_yes rfl rfl (less_b g12_6) rfl (ev_mv (v := .raw _) J) ?_
     refine sq_yes rfl rfl (less_b g12_6) rfl (ev_neq J J) ?_
     refine sq_ev rfl (ev_pickT (v := .raw _) (less_b g12_6) J) ?_
     refine mvr J rfl ?_
     refine sq_split 52 J (fun g12_10 => ?_) (fun g12_10 => ?_)
     ·
      have g12_10' := g12_10
      try simp only [qq] at g12_10'
      refine sq_yes rfl rfl (less_b g12_10) rfl (ev_mv (v := .raw _) J) ?_
      refine sq_yes rfl rfl (less_b g12_10) rfl (ev_neq J J) ?_
      refine sq_ev rfl (ev_pickT (v := .raw _) (less_b g12_10) J) ?_
      refine sq_nil ?_
      refine aw_cond J (fun c_55 => ?_) (fun c_55 => ?_)
      ·
       have c_55' := c_55
       try simp only [qq] at c_55'
       refine aw_seq (aw_region (asr J rfl (sq_nil (aw_ret ?_))))
       exact retQ_pure (v := .raw _) rfl rfl (Less.eq (by rw [siOK_bad hmL (by rw [siRow_eq, List.any_eq_true.2 ⟨_, List.getElem_mem hkL, by rw [sBad_eq]; simp only [dec35n, dec43n, dec46n, dec63n] at *; simp_all⟩]; simp)]))
      have c_55' := c_55
      try simp only [qq] at c_55'
      refine aw_skip (aw_region (mvr J rfl (sq_ev rfl (ev_add J J (wr (by omega) (by omega))) ?_)))
      refine asr J rfl (sq_nil ?_)
      have hgood2 : sBad l[m][k] = false := by rw [sBad_eq]; simp only [dec35n, dec43n, dec46n, dec63n] at *; simp_all
      exact ⟨⟨k + 1, by omega, fun i h hi => (by by_cases e : i = k; (subst e; exact hgood2); exact hok2 i h (by omega))⟩, by simp only; omega, Sub.slots ⟨J, J, J, J, trivial⟩⟩
     have g12_10' := g12_10
     try simp only [qq] at g12_10'
     refine sq_no rfl rfl (less_b g12_10) rfl rfl ?_
     refine sq_no rfl rfl (less_b g12_10) rfl rfl ?_
     refine sq_ev rfl (ev_pickF (v := .raw _) (less_b g12_10) J) ?_
     refine sq_nil ?_
     refine aw_false J ?_
     refine aw_skip (aw_region (mvr J rfl (sq_ev rfl (ev_add J J (wr (by omega) (by omega))) ?_)))
     refine asr J rfl (sq_nil ?_)
     have hgood2 : sBad l[m][k] = false := by rw [sBad_eq]; simp only [dec35n, dec43n, dec46n, dec63n] at *; simp_all
     exact ⟨⟨k + 1, by omega, fun i h hi => (by by_cases e : i = k; (subst e; exact hgood2); exact hok2 i h (by omega))⟩, by simp only; omega, Sub.slots ⟨J, J, J, J, trivial⟩⟩
    have g12_6' := g12_6
    try simp only [qq] at g12_6'
    refine sq_no rfl rfl (less_b g12_6) rfl rfl ?_
    refine sq_no rfl rfl (less_b g12_6) rfl rfl ?_
    refine sq_ev rfl (ev_pickF (v := .raw _) (less_b g12_6) J) ?_
    refine mvr J rfl (sq_no rfl rfl J rfl rfl (sq_no rfl rfl J rfl rfl (pf rfl J J (sq_nil ?_))))
    refine aw_false J ?_
    refine aw_skip (aw_region (mvr J rfl (sq_ev rfl (ev_add J J (wr (by omega) (by omega))) ?_)))
    refine asr J rfl (sq_nil ?_)
    have hgood2 : sBad l[m][k] = false := by rw [sBad_eq]; simp only [dec35n, dec43n, dec46n, dec63n] at *; simp_all
    exact ⟨⟨k + 1, by omega, fun i h hi => (by by_cases e : i = k; (subst e; exact hgood2); exact hok2 i h (by omega))⟩, by simp only; omega, Sub.slots ⟨J, J, J, J, trivial⟩⟩
   have g12_2' := g12_2
   try simp only [qq] at g12_2'
   refine sq_no rfl rfl (less_b g12_2) rfl rfl ?_
   refine sq_no rfl rfl (less_b g12_2) rfl rfl ?_
   refine sq_ev rfl (ev_pickF (v := .raw _) (less_b g12_2) J) ?_
   refine mvr J rfl (sq_no rfl rfl J rfl rfl ?_)
   refine sq_no rfl rfl J rfl rfl (pf rfl J J (mvr J rfl (sq_no rfl rfl J rfl rfl (sq_no rfl rfl J rfl rfl (pf rfl J J (sq_nil ?_))))))
   refine aw_false J ?_
   refine aw_skip (aw_region (mvr J rfl (sq_ev rfl (ev_add J J (wr (by omega) (by omega))) ?_)))
   refine asr J rfl (sq_nil ?_)
   have hgood2 : sBad l[m][k] = false := by rw [sBad_eq]; simp only [dec35n, dec43n, dec46n, dec63n] at *; simp_all
   exact ⟨⟨k + 1, by omega, fun i h hi => (by by_cases e : i = k; (subst e; exact hgood2); exact hok2 i h (by omega))⟩, by simp only; omega, Sub.slots ⟨J, J, J, J, trivial⟩⟩
  have c_33' := c_33
  try simp only [qq] at c_33'
  refine aw_exit (aw_region (mvr J rfl (sq_ev rfl (ev_add J J (wr (by omega) (by omega))) ?_)))
  refine asr J rfl (sq_nil ?_)
  have hgood : siRow s.wide l[m] = true := by rw [siRow_eq, decide_eq_true (by simpa using c_26'), List.any_eq_false.2 (fun q hq => by obtain ⟨i, hi, rfl⟩ := List.getElem_of_mem hq; simp [hok2 i hi (by omega)])]; rfl
  exact ⟨⟨m + 1, by omega, fun i h hi => (by by_cases e : i = m; (subst e; exact hgood); exact hok i h (by omega))⟩, by simp only; omega, Sub.slots ⟨J, J, J, trivial⟩⟩
 have c_16' := c_16
 try simp only [qq] at c_16'
 refine aw_exit (aw_seq (aw_region (asr J rfl (sq_nil (aw_ret ?_)))))
 exact retQ_pure (v := .raw _) rfl rfl (Less.eq (by rw [siOK_end hlen (fun i hi => hok i hi (by omega))]))
end Go.Proofs.YtmbknoaneglilaaGreatDoor
namespace Go.Proofs.YtmbknoaneglilaaGreatDoor
open Go Go.Ab Ni Ol
theorem en99 : Ent Tryz.prog 99 := Ent.of Tryz.func99 (by kernel_rfl) rfl
def cntR (ch : UInt8) (r : List UInt8) (k : Nat) : Int := ((r.take k).count ch : Int)
theorem cntR_succ {ch : UInt8} {r : List UInt8} {k : Nat} (h : k < r.length) : cntR ch r (k + 1) = cntR ch r k + (if r[k] = ch then 1 else 0) := by
  unfold cntR; rw [List.take_succ_eq_append_getElem h, List.count_append]
  by_cases e : r[k] = ch
  · rw [if_pos e, e]; simp
  · rw [if_neg e]; simp [List.count_singleton, e]
theorem cntR_bd (ch : UInt8) (r : List UInt8) (k : Nat) : 0 ≤ cntR ch r k ∧ cntR ch r k ≤ k := by
  unfold cntR
  have h1 := List.count_le_length (a := ch) (l := r.take k)
  rw [List.length_take] at h1
  omega
theorem cntR_all (ch : UInt8) (r : List UInt8) : cntR ch r r.length = (r.count ch : Int) := by unfold cntR; rw [List.take_length]
def beyE (num den : Int) : Int := if num.tdiv den * den > num then num.tdiv den - 1 else num.tdiv den
theorem rcount_pure (l : List (List UInt8)) (ch : UInt8) (hl : l.length ≤ 1000) (hr : ∀ r ∈ l, r.length ≤ 1000) : APure Tryz.prog 41 [strs l, C ch] (I (cnt ch l)) := by
  refine apure_of (rs := [.tmp 4]) Tryz.func41 rfl rfl (Nat.le_of_ble_eq_true rfl) (by simp [AV.pureL, AV.pureB, AV.pureE, pureE_map]) (by first | rfl | (simp [AV.pureL, AV.pureB, AV.pureE, pureE_map])) fun e0 he0 => ?_
  refine aw_seq (aw_region (asr J rfl (sq_nil (aw_seq (aw_region (asr J rfl ?_))))))
  refine sq_nil (aw_seq (aw_seq (aw_region (asr J rfl (sq_nil (aw_block ?_))))))
  refine aw_loopk (ι := { m : Nat // m ≤ l.length }) [0, 1] (fun g => [(5, I (cnt ch (l.take g.1))), (6, I g.1)]) (fun H g => H) (fun g => l.length - g.1) (⟨0, Nat.zero_le _⟩) ⟨J, J, J, J, trivial⟩ rfl ?_
  rintro ⟨m, hm⟩
  dsimp only [keepS, St.put, sget, slotsOf, nn1, nn2, nn3, nn4, nn5, nn6, Nat.reduceBEq, Nat.reduceAdd, nn7, nn8]
  have hb := cnt_bd ch (l.take m) 1000 (fun r h => hr r (List.mem_of_mem_take h))
  have hb2 : ((l.take m).length : Int) * (1000 : Nat) ≤ 1000000 := by rw [List.length_take]; omega
  refine aw_seq (aw_seq (aw_region (mvr J rfl (mvs rfl J (sq_ev rfl (ev_len_map sl24 J) ?_)))))
  refine sq_ev rfl (ev_lss J J) ?_
  refine sq_nil ?_
  refine aw_cond J (fun c_11 => ?_) (fun c_11 => ?_)
  · skip
    have c_11' := c_11
    try simp only [qq] at c_11'
    have hmL : m < l.length := by omega
    have hrl := hr _ (List.getElem_mem hmL)
    refine aw_skip (aw_seq (aw_block (aw_seq (aw_region (asr J rfl (sq_nil (aw_block ?_)))))))
    refine aw_loopk (ι := { k : Nat // k ≤ l[m].length }) [0, 1, 6] (fun g => [(5, I (cnt ch (l.take m) + cntR ch l[m] g.1)), (7, I g.1)]) (fun H g => H) (fun g => l[m].length - g.1) (⟨0, Nat.zero_le _⟩) ⟨(by exact less_int (by simp [cntR])), J, J, J, J, trivial⟩ rfl ?_
    rintro ⟨k, hk⟩
    dsimp only [keepS, St.put, sget, slotsOf, nn1, nn2, nn3, nn4, nn5, nn6, Nat.reduceBEq, Nat.reduceAdd, nn7, nn8]
    have hbr := cntR_bd ch l[m] k
    refine aw_seq (aw_seq (aw_region (mvr J rfl (mvs rfl J (mvr J rfl (sq_ev rfl (ev_index_map sl24 J J rfl (by omega)) ?_))))))
    refine sq_ev rfl (ev_load_i J ty9 rfl) ?_
    refine sq_ev rfl (ev_lenS Tryz.underlying9 J) ?_
    refine sq_ev rfl (ev_lss J J) ?_
    refine sq_nil ?_
    refine aw_cond J (fun c_20 => ?_) (fun c_20 => ?_)
    · skip
      have c_20' := c_20
      try simp only [qq] at c_20'
      have hkL : k < l[m].length := by omega
      refine aw_skip (aw_seq (aw_block (aw_seq (aw_region (mvs rfl J (mvr J rfl (sq_ev rfl (ev_index_map sl24 J J rfl (by omega)) ?_)))))))
      refine sq_ev rfl (ev_load_i J ty9 rfl) ?_
      refine mvr J rfl (sq_ev rfl (ev_idxS Tryz.underlying9 J J rfl (by omega)) ?_)
      refine mvr J rfl (sq_ev rfl (ev_eql J J) ?_)
      refine sq_nil ?_
      refine aw_cond J (fun c_30 => ?_) (fun c_30 => ?_)
      · skip
        have c_30' := c_30
        try simp only [qq] at c_30'
        have eR : cntR ch l[m] (k + 1) = cntR ch l[m] k + 1 := by rw [cntR_succ hkL, if_pos (UInt8.toNat_inj.1 (by omega))]
        refine aw_region (mvr J rfl (sq_ev rfl (ev_add J J (wr (by omega) (by omega))) ?_))
        refine asr J rfl (sq_nil (aw_region (mvr J rfl (sq_ev rfl (ev_add J J (wr (by omega) (by omega))) ?_))))
        refine asr J rfl (sq_nil ?_)
        exact ⟨⟨k + 1, by omega⟩, by simp only; omega, Sub.slots ⟨(by exact less_int (by rw [eR]; omega)), J, J, J, J, trivial⟩⟩
      · skip
        have c_30' := c_30
        try simp only [qq] at c_30'
        have eR : cntR ch l[m] (k + 1) = cntR ch l[m] k + 0 := by rw [cntR_succ hkL, if_neg (fun h => c_30' (by rw [h]))]
        refine aw_skip (aw_region (mvr J rfl (sq_ev rfl (ev_add J J (wr (by omega) (by omega))) ?_)))
        refine asr J rfl (sq_nil ?_)
        exact ⟨⟨k + 1, by omega⟩, by simp only; omega, Sub.slots ⟨(by exact less_int (by rw [eR]; omega)), J, J, J, J, trivial⟩⟩
    · skip
      have c_20' := c_20
      try simp only [qq] at c_20'
      obtain rfl : k = l[m].length := by omega
      have eC : cnt ch (l.take m) + cntR ch l[m] l[m].length = cnt ch (l.take (m + 1)) := by rw [cntR_all, cnt_take hmL]
      refine aw_exit (aw_region (mvr J rfl (sq_ev rfl (ev_add J J (wr (by omega) (by omega))) ?_)))
      refine asr J rfl (sq_nil ?_)
      exact ⟨⟨m + 1, by omega⟩, by simp only; omega, Sub.slots ⟨(by exact less_int eC), J, J, J, trivial⟩⟩
  · skip
    have c_11' := c_11
    try simp only [qq] at c_11'
    obtain rfl : m = l.length := by omega
    refine aw_exit (aw_seq (aw_region (mvr J rfl (asr J rfl (sq_nil (aw_ret ?_))))))
    exact retQ_pure (v := .raw _) rfl rfl (Less.eq (by rw [List.take_length]))
theorem whole_pure (s : Sg) (c : List (List UInt8)) (hc : shp c) : APure Tryz.prog 29 [stA s, strs c] (B (wholeB s c)) := by
 refine apure_of (rs := [.tmp 4]) Tryz.func29 rfl rfl (Nat.le_of_ble_eq_true rfl) (by simp [AV.pureL, AV.pureB, AV.pureE, pureE_map]) (by first | rfl | (simp [AV.pureL, AV.pureB, AV.pureE, pureE_map])) fun e0 he0 => ?_
 refine aw_seq (aw_region (sq_box rfl J rfl (asr J rfl (sq_nil (aw_seq (aw_region (sq_ev rfl (ev_load_agg J rfl ty23 rfl) ?_)))))))
 refine mvs rfl J (sq_ev rfl (ev_call en37 J (rsight_pure s c hc) ⟨J, J, trivial⟩) ?_)
 refine mvr J rfl ?_
 refine sq_split 8 J (fun g1_3 => ?_) (fun g1_3 => ?_)
 ·
  have g1_3' := g1_3
  try simp only [qq] at g1_3'
  refine sq_yes rfl rfl (less_b g1_3) rfl (ev_mv (v := .sl _ _) J) ?_
  refine sq_yes rfl rfl (less_b g1_3) rfl (ev_call en41 J (rcount_pure c 63 hc.1 hc.2) ⟨J, J, trivial⟩) ?_
  refine sq_yes rfl rfl (less_b g1_3) rfl (ev_eql J J) ?_
  refine sq_ev rfl (ev_pickT (v := .raw _) (less_b g1_3) J) ?_
  refine asr J rfl (sq_nil (aw_ret ?_))
  exact retQ_pure (v := .raw _) rfl rfl (Less.eq (by unfold wholeB; simp [*]))
 have g1_3' := g1_3
 try simp only [qq] at g1_3'
 refine sq_no rfl rfl (less_b g1_3) rfl rfl ?_
 refine sq_no rfl rfl (less_b g1_3) rfl rfl ?_
 refine sq_no rfl rfl (less_b g1_3) rfl rfl ?_
 refine sq_ev rfl (ev_pickF (v := .raw _) (less_b g1_3) J) ?_
 refine asr J rfl (sq_nil (aw_ret ?_))
 exact retQ_pure (v := .raw _) rfl rfl (Less.eq (by unfold wholeB; simp [*]))
end Go.Proofs.YtmbknoaneglilaaGreatDoor
namespace Go.Proofs.YtmbknoaneglilaaGreatDoor
open Go Go.Ab Ni Ol
theorem en27 : Ent Tryz.prog 27 := Ent.of Tryz.func27 (by kernel_rfl) rfl
end Go.Proofs.YtmbknoaneglilaaGreatDoor
namespace Go.Proofs.YtmbknoaneglilaaGreatDoor
open Go Go.Ab Ni Ol
theorem cell_ch (c : Ca) (k m : Int) : c.cell k m = 35 ∨ c.cell k m = 43 ∨ c.cell k m = 46 := by
  unfold Ca.cell Ca.cellAt
  split
  · exact .inl rfl
  · split
    · exact .inr (.inl rfl)
    · exact .inr (.inr rfl)
theorem shadow_row {c : Ca} {r : List UInt8} (h : r ∈ c.shadow) : r.length = c.s.wide.toNat ∧ ∀ b ∈ r, b = 35 ∨ b = 43 ∨ b = 46 := by
  unfold Ca.shadow at h
  obtain ⟨m, _, rfl⟩ := List.mem_map.1 h
  refine ⟨by simp [Ca.srow], fun b hb => ?_⟩
  unfold Ca.srow at hb
  obtain ⟨k, _, rfl⟩ := List.mem_map.1 hb
  exact cell_ch c _ _
theorem shadow_clo (c : Ca) : Clo c.s c.shadow := ⟨by simp [Ca.shadow], fun r hr => (shadow_row hr).1⟩
theorem clo_shp {s : Sg} {l : List (List UInt8)} (hs : stOK s = true) (h : Clo s l) : shp l := by
  have hb := stOK_iff.1 hs
  exact ⟨by rw [h.len]; omega, fun r hr => by rw [h.row r hr]; omega⟩
theorem shadow_whole {c : Ca} (hs : stOK c.s = true) : wholeB c.s c.shadow = true := by
  have hb := stOK_iff.1 hs
  unfold wholeB
  rw [Bool.and_eq_true]
  constructor
  · unfold siOK
    simp only [Bool.and_eq_true, decide_eq_true_eq, List.all_eq_true, siRow]
    refine ⟨by rw [(shadow_clo c).len]; omega, fun r hr => ?_⟩
    obtain ⟨h1, h2⟩ := shadow_row hr
    refine ⟨by omega, ?_⟩
    rw [Bool.not_eq_true', List.any_eq_false]
    intro b hb'
    rcases h2 b hb' with rfl | rfl | rfl <;> decide
  · rw [decide_eq_true_eq]
    unfold Ol.cnt
    have : ∀ L : List (List UInt8), (∀ r ∈ L, ∀ b ∈ r, b = 35 ∨ b = 43 ∨ b = 46) → (L.map fun r => ((r.count 63 : Nat) : Int)).sum = 0 := fun L => by
      induction L with
      | nil => intro _; rfl
      | cons r L ih =>
        intro h
        have h1 : r.count 63 = 0 := List.count_eq_zero.2 fun hm => by rcases h r (by simp) 63 hm with h | h | h <;> cases h
        rw [List.map_cons, List.sum_cons, h1, ih fun q hq => h q (by simp [hq])]; rfl
    exact this _ fun r hr => (shadow_row hr).2
end Go.Proofs.YtmbknoaneglilaaGreatDoor
namespace Go.Proofs.YtmbknoaneglilaaGreatDoor
open Go Go.Ab Ni Ol
theorem en30 : Ent Tryz.prog 30 := Ent.of Tryz.func30 (by kernel_rfl) rfl
theorem tdiv_bd {a b N : Int} (ha : -N ≤ a ∧ a ≤ N) (hb : 0 < b) : (-N ≤ a.tdiv b ∧ a.tdiv b ≤ N) ∧ (-N ≤ a.tdiv b * b ∧ a.tdiv b * b ≤ N) := by
  have key : ∀ a : Int, 0 ≤ a → 0 ≤ a.tdiv b ∧ a.tdiv b ≤ a ∧ 0 ≤ a.tdiv b * b ∧ a.tdiv b * b ≤ a := fun a h => by
    rw [Int.tdiv_eq_ediv_of_nonneg h]
    have h1 := Int.ediv_nonneg h (show 0 ≤ b by omega)
    have h2 := Int.ediv_mul_le a (show b ≠ 0 by omega)
    have h3 := Int.mul_nonneg h1 (show 0 ≤ b by omega)
    exact ⟨h1, Int.ediv_le_self _ h, h3, h2⟩
  rcases Int.le_total 0 a with h | h
  · have := key a h; omega
  · have := key (-a) (by omega)
    rw [Int.neg_tdiv, Int.neg_mul] at this; omega
theorem beyE_eq {a b : Int} (hb : 0 < b) : beyE a b = a / b := by
  unfold beyE
  rcases Int.le_total 0 a with h | h
  · rw [Int.tdiv_eq_ediv_of_nonneg h, if_neg (by have := Int.ediv_mul_le a (show b ≠ 0 by omega); omega)]
  · have h1 : a.tdiv b = -((-a) / b) := by rw [← Int.tdiv_eq_ediv_of_nonneg (show 0 ≤ -a by omega), Int.neg_tdiv, Int.neg_neg]
    have e1 := Int.ediv_mul_le (-a) (show b ≠ 0 by omega)
    have e2 := Int.lt_ediv_add_one_mul_self (-a) hb
    rw [Int.add_mul] at e2
    rw [h1, Int.neg_mul]
    by_cases hd : (-a) / b * b = -a
    · rw [if_neg (by omega)]
      have : a / b = -((-a) / b) := by
        have : a = -((-a) / b) * b := by rw [Int.neg_mul]; omega
        conv => lhs; rw [this]
        rw [Int.mul_ediv_cancel _ (by omega)]
      omega
    · rw [if_pos (by omega)]
      apply Int.le_antisymm
      · apply (Int.le_ediv_iff_mul_le hb).2
        rw [Int.sub_mul, Int.neg_mul]; omega
      · apply Int.lt_add_one_iff.1
        apply (Int.ediv_lt_iff_lt_mul hb).2
        rw [show -((-a) / b) - 1 + 1 = -((-a) / b) by omega, Int.neg_mul]; omega
structure Rz where
  fig : Int
  p : Pc
  deriving DecidableEq
section
variable {r : Option Nat} {H : List AObj} {ρ : Operand → AV} {d : Option Tmp} {t : TypeId} {p : String} {af : Array Edge} {g : Option (Nat × Bool)} {x y : Operand} {yt : TypeId}
end
theorem beyond_pure {a b : Int} (ha : -1000000000 ≤ a ∧ a ≤ 1000000000) (hb : 0 < b ∧ b ≤ 1000000) : APure Tryz.prog 99 [I a, I b] (I (a / b)) := by
  refine apure_of (rs := [.tmp 4]) Tryz.func99 rfl rfl (Nat.le_of_ble_eq_true rfl) (by simp [AV.pureL, AV.pureB, AV.pureE, pureE_map]) (by first | rfl | (simp [AV.pureL, AV.pureB, AV.pureE, pureE_map])) fun e0 he0 => ?_
  have htd := tdiv_bd ha hb.1
  refine aw_seq (aw_region ?_)
  refine asr J rfl (sq_nil (aw_seq (aw_region (mvr J rfl (mvr J rfl (sq_ev rfl (ev_quo (q := a.tdiv b) J J (by omega) (wr (by have := (tdiv_bd ha hb.1).1; omega) (by have := (tdiv_bd ha hb.1).1; omega))) ?_))))))
  refine asr J rfl ?_
  refine sq_nil (aw_seq (aw_seq (aw_region (mvr J rfl (mvr J rfl (sq_ev rfl (ev_mul J J (wr (by omega) (by omega))) ?_))))))
  refine mvr J rfl (sq_ev rfl (ev_gtr J J) ?_)
  refine sq_nil ?_
  refine aw_cond J (fun c_13 => ?_) (fun c_13 => ?_)
  · skip
    have c_13' := c_13
    try simp only [qq] at c_13'
    refine aw_region (mvr J rfl (sq_ev rfl (ev_sub J J (wr (by omega) (by omega))) ?_))
    refine asr J rfl ?_
    refine sq_nil (aw_seq (aw_region (mvr J rfl (asr J rfl (sq_nil (aw_ret ?_))))))
    exact retQ_pure (v := .raw _) rfl rfl (Less.eq (by rw [← beyE_eq hb.1]; unfold beyE; rw [if_pos (by simpa using c_13)]))
  · skip
    have c_13' := c_13
    try simp only [qq] at c_13'
    refine aw_skip (aw_seq (aw_region (mvr J rfl (asr J rfl (sq_nil (aw_ret ?_))))))
    exact retQ_pure (v := .raw _) rfl rfl (Less.eq (by rw [← beyE_eq hb.1]; unfold beyE; rw [if_neg (by simpa using c_13)]))
theorem lhide_pure (f : Fg) {x y den : Int} (hx : -1000000000 ≤ x ∧ x ≤ 1000000000) (hy : -1000000000 ≤ y ∧ y ≤ 1000000000) (hd : 0 < den ∧ den ≤ 1000000) : APure Tryz.prog 30 [fgA f, I x, I y, I den] (C (chF f (x / den) (y / den))) := by
 refine apure_of (rs := [.tmp 8]) Tryz.func30 rfl rfl (Nat.le_of_ble_eq_true rfl) (by simp [AV.pureL, AV.pureB, AV.pureE, pureE_map]) (by first | rfl | (simp [AV.pureL, AV.pureB, AV.pureE, pureE_map])) fun e0 he0 => ?_
 refine aw_seq (aw_region (sq_box rfl J rfl ?_))
 refine asr J rfl (sq_nil (aw_seq (aw_region (mvr J rfl (mvr J rfl (sq_ev rfl (ev_call en99 J (beyond_pure hx hd) ⟨J, J, trivial⟩) ?_))))))
 refine mvr J rfl (mvr J rfl (sq_ev rfl (ev_call en99 J (beyond_pure hy hd) ⟨J, J, trivial⟩) ?_))
 refine asr J rfl ?_
 refine asr J rfl (sq_nil (aw_seq (aw_seq (aw_region (mvr J rfl (sq_ev rfl (ev_lss J J) ?_))))))
 refine mvr J rfl ?_
 refine sq_split 19 J (fun g2_2 => ?_) (fun g2_2 => ?_)
 ·
  have g2_2' := g2_2
  try simp only [qq] at g2_2'
  refine sq_no rfl rfl (less_b g2_2) rfl rfl ?_
  refine sq_no rfl rfl (less_b g2_2) rfl rfl ?_
  refine sq_no rfl rfl (less_b g2_2) rfl rfl ?_
  refine sq_no rfl rfl (less_b g2_2) rfl rfl ?_
  refine sq_no rfl rfl (less_b g2_2) rfl rfl ?_
  refine sq_ev rfl (ev_pickT (v := .raw _) (less_b g2_2) J) ?_
  refine mvr J rfl (sq_no rfl rfl J rfl rfl (sq_no rfl rfl J rfl rfl (sq_ev rfl (ev_pickT (v := .raw _) J J) ?_)))
  refine mvr J rfl (sq_no rfl rfl J rfl rfl (sq_no rfl rfl J rfl rfl ?_))
  refine sq_no rfl rfl J rfl rfl (sq_no rfl rfl J rfl rfl (sq_no rfl rfl J rfl rfl (sq_no rfl rfl J rfl rfl (sq_no rfl rfl J rfl rfl (sq_no rfl rfl J rfl rfl (sq_ev rfl (ev_pickT (v := .raw _) J J) ?_))))))
  refine sq_nil ?_
  refine aw_true J ?_
  refine aw_seq (aw_region (asr J rfl (sq_nil (aw_ret ?_))))
  exact retQ_pure (v := .raw _) rfl rfl (Less.eq (by unfold chF; rw [if_neg (by omega)]; rfl))
 have g2_2' := g2_2
 try simp only [qq] at g2_2'
 have j0 : 0 ≤ y / den := by omega
 refine sq_yes rfl rfl (less_b g2_2) rfl (ev_mv (v := .raw _) J) ?_
 refine sq_yes rfl rfl (less_b g2_2) rfl (ev_fieldAddr fo26_0 J) ?_
 refine sq_yes rfl rfl (less_b g2_2) rfl (ev_load J rfl ty24 rfl) ?_
 refine sq_yes rfl rfl (less_b g2_2) rfl (ev_len_map sl24 J) ?_
 refine sq_yes rfl rfl (less_b g2_2) rfl (ev_geq J J) ?_
 refine sq_ev rfl (ev_pickF (v := .raw _) (less_b g2_2) J) ?_
 refine mvr J rfl ?_
 refine sq_split 26 J (fun g2_9 => ?_) (fun g2_9 => ?_)
 ·
  have g2_9' := g2_9
  try simp only [qq] at g2_9'
  refine sq_no rfl rfl (less_b g2_9) rfl rfl ?_
  refine sq_no rfl rfl (less_b g2_9) rfl rfl ?_
  refine sq_ev rfl (ev_pickT (v := .raw _) (less_b g2_9) J) ?_
  refine mvr J rfl (sq_no rfl rfl J rfl rfl (sq_no rfl rfl J rfl rfl ?_))
  refine sq_no rfl rfl J rfl rfl (sq_no rfl rfl J rfl rfl (sq_no rfl rfl J rfl rfl (sq_no rfl rfl J rfl rfl (sq_no rfl rfl J rfl rfl (sq_no rfl rfl J rfl rfl (sq_ev rfl (ev_pickT (v := .raw _) J J) ?_))))))
  refine sq_nil ?_
  refine aw_true J ?_
  refine aw_seq (aw_region (asr J rfl (sq_nil (aw_ret ?_))))
  exact retQ_pure (v := .raw _) rfl rfl (Less.eq (by unfold chF; rw [if_neg (by omega)]; rfl))
 have g2_9' := g2_9
 try simp only [qq] at g2_9'
 have j1 : (y / den).toNat < f.length := by first | omega | (simp_all; done) | (simp_all; omega)
 refine sq_yes rfl rfl (less_b g2_9) rfl (ev_mv (v := .raw _) J) ?_
 refine sq_yes rfl rfl (less_b g2_9) rfl (ev_lss J J) ?_
 refine sq_ev rfl (ev_pickF (v := .raw _) (less_b g2_9) J) ?_
 refine mvr J rfl ?_
 refine sq_split 30 J (fun g2_13 => ?_) (fun g2_13 => ?_)
 ·
  have g2_13' := g2_13
  try simp only [qq] at g2_13'
  refine sq_no rfl rfl (less_b g2_13) rfl rfl ?_
  refine sq_no rfl rfl (less_b g2_13) rfl rfl ?_
  refine sq_no rfl rfl (less_b g2_13) rfl rfl ?_
  refine sq_no rfl rfl (less_b g2_13) rfl rfl ?_
  refine sq_no rfl rfl (less_b g2_13) rfl rfl ?_
  refine sq_no rfl rfl (less_b g2_13) rfl rfl ?_
  refine sq_no rfl rfl (less_b g2_13) rfl rfl ?_
  refine sq_no rfl rfl (less_b g2_13) rfl rfl ?_
  refine sq_ev rfl (ev_pickT (v := .raw _) (less_b g2_13) J) ?_
  refine sq_nil ?_
  refine aw_true J ?_
  refine aw_seq (aw_region (asr J rfl (sq_nil (aw_ret ?_))))
  exact retQ_pure (v := .raw _) rfl rfl (Less.eq (by unfold chF; rw [if_neg (by omega)]; rfl))
 have g2_13' := g2_13
 try simp only [qq] at g2_13'
 have i0 : 0 ≤ x / den := by first | omega | (simp_all; done) | (simp_all; omega)
 refine sq_yes rfl rfl (less_b g2_13) rfl (ev_mv (v := .raw _) J) ?_
 refine sq_yes rfl rfl (less_b g2_13) rfl (ev_fieldAddr fo26_0 J) ?_
 refine sq_yes rfl rfl (less_b g2_13) rfl (ev_load J rfl ty24 rfl) ?_
 refine sq_yes rfl rfl (less_b g2_13) rfl (ev_mv (v := .raw _) J) ?_
 refine sq_yes rfl rfl (less_b g2_13) rfl (ev_index_map (k := (y / den).toNat) sl24 J J (by omega) (by omega)) ?_
 refine sq_yes rfl rfl (less_b g2_13) rfl (ev_load_i J ty9 rfl) ?_
 refine sq_yes rfl rfl (less_b g2_13) rfl (ev_lenS Tryz.underlying9 J) ?_
 refine sq_yes rfl rfl (less_b g2_13) rfl (ev_geq J J) ?_
 refine sq_ev rfl (ev_pickF (v := .raw _) (less_b g2_13) J) ?_
 refine sq_nil ?_
 refine aw_cond J (fun c_39 => ?_) (fun c_39 => ?_)
 ·
  have c_39' := c_39
  try simp only [qq] at c_39'
  refine aw_seq (aw_region (asr J rfl (sq_nil (aw_ret ?_))))
  exact retQ_pure (v := .raw _) rfl rfl (Less.eq (by unfold chF; rw [if_neg (fun h => by rw [getD_get j1] at h; omega)]; rfl))
 have c_39' := c_39
 try simp only [qq] at c_39'
 have i1 : (x / den).toNat < f[(y / den).toNat].length := by first | omega | (simp_all; done) | (simp_all; omega)
 refine aw_skip (aw_seq (aw_region (sq_ev rfl (ev_fieldAddr fo26_0 J) ?_)))
 refine sq_ev rfl (ev_load J rfl ty24 rfl) ?_
 refine mvr J rfl (sq_ev rfl (ev_index_map (k := (y / den).toNat) sl24 J J (by omega) (by omega)) ?_)
 refine sq_ev rfl (ev_load_i J ty9 rfl) ?_
 refine mvr J rfl (sq_ev rfl (ev_idxS (k := (x / den).toNat) Tryz.underlying9 J J (by omega) (by omega)) ?_)
 refine asr J rfl (sq_nil (aw_ret ?_))
 exact retQ_pure (v := .raw _) rfl rfl (Less.eq (by unfold chF; rw [if_pos ⟨j0, by omega, i0, by rw [getD_get j1]; omega⟩, getD_get j1, getD_get i1]))
end Go.Proofs.YtmbknoaneglilaaGreatDoor
namespace Go.Proofs.YtmbknoaneglilaaGreatDoor
open Go Go.Ab Ni Ol
theorem far_of {s : Sg} (h : (!stOK s) = false) : 2 ≤ s.far ∧ s.far ≤ 40 := by have := stOK_iff.1 (by simpa using h); omega
end Go.Proofs.YtmbknoaneglilaaGreatDoor
namespace Go.Proofs.YtmbknoaneglilaaGreatDoor
open Go Go.Ab Ni Ol
theorem rays_gate (c : Ca) (k r u v a b : Int) (hg : (shortB c.f && (stOK c.s && (fgOK c.f && (pcOK c.s c.p && (decide (0 ≤ k ∧ k < c.s.wide) && (decide (0 ≤ r ∧ r < c.s.high) && (decide (1 ≤ u ∧ u ≤ 59) && (decide (1 ≤ v ∧ v ≤ 59) && (decide (-60 * c.s.flame ≤ a ∧ a ≤ 60 * c.s.flame) && decide (-60 * c.s.flame ≤ b ∧ b ≤ 60 * c.s.flame)))))))))) = false) : APure Tryz.prog 3 [stA c.s, fgA c.f, pcA c.p, I k, I r, I u, I v, I a, I b] (B true) := by
  refine apure_of (rs := [.tmp 18]) Tryz.func3 rfl rfl (Nat.le_of_ble_eq_true rfl) (by simp [AV.pureL, AV.pureB, AV.pureE, pureE_map]) (by first | rfl | (simp [AV.pureL, AV.pureB, AV.pureE, pureE_map])) fun e0 he0 => ?_
  refine aw_seq (aw_region (sq_box rfl J rfl (sq_box rfl J rfl ?_)))
  refine sq_box rfl J rfl (asr J rfl (sq_nil (aw_seq (aw_seq (aw_region (sq_ev rfl (ev_fieldAddr fo26_0 J) ?_))))))
  refine sq_ev rfl (ev_load J rfl ty24 rfl) ?_
  refine sq_ev rfl (ev_call en23 J (short_pure c.f) ⟨J, trivial⟩) ?_
  refine sq_ev rfl (ev_not J) ?_
  refine mvr J rfl ?_
  refine sq_split 30 J (fun g1_4 => ?_) (fun g1_4 => ?_)
  · skip
    have g1_4' := g1_4
    try simp only [qq] at g1_4'
    refine sq_no rfl rfl (less_b g1_4) rfl rfl ?_
    refine sq_no rfl rfl (less_b g1_4) rfl rfl ?_
    refine sq_no rfl rfl (less_b g1_4) rfl rfl ?_
    refine sq_ev rfl (ev_pickT (v := .raw _) (less_b g1_4) J) ?_
    refine mvr J rfl (sq_no rfl rfl J rfl rfl (sq_no rfl rfl J rfl rfl (sq_no rfl rfl J rfl rfl (sq_ev rfl (ev_pickT (v := .raw _) J J) ?_))))
    refine mvr J rfl (sq_no rfl rfl J rfl rfl (sq_no rfl rfl J rfl rfl (sq_no rfl rfl J rfl rfl (sq_no rfl rfl J rfl rfl (sq_ev rfl (ev_pickT (v := .raw _) J J) ?_)))))
    refine mvr J rfl (sq_no rfl rfl J rfl rfl (sq_no rfl rfl J rfl rfl (sq_ev rfl (ev_pickT (v := .raw _) J J) ?_)))
    refine mvr J rfl (sq_no rfl rfl J rfl rfl (sq_no rfl rfl J rfl rfl (sq_no rfl rfl J rfl rfl (sq_no rfl rfl J rfl rfl (sq_ev rfl (ev_pickT (v := .raw _) J J) ?_)))))
    refine mvr J rfl (sq_no rfl rfl J rfl rfl (sq_no rfl rfl J rfl rfl (sq_ev rfl (ev_pickT (v := .raw _) J J) ?_)))
    refine mvr J rfl (sq_no rfl rfl J rfl rfl (sq_no rfl rfl J rfl rfl (sq_no rfl rfl J rfl rfl (sq_no rfl rfl J rfl rfl (sq_ev rfl (ev_pickT (v := .raw _) J J) ?_)))))
    refine mvr J rfl (sq_no rfl rfl J rfl rfl (sq_no rfl rfl J rfl rfl (sq_ev rfl (ev_pickT (v := .raw _) J J) ?_)))
    refine mvr J rfl (sq_no rfl rfl J rfl rfl (sq_no rfl rfl J rfl rfl (sq_ev rfl (ev_pickT (v := .raw _) J J) ?_)))
    refine mvr J rfl (sq_no rfl rfl J rfl rfl (sq_no rfl rfl J rfl rfl (sq_ev rfl (ev_pickT (v := .raw _) J J) ?_)))
    refine mvr J rfl (sq_no rfl rfl J rfl rfl (sq_no rfl rfl J rfl rfl (sq_ev rfl (ev_pickT (v := .raw _) J J) ?_)))
    refine sq_nil ?_
    refine aw_true J ?_
    refine aw_seq (aw_region (sq_ev rfl (ev_call en27 J (known_pure) trivial) ?_))
    refine asr J rfl (sq_nil (aw_ret ?_))
    exact retQ_pure (v := .raw _) rfl rfl J
  · skip
    have g1_4' := g1_4
    try simp only [qq] at g1_4'
    refine sq_yes rfl rfl (less_b g1_4) rfl (ev_load_agg J rfl ty23 rfl) ?_
    refine sq_yes rfl rfl (less_b g1_4) rfl (ev_call en24 J (rstage_pure c.s) ⟨J, trivial⟩) ?_
    refine sq_yes rfl rfl (less_b g1_4) rfl (ev_not J) ?_
    refine sq_ev rfl (ev_pickF (v := .raw _) (less_b g1_4) J) ?_
    refine mvr J rfl ?_
    refine sq_split 35 J (fun g1_9 => ?_) (fun g1_9 => ?_)
    · skip
      have g1_9' := g1_9
      try simp only [qq] at g1_9'
      refine sq_no rfl rfl (less_b g1_9) rfl rfl ?_
      refine sq_no rfl rfl (less_b g1_9) rfl rfl ?_
      refine sq_no rfl rfl (less_b g1_9) rfl rfl ?_
      refine sq_ev rfl (ev_pickT (v := .raw _) (less_b g1_9) J) ?_
      refine mvr J rfl (sq_no rfl rfl J rfl rfl (sq_no rfl rfl J rfl rfl (sq_no rfl rfl J rfl rfl (sq_no rfl rfl J rfl rfl (sq_ev rfl (ev_pickT (v := .raw _) J J) ?_)))))
      refine mvr J rfl (sq_no rfl rfl J rfl rfl (sq_no rfl rfl J rfl rfl (sq_ev rfl (ev_pickT (v := .raw _) J J) ?_)))
      refine mvr J rfl (sq_no rfl rfl J rfl rfl (sq_no rfl rfl J rfl rfl (sq_no rfl rfl J rfl rfl (sq_no rfl rfl J rfl rfl (sq_ev rfl (ev_pickT (v := .raw _) J J) ?_)))))
      refine mvr J rfl (sq_no rfl rfl J rfl rfl (sq_no rfl rfl J rfl rfl (sq_ev rfl (ev_pickT (v := .raw _) J J) ?_)))
      refine mvr J rfl (sq_no rfl rfl J rfl rfl (sq_no rfl rfl J rfl rfl (sq_no rfl rfl J rfl rfl (sq_no rfl rfl J rfl rfl (sq_ev rfl (ev_pickT (v := .raw _) J J) ?_)))))
      refine mvr J rfl (sq_no rfl rfl J rfl rfl (sq_no rfl rfl J rfl rfl (sq_ev rfl (ev_pickT (v := .raw _) J J) ?_)))
      refine mvr J rfl (sq_no rfl rfl J rfl rfl (sq_no rfl rfl J rfl rfl (sq_ev rfl (ev_pickT (v := .raw _) J J) ?_)))
      refine mvr J rfl (sq_no rfl rfl J rfl rfl (sq_no rfl rfl J rfl rfl (sq_ev rfl (ev_pickT (v := .raw _) J J) ?_)))
      refine mvr J rfl (sq_no rfl rfl J rfl rfl (sq_no rfl rfl J rfl rfl (sq_ev rfl (ev_pickT (v := .raw _) J J) ?_)))
      refine sq_nil ?_
      refine aw_true J ?_
      refine aw_seq (aw_region (sq_ev rfl (ev_call en27 J (known_pure) trivial) ?_))
      refine asr J rfl (sq_nil (aw_ret ?_))
      exact retQ_pure (v := .raw _) rfl rfl J
    · skip
      have g1_9' := g1_9
      try simp only [qq] at g1_9'
      have hsb := stOK_iff.1 (by simpa using g1_9)
      refine sq_yes rfl rfl (less_b g1_9) rfl (ev_load_agg J rfl ty26 rfl) ?_
      refine sq_yes rfl rfl (less_b g1_9) rfl (ev_call en25 J (rfigure_pure c.f) ⟨J, trivial⟩) ?_
      refine sq_yes rfl rfl (less_b g1_9) rfl (ev_not J) ?_
      refine sq_ev rfl (ev_pickF (v := .raw _) (less_b g1_9) J) ?_
      refine mvr J rfl ?_
      refine sq_split 40 J (fun g1_14 => ?_) (fun g1_14 => ?_)
      · skip
        have g1_14' := g1_14
        try simp only [qq] at g1_14'
        refine sq_no rfl rfl (less_b g1_14) rfl rfl ?_
        refine sq_no rfl rfl (less_b g1_14) rfl rfl ?_
        refine sq_no rfl rfl (less_b g1_14) rfl rfl ?_
        refine sq_no rfl rfl (less_b g1_14) rfl rfl ?_
        refine sq_ev rfl (ev_pickT (v := .raw _) (less_b g1_14) J) ?_
        refine mvr J rfl (sq_no rfl rfl J rfl rfl (sq_no rfl rfl J rfl rfl (sq_ev rfl (ev_pickT (v := .raw _) J J) ?_)))
        refine mvr J rfl (sq_no rfl rfl J rfl rfl (sq_no rfl rfl J rfl rfl (sq_no rfl rfl J rfl rfl (sq_no rfl rfl J rfl rfl (sq_ev rfl (ev_pickT (v := .raw _) J J) ?_)))))
        refine mvr J rfl (sq_no rfl rfl J rfl rfl (sq_no rfl rfl J rfl rfl (sq_ev rfl (ev_pickT (v := .raw _) J J) ?_)))
        refine mvr J rfl (sq_no rfl rfl J rfl rfl (sq_no rfl rfl J rfl rfl (sq_no rfl rfl J rfl rfl (sq_no rfl rfl J rfl rfl (sq_ev rfl (ev_pickT (v := .raw _) J J) ?_)))))
        refine mvr J rfl (sq_no rfl rfl J rfl rfl (sq_no rfl rfl J rfl rfl (sq_ev rfl (ev_pickT (v := .raw _) J J) ?_)))
        refine mvr J rfl (sq_no rfl rfl J rfl rfl (sq_no rfl rfl J rfl rfl (sq_ev rfl (ev_pickT (v := .raw _) J J) ?_)))
        refine mvr J rfl (sq_no rfl rfl J rfl rfl (sq_no rfl rfl J rfl rfl (sq_ev rfl (ev_pickT (v := .raw _) J J) ?_)))
        refine mvr J rfl (sq_no rfl rfl J rfl rfl (sq_no rfl rfl J rfl rfl (sq_ev rfl (ev_pickT (v := .raw _) J J) ?_)))
        refine sq_nil ?_
        refine aw_true J ?_
        refine aw_seq (aw_region (sq_ev rfl (ev_call en27 J (known_pure) trivial) ?_))
        refine asr J rfl (sq_nil (aw_ret ?_))
        exact retQ_pure (v := .raw _) rfl rfl J
      · skip
        have g1_14' := g1_14
        try simp only [qq] at g1_14'
        refine sq_yes rfl rfl (less_b g1_14) rfl (ev_load_agg J rfl ty23 rfl) ?_
        refine sq_yes rfl rfl (less_b g1_14) rfl (ev_load_agg J rfl ty28 rfl) ?_
        refine sq_yes rfl rfl (less_b g1_14) rfl (ev_call en26 J (rplace_pure c.s c.p (far_of g1_9)) ⟨J, J, trivial⟩) ?_
        refine sq_yes rfl rfl (less_b g1_14) rfl (ev_not J) ?_
        refine sq_ev rfl (ev_pickF (v := .raw _) (less_b g1_14) J) ?_
        refine mvr J rfl ?_
        refine sq_split 46 J (fun g1_20 => ?_) (fun g1_20 => ?_)
        · skip
          have g1_20' := g1_20
          try simp only [qq] at g1_20'
          refine sq_no rfl rfl (less_b g1_20) rfl rfl ?_
          refine sq_no rfl rfl (less_b g1_20) rfl rfl ?_
          refine sq_ev rfl (ev_pickT (v := .raw _) (less_b g1_20) J) ?_
          refine mvr J rfl (sq_no rfl rfl J rfl rfl (sq_no rfl rfl J rfl rfl (sq_no rfl rfl J rfl rfl (sq_no rfl rfl J rfl rfl (sq_ev rfl (ev_pickT (v := .raw _) J J) ?_)))))
          refine mvr J rfl (sq_no rfl rfl J rfl rfl (sq_no rfl rfl J rfl rfl (sq_ev rfl (ev_pickT (v := .raw _) J J) ?_)))
          refine mvr J rfl (sq_no rfl rfl J rfl rfl (sq_no rfl rfl J rfl rfl (sq_no rfl rfl J rfl rfl (sq_no rfl rfl J rfl rfl (sq_ev rfl (ev_pickT (v := .raw _) J J) ?_)))))
          refine mvr J rfl (sq_no rfl rfl J rfl rfl (sq_no rfl rfl J rfl rfl (sq_ev rfl (ev_pickT (v := .raw _) J J) ?_)))
          refine mvr J rfl (sq_no rfl rfl J rfl rfl (sq_no rfl rfl J rfl rfl (sq_ev rfl (ev_pickT (v := .raw _) J J) ?_)))
          refine mvr J rfl (sq_no rfl rfl J rfl rfl (sq_no rfl rfl J rfl rfl (sq_ev rfl (ev_pickT (v := .raw _) J J) ?_)))
          refine mvr J rfl (sq_no rfl rfl J rfl rfl (sq_no rfl rfl J rfl rfl (sq_ev rfl (ev_pickT (v := .raw _) J J) ?_)))
          refine sq_nil ?_
          refine aw_true J ?_
          refine aw_seq (aw_region (sq_ev rfl (ev_call en27 J (known_pure) trivial) ?_))
          refine asr J rfl (sq_nil (aw_ret ?_))
          exact retQ_pure (v := .raw _) rfl rfl J
        · skip
          have g1_20' := g1_20
          try simp only [qq] at g1_20'
          refine sq_yes rfl rfl (less_b g1_20) rfl (ev_mv (v := .raw _) J) ?_
          refine sq_yes rfl rfl (less_b g1_20) rfl (ev_lss J J) ?_
          refine sq_ev rfl (ev_pickF (v := .raw _) (less_b g1_20) J) ?_
          refine mvr J rfl ?_
          refine sq_split 50 J (fun g1_24 => ?_) (fun g1_24 => ?_)
          · skip
            have g1_24' := g1_24
            try simp only [qq] at g1_24'
            refine sq_no rfl rfl (less_b g1_24) rfl rfl ?_
            refine sq_no rfl rfl (less_b g1_24) rfl rfl ?_
            refine sq_no rfl rfl (less_b g1_24) rfl rfl ?_
            refine sq_no rfl rfl (less_b g1_24) rfl rfl ?_
            refine sq_ev rfl (ev_pickT (v := .raw _) (less_b g1_24) J) ?_
            refine mvr J rfl (sq_no rfl rfl J rfl rfl (sq_no rfl rfl J rfl rfl (sq_ev rfl (ev_pickT (v := .raw _) J J) ?_)))
            refine mvr J rfl (sq_no rfl rfl J rfl rfl (sq_no rfl rfl J rfl rfl (sq_no rfl rfl J rfl rfl (sq_no rfl rfl J rfl rfl (sq_ev rfl (ev_pickT (v := .raw _) J J) ?_)))))
            refine mvr J rfl (sq_no rfl rfl J rfl rfl (sq_no rfl rfl J rfl rfl (sq_ev rfl (ev_pickT (v := .raw _) J J) ?_)))
            refine mvr J rfl (sq_no rfl rfl J rfl rfl (sq_no rfl rfl J rfl rfl (sq_ev rfl (ev_pickT (v := .raw _) J J) ?_)))
            refine mvr J rfl (sq_no rfl rfl J rfl rfl (sq_no rfl rfl J rfl rfl (sq_ev rfl (ev_pickT (v := .raw _) J J) ?_)))
            refine mvr J rfl (sq_no rfl rfl J rfl rfl (sq_no rfl rfl J rfl rfl (sq_ev rfl (ev_pickT (v := .raw _) J J) ?_)))
            refine sq_nil ?_
            refine aw_true J ?_
            refine aw_seq (aw_region (sq_ev rfl (ev_call en27 J (known_pure) trivial) ?_))
            refine asr J rfl (sq_nil (aw_ret ?_))
            exact retQ_pure (v := .raw _) rfl rfl J
          · skip
            have g1_24' := g1_24
            try simp only [qq] at g1_24'
            refine sq_yes rfl rfl (less_b g1_24) rfl (ev_mv (v := .raw _) J) ?_
            refine sq_yes rfl rfl (less_b g1_24) rfl (ev_fieldAddr fo23_0 J) ?_
            refine sq_yes rfl rfl (less_b g1_24) rfl (ev_load J rfl ty3 rfl) ?_
            refine sq_yes rfl rfl (less_b g1_24) rfl (ev_geq J J) ?_
            refine sq_ev rfl (ev_pickF (v := .raw _) (less_b g1_24) J) ?_
            refine mvr J rfl ?_
            refine sq_split 56 J (fun g1_30 => ?_) (fun g1_30 => ?_)
            · skip
              have g1_30' := g1_30
              try simp only [qq] at g1_30'
              refine sq_no rfl rfl (less_b g1_30) rfl rfl ?_
              refine sq_no rfl rfl (less_b g1_30) rfl rfl ?_
              refine sq_ev rfl (ev_pickT (v := .raw _) (less_b g1_30) J) ?_
              refine mvr J rfl (sq_no rfl rfl J rfl rfl (sq_no rfl rfl J rfl rfl (sq_no rfl rfl J rfl rfl (sq_no rfl rfl J rfl rfl (sq_ev rfl (ev_pickT (v := .raw _) J J) ?_)))))
              refine mvr J rfl (sq_no rfl rfl J rfl rfl (sq_no rfl rfl J rfl rfl (sq_ev rfl (ev_pickT (v := .raw _) J J) ?_)))
              refine mvr J rfl (sq_no rfl rfl J rfl rfl (sq_no rfl rfl J rfl rfl (sq_ev rfl (ev_pickT (v := .raw _) J J) ?_)))
              refine mvr J rfl (sq_no rfl rfl J rfl rfl (sq_no rfl rfl J rfl rfl (sq_ev rfl (ev_pickT (v := .raw _) J J) ?_)))
              refine mvr J rfl (sq_no rfl rfl J rfl rfl (sq_no rfl rfl J rfl rfl (sq_ev rfl (ev_pickT (v := .raw _) J J) ?_)))
              refine sq_nil ?_
              refine aw_true J ?_
              refine aw_seq (aw_region (sq_ev rfl (ev_call en27 J (known_pure) trivial) ?_))
              refine asr J rfl (sq_nil (aw_ret ?_))
              exact retQ_pure (v := .raw _) rfl rfl J
            · skip
              have g1_30' := g1_30
              try simp only [qq] at g1_30'
              refine sq_yes rfl rfl (less_b g1_30) rfl (ev_mv (v := .raw _) J) ?_
              refine sq_yes rfl rfl (less_b g1_30) rfl (ev_lss J J) ?_
              refine sq_ev rfl (ev_pickF (v := .raw _) (less_b g1_30) J) ?_
              refine mvr J rfl ?_
              refine sq_split 60 J (fun g1_34 => ?_) (fun g1_34 => ?_)
              · skip
                have g1_34' := g1_34
                try simp only [qq] at g1_34'
                refine sq_no rfl rfl (less_b g1_34) rfl rfl ?_
                refine sq_no rfl rfl (less_b g1_34) rfl rfl ?_
                refine sq_no rfl rfl (less_b g1_34) rfl rfl ?_
                refine sq_no rfl rfl (less_b g1_34) rfl rfl ?_
                refine sq_ev rfl (ev_pickT (v := .raw _) (less_b g1_34) J) ?_
                refine mvr J rfl (sq_no rfl rfl J rfl rfl (sq_no rfl rfl J rfl rfl (sq_ev rfl (ev_pickT (v := .raw _) J J) ?_)))
                refine mvr J rfl (sq_no rfl rfl J rfl rfl (sq_no rfl rfl J rfl rfl (sq_ev rfl (ev_pickT (v := .raw _) J J) ?_)))
                refine mvr J rfl (sq_no rfl rfl J rfl rfl (sq_no rfl rfl J rfl rfl (sq_ev rfl (ev_pickT (v := .raw _) J J) ?_)))
                refine mvr J rfl (sq_no rfl rfl J rfl rfl (sq_no rfl rfl J rfl rfl (sq_ev rfl (ev_pickT (v := .raw _) J J) ?_)))
                refine sq_nil ?_
                refine aw_true J ?_
                refine aw_seq (aw_region (sq_ev rfl (ev_call en27 J (known_pure) trivial) ?_))
                refine asr J rfl (sq_nil (aw_ret ?_))
                exact retQ_pure (v := .raw _) rfl rfl J
              · skip
                have g1_34' := g1_34
                try simp only [qq] at g1_34'
                refine sq_yes rfl rfl (less_b g1_34) rfl (ev_mv (v := .raw _) J) ?_
                refine sq_yes rfl rfl (less_b g1_34) rfl (ev_fieldAddr fo23_1 J) ?_
                refine sq_yes rfl rfl (less_b g1_34) rfl (ev_load J rfl ty3 rfl) ?_
                refine sq_yes rfl rfl (less_b g1_34) rfl (ev_geq J J) ?_
                refine sq_ev rfl (ev_pickF (v := .raw _) (less_b g1_34) J) ?_
                refine mvr J rfl ?_
                refine sq_split 66 J (fun g1_40 => ?_) (fun g1_40 => ?_)
                · skip
                  have g1_40' := g1_40
                  try simp only [qq] at g1_40'
                  refine sq_no rfl rfl (less_b g1_40) rfl rfl ?_
                  refine sq_no rfl rfl (less_b g1_40) rfl rfl ?_
                  refine sq_ev rfl (ev_pickT (v := .raw _) (less_b g1_40) J) ?_
                  refine mvr J rfl (sq_no rfl rfl J rfl rfl (sq_no rfl rfl J rfl rfl (sq_ev rfl (ev_pickT (v := .raw _) J J) ?_)))
                  refine mvr J rfl (sq_no rfl rfl J rfl rfl (sq_no rfl rfl J rfl rfl (sq_ev rfl (ev_pickT (v := .raw _) J J) ?_)))
                  refine mvr J rfl (sq_no rfl rfl J rfl rfl (sq_no rfl rfl J rfl rfl (sq_ev rfl (ev_pickT (v := .raw _) J J) ?_)))
                  refine sq_nil ?_
                  refine aw_true J ?_
                  refine aw_seq (aw_region (sq_ev rfl (ev_call en27 J (known_pure) trivial) ?_))
                  refine asr J rfl (sq_nil (aw_ret ?_))
                  exact retQ_pure (v := .raw _) rfl rfl J
                · skip
                  have g1_40' := g1_40
                  try simp only [qq] at g1_40'
                  refine sq_yes rfl rfl (less_b g1_40) rfl (ev_mv (v := .raw _) J) ?_
                  refine sq_yes rfl rfl (less_b g1_40) rfl (ev_lss J J) ?_
                  refine sq_ev rfl (ev_pickF (v := .raw _) (less_b g1_40) J) ?_
                  refine mvr J rfl ?_
                  refine sq_split 70 J (fun g1_44 => ?_) (fun g1_44 => ?_)
                  · skip
                    have g1_44' := g1_44
                    try simp only [qq] at g1_44'
                    refine sq_no rfl rfl (less_b g1_44) rfl rfl ?_
                    refine sq_no rfl rfl (less_b g1_44) rfl rfl ?_
                    refine sq_ev rfl (ev_pickT (v := .raw _) (less_b g1_44) J) ?_
                    refine mvr J rfl (sq_no rfl rfl J rfl rfl (sq_no rfl rfl J rfl rfl (sq_ev rfl (ev_pickT (v := .raw _) J J) ?_)))
                    refine mvr J rfl (sq_no rfl rfl J rfl rfl (sq_no rfl rfl J rfl rfl (sq_ev rfl (ev_pickT (v := .raw _) J J) ?_)))
                    refine sq_nil ?_
                    refine aw_true J ?_
                    refine aw_seq (aw_region (sq_ev rfl (ev_call en27 J (known_pure) trivial) ?_))
                    refine asr J rfl (sq_nil (aw_ret ?_))
                    exact retQ_pure (v := .raw _) rfl rfl J
                  · skip
                    have g1_44' := g1_44
                    try simp only [qq] at g1_44'
                    refine sq_yes rfl rfl (less_b g1_44) rfl (ev_mv (v := .raw _) J) ?_
                    refine sq_yes rfl rfl (less_b g1_44) rfl (ev_gtr J J) ?_
                    refine sq_ev rfl (ev_pickF (v := .raw _) (less_b g1_44) J) ?_
                    refine mvr J rfl ?_
                    refine sq_split 74 J (fun g1_48 => ?_) (fun g1_48 => ?_)
                    · skip
                      have g1_48' := g1_48
                      try simp only [qq] at g1_48'
                      refine sq_no rfl rfl (less_b g1_48) rfl rfl ?_
                      refine sq_no rfl rfl (less_b g1_48) rfl rfl ?_
                      refine sq_ev rfl (ev_pickT (v := .raw _) (less_b g1_48) J) ?_
                      refine mvr J rfl (sq_no rfl rfl J rfl rfl (sq_no rfl rfl J rfl rfl (sq_ev rfl (ev_pickT (v := .raw _) J J) ?_)))
                      refine sq_nil ?_
                      refine aw_true J ?_
                      refine aw_seq (aw_region (sq_ev rfl (ev_call en27 J (known_pure) trivial) ?_))
                      refine asr J rfl (sq_nil (aw_ret ?_))
                      exact retQ_pure (v := .raw _) rfl rfl J
                    · skip
                      have g1_48' := g1_48
                      try simp only [qq] at g1_48'
                      refine sq_yes rfl rfl (less_b g1_48) rfl (ev_mv (v := .raw _) J) ?_
                      refine sq_yes rfl rfl (less_b g1_48) rfl (ev_lss J J) ?_
                      refine sq_ev rfl (ev_pickF (v := .raw _) (less_b g1_48) J) ?_
                      refine mvr J rfl ?_
                      refine sq_split 78 J (fun g1_52 => ?_) (fun g1_52 => ?_)
                      · skip
                        have g1_52' := g1_52
                        try simp only [qq] at g1_52'
                        refine sq_no rfl rfl (less_b g1_52) rfl rfl ?_
                        refine sq_no rfl rfl (less_b g1_52) rfl rfl ?_
                        refine sq_ev rfl (ev_pickT (v := .raw _) (less_b g1_52) J) ?_
                        refine sq_nil ?_
                        refine aw_true J ?_
                        refine aw_seq (aw_region (sq_ev rfl (ev_call en27 J (known_pure) trivial) ?_))
                        refine asr J rfl (sq_nil (aw_ret ?_))
                        exact retQ_pure (v := .raw _) rfl rfl J
                      · skip
                        have g1_52' := g1_52
                        try simp only [qq] at g1_52'
                        refine sq_yes rfl rfl (less_b g1_52) rfl (ev_mv (v := .raw _) J) ?_
                        refine sq_yes rfl rfl (less_b g1_52) rfl (ev_gtr J J) ?_
                        refine sq_ev rfl (ev_pickF (v := .raw _) (less_b g1_52) J) ?_
                        refine sq_nil ?_
                        refine aw_cond J (fun c_81 => ?_) (fun c_81 => ?_)
                        · skip
                          have c_81' := c_81
                          try simp only [qq] at c_81'
                          refine aw_seq (aw_region (sq_ev rfl (ev_call en27 J (known_pure) trivial) ?_))
                          refine asr J rfl (sq_nil (aw_ret ?_))
                          exact retQ_pure (v := .raw _) rfl rfl J
                        · skip
                          have c_81' := c_81
                          try simp only [qq] at c_81'
                          refine aw_skip (aw_seq (aw_seq (aw_region (mvr J rfl (sq_ev rfl (ev_fieldAddr fo23_3 J) ?_)))))
                          refine sq_ev rfl (ev_load J rfl ty3 rfl) ?_
                          refine sq_ev rfl (ev_mul J J (wr (by omega) (by omega))) ?_
                          refine sq_ev rfl (ev_lss J J) ?_
                          refine mvr J rfl ?_
                          refine sq_split 88 J (fun g3_5 => ?_) (fun g3_5 => ?_)
                          · skip
                            have g3_5' := g3_5
                            try simp only [qq] at g3_5'
                            refine sq_no rfl rfl (less_b g3_5) rfl rfl ?_
                            refine sq_no rfl rfl (less_b g3_5) rfl rfl ?_
                            refine sq_no rfl rfl (less_b g3_5) rfl rfl ?_
                            refine sq_no rfl rfl (less_b g3_5) rfl rfl ?_
                            refine sq_no rfl rfl (less_b g3_5) rfl rfl ?_
                            refine sq_ev rfl (ev_pickT (v := .raw _) (less_b g3_5) J) ?_
                            refine mvr J rfl (sq_no rfl rfl J rfl rfl (sq_no rfl rfl J rfl rfl (sq_no rfl rfl J rfl rfl (sq_no rfl rfl J rfl rfl (sq_no rfl rfl J rfl rfl (sq_ev rfl (ev_pickT (v := .raw _) J J) ?_))))))
                            refine mvr J rfl (sq_no rfl rfl J rfl rfl (sq_no rfl rfl J rfl rfl (sq_no rfl rfl J rfl rfl (sq_no rfl rfl J rfl rfl (sq_no rfl rfl J rfl rfl (sq_ev rfl (ev_pickT (v := .raw _) J J) ?_))))))
                            refine sq_nil ?_
                            refine aw_true J ?_
                            refine aw_seq (aw_region (sq_ev rfl (ev_call en27 J (known_pure) trivial) ?_))
                            refine asr J rfl (sq_nil (aw_ret ?_))
                            exact retQ_pure (v := .raw _) rfl rfl J
                          · skip
                            have g3_5' := g3_5
                            try simp only [qq] at g3_5'
                            refine sq_yes rfl rfl (less_b g3_5) rfl (ev_mv (v := .raw _) J) ?_
                            refine sq_yes rfl rfl (less_b g3_5) rfl (ev_fieldAddr fo23_3 J) ?_
                            refine sq_yes rfl rfl (less_b g3_5) rfl (ev_load J rfl ty3 rfl) ?_
                            refine sq_yes rfl rfl (less_b g3_5) rfl (ev_mul J J (wr (by omega) (by omega))) ?_
                            refine sq_yes rfl rfl (less_b g3_5) rfl (ev_gtr J J) ?_
                            refine sq_ev rfl (ev_pickF (v := .raw _) (less_b g3_5) J) ?_
                            refine mvr J rfl ?_
                            refine sq_split 95 J (fun g3_12 => ?_) (fun g3_12 => ?_)
                            · skip
                              have g3_12' := g3_12
                              try simp only [qq] at g3_12'
                              refine sq_no rfl rfl (less_b g3_12) rfl rfl ?_
                              refine sq_no rfl rfl (less_b g3_12) rfl rfl ?_
                              refine sq_no rfl rfl (less_b g3_12) rfl rfl ?_
                              refine sq_no rfl rfl (less_b g3_12) rfl rfl ?_
                              refine sq_no rfl rfl (less_b g3_12) rfl rfl ?_
                              refine sq_ev rfl (ev_pickT (v := .raw _) (less_b g3_12) J) ?_
                              refine mvr J rfl (sq_no rfl rfl J rfl rfl (sq_no rfl rfl J rfl rfl (sq_no rfl rfl J rfl rfl (sq_no rfl rfl J rfl rfl (sq_no rfl rfl J rfl rfl (sq_ev rfl (ev_pickT (v := .raw _) J J) ?_))))))
                              refine sq_nil ?_
                              refine aw_true J ?_
                              refine aw_seq (aw_region (sq_ev rfl (ev_call en27 J (known_pure) trivial) ?_))
                              refine asr J rfl (sq_nil (aw_ret ?_))
                              exact retQ_pure (v := .raw _) rfl rfl J
                            · skip
                              have g3_12' := g3_12
                              try simp only [qq] at g3_12'
                              refine sq_yes rfl rfl (less_b g3_12) rfl (ev_mv (v := .raw _) J) ?_
                              refine sq_yes rfl rfl (less_b g3_12) rfl (ev_fieldAddr fo23_3 J) ?_
                              refine sq_yes rfl rfl (less_b g3_12) rfl (ev_load J rfl ty3 rfl) ?_
                              refine sq_yes rfl rfl (less_b g3_12) rfl (ev_mul J J (wr (by omega) (by omega))) ?_
                              refine sq_yes rfl rfl (less_b g3_12) rfl (ev_lss J J) ?_
                              refine sq_ev rfl (ev_pickF (v := .raw _) (less_b g3_12) J) ?_
                              refine mvr J rfl ?_
                              refine sq_split 102 J (fun g3_19 => ?_) (fun g3_19 => ?_)
                              · skip
                                have g3_19' := g3_19
                                try simp only [qq] at g3_19'
                                refine sq_no rfl rfl (less_b g3_19) rfl rfl ?_
                                refine sq_no rfl rfl (less_b g3_19) rfl rfl ?_
                                refine sq_no rfl rfl (less_b g3_19) rfl rfl ?_
                                refine sq_no rfl rfl (less_b g3_19) rfl rfl ?_
                                refine sq_no rfl rfl (less_b g3_19) rfl rfl ?_
                                refine sq_ev rfl (ev_pickT (v := .raw _) (less_b g3_19) J) ?_
                                refine sq_nil ?_
                                refine aw_true J ?_
                                refine aw_seq (aw_region (sq_ev rfl (ev_call en27 J (known_pure) trivial) ?_))
                                refine asr J rfl (sq_nil (aw_ret ?_))
                                exact retQ_pure (v := .raw _) rfl rfl J
                              · skip
                                have g3_19' := g3_19
                                try simp only [qq] at g3_19'
                                refine sq_yes rfl rfl (less_b g3_19) rfl (ev_mv (v := .raw _) J) ?_
                                refine sq_yes rfl rfl (less_b g3_19) rfl (ev_fieldAddr fo23_3 J) ?_
                                refine sq_yes rfl rfl (less_b g3_19) rfl (ev_load J rfl ty3 rfl) ?_
                                refine sq_yes rfl rfl (less_b g3_19) rfl (ev_mul J J (wr (by omega) (by omega))) ?_
                                refine sq_yes rfl rfl (less_b g3_19) rfl (ev_gtr J J) ?_
                                refine sq_ev rfl (ev_pickF (v := .raw _) (less_b g3_19) J) ?_
                                refine sq_nil ?_
                                refine aw_cond J (fun c_108 => ?_) (fun c_108 => ?_)
                                · skip
                                  have c_108' := c_108
                                  try simp only [qq] at c_108'
                                  refine aw_seq (aw_region (sq_ev rfl (ev_call en27 J (known_pure) trivial) ?_))
                                  refine asr J rfl (sq_nil (aw_ret ?_))
                                  exact retQ_pure (v := .raw _) rfl rfl J
                                · skip
                                  have c_108' := c_108
                                  try simp only [qq] at c_108'
                                  first | (exfalso; simp_all; done) | (exfalso; simp_all; omega)
set_option maxRecDepth 20000 in
theorem rays_core {c : Ca} {k r : Nat} {u v a b : Int} {l : List (List UInt8)} (hs : stOK c.s = true) (hp : pcOK c.s c.p = true) (hk0 : (k : Int) < c.s.wide) (hr0 : (r : Int) < c.s.high) (hu : 1 ≤ u ∧ u ≤ 59) (hv : 1 ≤ v ∧ v ≤ 59) (ha : -60 * c.s.flame ≤ a ∧ a ≤ 60 * c.s.flame) (hb : -60 * c.s.flame ≤ b ∧ b ≤ 60 * c.s.flame) (ca : Clo c.s l)
    (k23 : APure Tryz.prog 23 [strs c.f] (B true)) (k24 : APure Tryz.prog 24 [stA c.s] (B true)) (k25 : APure Tryz.prog 25 [fgA c.f] (B true)) (k26 : APure Tryz.prog 26 [stA c.s, pcA c.p] (B true))
    (k28 : APure Tryz.prog 28 [stA c.s, fgA c.f, pcA c.p] (.tup [strs l, I 0])) (k29 : APure Tryz.prog 29 [stA c.s, strs l] (B true))
    (h1 : ∀ (hr : r < l.length) (hk : k < l[r].length), (l[r][k] = 35 → (chF c.f (((c.s.x - c.p.x) * (60 * c.s.far) + (60 * ((k : Int) - c.s.x) + u) * (c.s.far - c.p.near) + a * c.p.near) / (60 * c.s.far)) (((c.s.y - c.p.y) * (60 * c.s.far) + (60 * ((r : Int) - c.s.y) + v) * (c.s.far - c.p.near) + b * c.p.near) / (60 * c.s.far))) = 35) ∧ (l[r][k] = 46 → (chF c.f (((c.s.x - c.p.x) * (60 * c.s.far) + (60 * ((k : Int) - c.s.x) + u) * (c.s.far - c.p.near) + a * c.p.near) / (60 * c.s.far)) (((c.s.y - c.p.y) * (60 * c.s.far) + (60 * ((r : Int) - c.s.y) + v) * (c.s.far - c.p.near) + b * c.p.near) / (60 * c.s.far))) = 46)) : APure Tryz.prog 3 [stA c.s, fgA c.f, pcA c.p, I (k : Int), I (r : Int), I u, I v, I a, I b] (B true) := by
  refine apure_of (rs := [.tmp 18]) Tryz.func3 rfl rfl (Nat.le_of_ble_eq_true rfl) (by simp [AV.pureL, AV.pureB, AV.pureE, pureE_map]) (by first | rfl | (simp [AV.pureL, AV.pureB, AV.pureE, pureE_map])) fun e0 he0 => ?_
  have hsb := stOK_iff.1 hs
  have hpb := pcOK_iff.1 hp
  have hla : l.length = c.s.high.toNat := ca.len
  have hrL : r < l.length := by omega
  have hrow := ca.row _ (List.getElem_mem hrL)
  have hkL : k < l[r].length := by omega
  obtain ⟨h35, h46⟩ := h1 hrL hkL
  have m1 := mulb (a := c.s.x - c.p.x) (b := 60 * c.s.far) (A := 36) (B := 2400) (by omega) (by omega) (by omega) (by omega)
  have m2 := mulb (a := 60 * ((k : Int) - c.s.x) + u) (b := c.s.far - c.p.near) (A := 1100) (B := 40) (by omega) (by omega) (by omega) (by omega)
  have m3 := mulb (a := a) (b := c.p.near) (A := 180) (B := 40) (by omega) (by omega) (by omega) (by omega)
  have n1 := mulb (a := c.s.y - c.p.y) (b := 60 * c.s.far) (A := 36) (B := 2400) (by omega) (by omega) (by omega) (by omega)
  have n2 := mulb (a := 60 * ((r : Int) - c.s.y) + v) (b := c.s.far - c.p.near) (A := 1100) (B := 40) (by omega) (by omega) (by omega) (by omega)
  have n3 := mulb (a := b) (b := c.p.near) (A := 180) (B := 40) (by omega) (by omega) (by omega) (by omega)
  have t35 : (35 : UInt8).toNat = 35 := rfl
  have t46 : (46 : UInt8).toNat = 46 := rfl
  refine aw_seq (aw_region (sq_box rfl J rfl (sq_box rfl J rfl ?_)))
  refine sq_box rfl J rfl (asr J rfl (sq_nil (aw_seq (aw_seq (aw_region (sq_ev rfl (ev_fieldAddr fo26_0 J) ?_))))))
  refine sq_ev rfl (ev_load J rfl ty24 rfl) ?_
  refine sq_ev rfl (ev_call en23 J (k23) ⟨J, trivial⟩) ?_
  refine sq_ev rfl (ev_not J) ?_
  refine mvr J rfl (sq_yes rfl rfl J rfl (ev_load_agg J rfl ty23 rfl) ?_)
  refine sq_yes rfl rfl J rfl (ev_call en24 J (k24) ⟨J, trivial⟩) ?_
  refine sq_yes rfl rfl J rfl (ev_not J) ?_
  refine pf rfl J J (mvr J rfl (sq_yes rfl rfl J rfl (ev_load_agg J rfl ty26 rfl) ?_))
  refine sq_yes rfl rfl J rfl (ev_call en25 J (k25) ⟨J, trivial⟩) ?_
  refine sq_yes rfl rfl J rfl (ev_not J) ?_
  refine pf rfl J J (mvr J rfl (sq_yes rfl rfl J rfl (ev_load_agg J rfl ty23 rfl) ?_))
  refine sq_yes rfl rfl J rfl (ev_load_agg J rfl ty28 rfl) ?_
  refine sq_yes rfl rfl J rfl (ev_call en26 J (k26) ⟨J, J, trivial⟩) ?_
  refine sq_yes rfl rfl J rfl (ev_not J) ?_
  refine pf rfl J J (mvr J rfl (ymr rfl rfl J rfl J (sq_yes rfl rfl J rfl (ev_lss J J) ?_)))
  refine pf rfl J J (mvr J rfl ?_)
  refine sq_split 50 J (fun g1_24 => ?_) (fun g1_24 => ?_)
  · skip
    have g1_24' := g1_24
    try simp only [qq] at g1_24'
    first | exact absurd g1_24 (by decide) | (exfalso; simp at g1_24; done) | (exfalso; simp at g1_24; omega) | (exfalso; simp_all; done) | (exfalso; simp_all; omega)
  · skip
    have g1_24' := g1_24
    try simp only [qq] at g1_24'
    refine sq_yes rfl rfl (less_b g1_24) rfl (ev_mv (v := .raw _) J) ?_
    refine sq_yes rfl rfl (less_b g1_24) rfl (ev_fieldAddr fo23_0 J) ?_
    refine sq_yes rfl rfl (less_b g1_24) rfl (ev_load J rfl ty3 rfl) ?_
    refine sq_yes rfl rfl (less_b g1_24) rfl (ev_geq J J) ?_
    refine sq_ev rfl (ev_pickF (v := .raw _) (less_b g1_24) J) ?_
    refine mvr J rfl ?_
    refine sq_split 56 J (fun g1_30 => ?_) (fun g1_30 => ?_)
    · skip
      have g1_30' := g1_30
      try simp only [qq] at g1_30'
      first | exact absurd g1_30 (by decide) | (exfalso; simp at g1_30; done) | (exfalso; simp at g1_30; omega) | (exfalso; simp_all; done) | (exfalso; simp_all; omega)
    · skip
      have g1_30' := g1_30
      try simp only [qq] at g1_30'
      refine sq_yes rfl rfl (less_b g1_30) rfl (ev_mv (v := .raw _) J) ?_
      refine sq_yes rfl rfl (less_b g1_30) rfl (ev_lss J J) ?_
      refine sq_ev rfl (ev_pickF (v := .raw _) (less_b g1_30) J) ?_
      refine mvr J rfl ?_
      refine sq_split 60 J (fun g1_34 => ?_) (fun g1_34 => ?_)
      · skip
        have g1_34' := g1_34
        try simp only [qq] at g1_34'
        first | exact absurd g1_34 (by decide) | (exfalso; simp at g1_34; done) | (exfalso; simp at g1_34; omega) | (exfalso; simp_all; done) | (exfalso; simp_all; omega)
      · skip
        have g1_34' := g1_34
        try simp only [qq] at g1_34'
        refine sq_yes rfl rfl (less_b g1_34) rfl (ev_mv (v := .raw _) J) ?_
        refine sq_yes rfl rfl (less_b g1_34) rfl (ev_fieldAddr fo23_1 J) ?_
        refine sq_yes rfl rfl (less_b g1_34) rfl (ev_load J rfl ty3 rfl) ?_
        refine sq_yes rfl rfl (less_b g1_34) rfl (ev_geq J J) ?_
        refine sq_ev rfl (ev_pickF (v := .raw _) (less_b g1_34) J) ?_
        refine mvr J rfl ?_
        refine sq_split 66 J (fun g1_40 => ?_) (fun g1_40 => ?_)
        · skip
          have g1_40' := g1_40
          try simp only [qq] at g1_40'
          first | exact absurd g1_40 (by decide) | (exfalso; simp at g1_40; done) | (exfalso; simp at g1_40; omega) | (exfalso; simp_all; done) | (exfalso; simp_all; omega)
        · skip
          have g1_40' := g1_40
          try simp only [qq] at g1_40'
          refine sq_yes rfl rfl (less_b g1_40) rfl (ev_mv (v := .raw _) J) ?_
          refine sq_yes rfl rfl (less_b g1_40) rfl (ev_lss J J) ?_
          refine sq_ev rfl (ev_pickF (v := .raw _) (less_b g1_40) J) ?_
          refine mvr J rfl ?_
          refine sq_split 70 J (fun g1_44 => ?_) (fun g1_44 => ?_)
          · skip
            have g1_44' := g1_44
            try simp only [qq] at g1_44'
            first | exact absurd g1_44 (by decide) | (exfalso; simp at g1_44; done) | (exfalso; simp at g1_44; omega) | (exfalso; simp_all; done) | (exfalso; simp_all; omega)
          · skip
            have g1_44' := g1_44
            try simp only [qq] at g1_44'
            refine sq_yes rfl rfl (less_b g1_44) rfl (ev_mv (v := .raw _) J) ?_
            refine sq_yes rfl rfl (less_b g1_44) rfl (ev_gtr J J) ?_
            refine sq_ev rfl (ev_pickF (v := .raw _) (less_b g1_44) J) ?_
            refine mvr J rfl ?_
            refine sq_split 74 J (fun g1_48 => ?_) (fun g1_48 => ?_)
            · skip
              have g1_48' := g1_48
              try simp only [qq] at g1_48'
              first | exact absurd g1_48 (by decide) | (exfalso; simp at g1_48; done) | (exfalso; simp at g1_48; omega) | (exfalso; simp_all; done) | (exfalso; simp_all; omega)
            · skip
              have g1_48' := g1_48
              try simp only [qq] at g1_48'
              refine sq_yes rfl rfl (less_b g1_48) rfl (ev_mv (v := .raw _) J) ?_
              refine sq_yes rfl rfl (less_b g1_48) rfl (ev_lss J J) ?_
              refine sq_ev rfl (ev_pickF (v := .raw _) (less_b g1_48) J) ?_
              refine mvr J rfl ?_
              refine sq_split 78 J (fun g1_52 => ?_) (fun g1_52 => ?_)
              · skip
                have g1_52' := g1_52
                try simp only [qq] at g1_52'
                first | exact absurd g1_52 (by decide) | (exfalso; simp at g1_52; done) | (exfalso; simp at g1_52; omega) | (exfalso; simp_all; done) | (exfalso; simp_all; omega)
              · skip
                have g1_52' := g1_52
                try simp only [qq] at g1_52'
                refine sq_yes rfl rfl (less_b g1_52) rfl (ev_mv (v := .raw _) J) ?_
                refine sq_yes rfl rfl (less_b g1_52) rfl (ev_gtr J J) ?_
                refine sq_ev rfl (ev_pickF (v := .raw _) (less_b g1_52) J) ?_
                refine sq_nil ?_
                refine aw_cond J (fun c_81 => ?_) (fun c_81 => ?_)
                · skip
                  have c_81' := c_81
                  try simp only [qq] at c_81'
                  first | exact absurd c_81 (by decide) | (exfalso; simp at c_81; done) | (exfalso; simp at c_81; omega) | (exfalso; simp_all; done) | (exfalso; simp_all; omega)
                · skip
                  have c_81' := c_81
                  try simp only [qq] at c_81'
                  refine aw_skip (aw_seq (aw_seq (aw_region (mvr J rfl (sq_ev rfl (ev_fieldAddr fo23_3 J) ?_)))))
                  refine sq_ev rfl (ev_load J rfl ty3 rfl) ?_
                  refine sq_ev rfl (ev_mul J J (wr (by omega) (by omega))) ?_
                  refine sq_ev rfl (ev_lss J J) ?_
                  refine mvr J rfl ?_
                  refine sq_split 88 J (fun g3_5 => ?_) (fun g3_5 => ?_)
                  · skip
                    have g3_5' := g3_5
                    try simp only [qq] at g3_5'
                    first | exact absurd g3_5 (by decide) | (exfalso; simp at g3_5; done) | (exfalso; simp at g3_5; omega) | (exfalso; simp_all; done) | (exfalso; simp_all; omega)
                  · skip
                    have g3_5' := g3_5
                    try simp only [qq] at g3_5'
                    refine sq_yes rfl rfl (less_b g3_5) rfl (ev_mv (v := .raw _) J) ?_
                    refine sq_yes rfl rfl (less_b g3_5) rfl (ev_fieldAddr fo23_3 J) ?_
                    refine sq_yes rfl rfl (less_b g3_5) rfl (ev_load J rfl ty3 rfl) ?_
                    refine sq_yes rfl rfl (less_b g3_5) rfl (ev_mul J J (wr (by omega) (by omega))) ?_
                    refine sq_yes rfl rfl (less_b g3_5) rfl (ev_gtr J J) ?_
                    refine sq_ev rfl (ev_pickF (v := .raw _) (less_b g3_5) J) ?_
                    refine mvr J rfl ?_
                    refine sq_split 95 J (fun g3_12 => ?_) (fun g3_12 => ?_)
                    · skip
                      have g3_12' := g3_12
                      try simp only [qq] at g3_12'
                      first | exact absurd g3_12 (by decide) | (exfalso; simp at g3_12; done) | (exfalso; simp at g3_12; omega) | (exfalso; simp_all; done) | (exfalso; simp_all; omega)
                    · skip
                      have g3_12' := g3_12
                      try simp only [qq] at g3_12'
                      refine sq_yes rfl rfl (less_b g3_12) rfl (ev_mv (v := .raw _) J) ?_
                      refine sq_yes rfl rfl (less_b g3_12) rfl (ev_fieldAddr fo23_3 J) ?_
                      refine sq_yes rfl rfl (less_b g3_12) rfl (ev_load J rfl ty3 rfl) ?_
                      refine sq_yes rfl rfl (less_b g3_12) rfl (ev_mul J J (wr (by omega) (by omega))) ?_
                      refine sq_yes rfl rfl (less_b g3_12) rfl (ev_lss J J) ?_
                      refine sq_ev rfl (ev_pickF (v := .raw _) (less_b g3_12) J) ?_
                      refine mvr J rfl ?_
                      refine sq_split 102 J (fun g3_19 => ?_) (fun g3_19 => ?_)
                      · skip
                        have g3_19' := g3_19
                        try simp only [qq] at g3_19'
                        first | exact absurd g3_19 (by decide) | (exfalso; simp at g3_19; done) | (exfalso; simp at g3_19; omega) | (exfalso; simp_all; done) | (exfalso; simp_all; omega)
                      · skip
                        have g3_19' := g3_19
                        try simp only [qq] at g3_19'
                        refine sq_yes rfl rfl (less_b g3_19) rfl (ev_mv (v := .raw _) J) ?_
                        refine sq_yes rfl rfl (less_b g3_19) rfl (ev_fieldAddr fo23_3 J) ?_
                        refine sq_yes rfl rfl (less_b g3_19) rfl (ev_load J rfl ty3 rfl) ?_
                        refine sq_yes rfl rfl (less_b g3_19) rfl (ev_mul J J (wr (by omega) (by omega))) ?_
                        refine sq_yes rfl rfl (less_b g3_19) rfl (ev_gtr J J) ?_
                        refine sq_ev rfl (ev_pickF (v := .raw _) (less_b g3_19) J) ?_
                        refine sq_nil ?_
                        refine aw_cond J (fun c_108 => ?_) (fun c_108 => ?_)
                        · skip
                          have c_108' := c_108
                          try simp only [qq] at c_108'
                          first | exact absurd c_108 (by decide) | (exfalso; simp at c_108; done) | (exfalso; simp at c_108; omega) | (exfalso; simp_all; done) | (exfalso; simp_all; omega)
                        · skip
                          have c_108' := c_108
                          try simp only [qq] at c_108'
                          refine aw_skip (aw_seq (aw_region (sq_ev rfl (ev_load_agg J rfl ty23 rfl) ?_)))
                          refine sq_ev rfl (ev_load_agg J rfl ty26 rfl) ?_
                          refine sq_ev rfl (ev_load_agg J rfl ty28 rfl) ?_
                          refine sq_ev rfl (ev_call en28 J (k28) ⟨J, J, J, trivial⟩) ?_
                          refine sq_ev rfl (ev_mv (v := .tup _) J) ?_
                          refine xtr rfl J rfl (xtr rfl J rfl (ass rfl J ?_))
                          refine asr J rfl (sq_nil (aw_seq (aw_seq (aw_region (mvr J rfl (sq_ev rfl (ev_neq J J) ?_))))))
                          refine mvr J rfl (sq_yes rfl rfl J rfl (ev_load_agg J rfl ty23 rfl) ?_)
                          refine ysl rfl rfl J rfl J ?_
                          refine sq_yes rfl rfl J rfl (ev_call en29 J (k29) ⟨J, J, trivial⟩) ?_
                          refine sq_yes rfl rfl J rfl (ev_not J) ?_
                          refine pf rfl J J (sq_nil ?_)
                          refine aw_cond J (fun c_124 => ?_) (fun c_124 => ?_)
                          · skip
                            have c_124' := c_124
                            try simp only [qq] at c_124'
                            first | exact absurd c_124 (by decide) | (exfalso; simp at c_124; done) | (exfalso; simp at c_124; omega) | (exfalso; simp_all; done) | (exfalso; simp_all; omega)
                          · skip
                            have c_124' := c_124
                            try simp only [qq] at c_124'
                            refine aw_skip (aw_seq ?_)
                            refine aw_draw 10 mo (by kernel_rfl) ?_
                            refine dr_ev rfl (ev_fieldAddr fo23_2 J) ?_
                            refine dr_ev rfl (ev_load J rfl ty3 rfl) ?_
                            refine dr_ev rfl (ev_fieldAddr fo28_0 J) ?_
                            refine dr_ev rfl (ev_load J rfl ty3 rfl) ?_
                            refine dr_ev rfl (ev_sub J J (wr (by omega) (by omega))) ?_
                            refine dr_ev rfl (ev_fieldAddr fo23_2 J) ?_
                            refine dr_ev rfl (ev_load J rfl ty3 rfl) ?_
                            refine dr_ev rfl (ev_mul J J (wr (by omega) (by omega))) ?_
                            refine dr_ev rfl (ev_as (v := .raw _) J) ?_
                            refine dr_ev rfl (ev_as (v := .raw _) J) ?_
                            refine dr_end (sq_nil (aw_seq (aw_region (sq_ev rfl (ev_fieldAddr fo23_4 J) ?_))))
                            refine sq_ev rfl (ev_load J rfl ty3 rfl) ?_
                            refine sq_ev rfl (ev_fieldAddr fo28_1 J) ?_
                            refine sq_ev rfl (ev_load J rfl ty3 rfl) ?_
                            refine sq_ev rfl (ev_sub J J (wr (by omega) (by omega))) ?_
                            refine mvr J rfl (sq_ev rfl (ev_mul J J (wr (by omega) (by omega))) ?_)
                            refine mvr J rfl (sq_ev rfl (ev_fieldAddr fo23_4 J) ?_)
                            refine sq_ev rfl (ev_load J rfl ty3 rfl) ?_
                            refine sq_ev rfl (ev_sub J J (wr (by omega) (by omega))) ?_
                            refine sq_ev rfl (ev_mul J J (wr (by omega) (by omega))) ?_
                            refine mvr J rfl (sq_ev rfl (ev_add J J (wr (by omega) (by omega))) ?_)
                            refine mvr J rfl (sq_ev rfl (ev_mul J J (wr (by omega) (by omega))) ?_)
                            refine sq_ev rfl (ev_add J J (wr (by omega) (by omega))) ?_
                            refine mvr J rfl (sq_ev rfl (ev_fieldAddr fo28_0 J) ?_)
                            refine sq_ev rfl (ev_load J rfl ty3 rfl) ?_
                            refine sq_ev rfl (ev_mul J J (wr (by omega) (by omega))) ?_
                            refine sq_ev rfl (ev_add J J (wr (by omega) (by omega))) ?_
                            refine asr J rfl (sq_nil (aw_seq (aw_region (sq_ev rfl (ev_fieldAddr fo23_5 J) ?_))))
                            refine sq_ev rfl (ev_load J rfl ty3 rfl) ?_
                            refine sq_ev rfl (ev_fieldAddr fo28_2 J) ?_
                            refine sq_ev rfl (ev_load J rfl ty3 rfl) ?_
                            refine sq_ev rfl (ev_sub J J (wr (by omega) (by omega))) ?_
                            refine mvr J rfl (sq_ev rfl (ev_mul J J (wr (by omega) (by omega))) ?_)
                            refine mvr J rfl (sq_ev rfl (ev_fieldAddr fo23_5 J) ?_)
                            refine sq_ev rfl (ev_load J rfl ty3 rfl) ?_
                            refine sq_ev rfl (ev_sub J J (wr (by omega) (by omega))) ?_
                            refine sq_ev rfl (ev_mul J J (wr (by omega) (by omega))) ?_
                            refine mvr J rfl (sq_ev rfl (ev_add J J (wr (by omega) (by omega))) ?_)
                            refine mvr J rfl (sq_ev rfl (ev_mul J J (wr (by omega) (by omega))) ?_)
                            refine sq_ev rfl (ev_add J J (wr (by omega) (by omega))) ?_
                            refine mvr J rfl (sq_ev rfl (ev_fieldAddr fo28_0 J) ?_)
                            refine sq_ev rfl (ev_load J rfl ty3 rfl) ?_
                            refine sq_ev rfl (ev_mul J J (wr (by omega) (by omega))) ?_
                            refine sq_ev rfl (ev_add J J (wr (by omega) (by omega))) ?_
                            refine asr J rfl ?_
                            refine sq_nil (aw_seq (aw_seq (aw_region (mvr J rfl (mvr J rfl (sq_ev rfl (ev_rem J J (by omega)) ?_))))))
                            refine sq_ev rfl (ev_eql J J) ?_
                            refine mvr J rfl ?_
                            refine sq_split 181 J (fun g11_4 => ?_) (fun g11_4 => ?_)
                            · skip
                              have g11_4' := g11_4
                              try simp only [qq] at g11_4'
                              refine sq_no rfl rfl (less_b g11_4) rfl rfl ?_
                              refine sq_no rfl rfl (less_b g11_4) rfl rfl ?_
                              refine sq_no rfl rfl (less_b g11_4) rfl rfl ?_
                              refine sq_no rfl rfl (less_b g11_4) rfl rfl ?_
                              refine sq_ev rfl (ev_pickT (v := .raw _) (less_b g11_4) J) ?_
                              refine sq_nil ?_
                              refine aw_true J ?_
                              refine aw_seq (aw_region (sq_ev rfl (ev_call en27 J (known_pure) trivial) ?_))
                              refine asr J rfl (sq_nil (aw_ret ?_))
                              exact retQ_pure (v := .raw _) rfl rfl J
                            · skip
                              have g11_4' := g11_4
                              try simp only [qq] at g11_4'
                              refine sq_yes rfl rfl (less_b g11_4) rfl (ev_mv (v := .raw _) J) ?_
                              refine sq_yes rfl rfl (less_b g11_4) rfl (ev_mv (v := .raw _) J) ?_
                              refine sq_yes rfl rfl (less_b g11_4) rfl (ev_rem J J (by omega)) ?_
                              refine sq_yes rfl rfl (less_b g11_4) rfl (ev_eql J J) ?_
                              refine sq_ev rfl (ev_pickF (v := .raw _) (less_b g11_4) J) ?_
                              refine sq_nil ?_
                              refine aw_cond J (fun c_186 => ?_) (fun c_186 => ?_)
                              · skip
                                have c_186' := c_186
                                try simp only [qq] at c_186'
                                refine aw_seq (aw_region (sq_ev rfl (ev_call en27 J (known_pure) trivial) ?_))
                                refine asr J rfl (sq_nil (aw_ret ?_))
                                exact retQ_pure (v := .raw _) rfl rfl J
                              · skip
                                have c_186' := c_186
                                try simp only [qq] at c_186'
                                refine aw_skip (aw_seq (aw_region (sq_ev rfl (ev_load_agg J rfl ty26 rfl) ?_)))
                                refine mvr J rfl (mvr J rfl (mvr J rfl (sq_ev rfl (ev_call en30 J (lhide_pure c.f (by omega) (by omega) (by omega)) ⟨J, J, J, J, trivial⟩) ?_)))
                                refine asr J rfl (sq_nil (aw_seq (aw_region (mvs rfl J (mvr J rfl (sq_ev rfl (ev_index_map sl24 J J rfl (by omega)) ?_))))))
                                refine sq_ev rfl (ev_load_i J ty9 rfl) ?_
                                refine mvr J rfl (sq_ev rfl (ev_idxS Tryz.underlying9 J J rfl (by omega)) ?_)
                                refine sq_ev rfl (ev_neq J J) ?_
                                refine mvr J rfl ?_
                                refine sq_split 200 J (fun g14_7 => ?_) (fun g14_7 => ?_)
                                · skip
                                  have g14_7' := g14_7
                                  try simp only [qq] at g14_7'
                                  refine sq_no rfl rfl (less_b g14_7) rfl rfl ?_
                                  refine sq_no rfl rfl (less_b g14_7) rfl rfl ?_
                                  refine sq_ev rfl (ev_pickT (v := .raw _) (less_b g14_7) J) ?_
                                  refine mvr J rfl ?_
                                  refine ysl rfl rfl J rfl J ?_
                                  refine ymr rfl rfl J rfl J (sq_yes rfl rfl J rfl (ev_index_map sl24 J J rfl (by omega)) ?_)
                                  refine sq_yes rfl rfl J rfl (ev_load_i J ty9 rfl) ?_
                                  refine ymr rfl rfl J rfl J (sq_yes rfl rfl J rfl (ev_idxS Tryz.underlying9 J J rfl (by omega)) ?_)
                                  refine sq_yes rfl rfl J rfl (ev_neq J J) ?_
                                  refine ymr rfl rfl J rfl J ?_
                                  refine sq_split 212 J (fun g14_19 => ?_) (fun g14_19 => ?_)
                                  · skip
                                    have g14_19' := g14_19
                                    try simp only [qq] at g14_19'
                                    refine sq_no rfl rfl (less_b g14_19) rfl rfl ?_
                                    refine sq_no rfl rfl (less_b g14_19) rfl rfl ?_
                                    refine sq_yes rfl rfl J rfl (ev_pickT (v := .raw _) (less_b g14_19) J) ?_
                                    refine sq_ev rfl (ev_pickT (v := .raw _) J J) ?_
                                    refine mvr J rfl (sq_yes rfl rfl J rfl (ev_call en27 J (known_pure) trivial) ?_)
                                    refine sq_ev rfl (ev_pickT (v := .raw _) J J) ?_
                                    refine asr J rfl (sq_nil (aw_ret ?_))
                                    exact retQ_pure (v := .raw _) rfl rfl J
                                  · skip
                                    have g14_19' := g14_19
                                    try simp only [qq] at g14_19'
                                    refine sq_yes rfl rfl (less_b g14_19) rfl (ev_mv (v := .raw _) J) ?_
                                    refine sq_yes rfl rfl (less_b g14_19) rfl (ev_eql J J) ?_
                                    refine sq_yes rfl rfl J rfl (ev_pickF (v := .raw _) (less_b g14_19) J) ?_
                                    refine sq_ev rfl (ev_pickT (v := .raw _) J J) ?_
                                    refine mvr J rfl ?_
                                    refine sq_split 217 J (fun g14_24 => ?_) (fun g14_24 => ?_)
                                    · skip
                                      have g14_24' := g14_24
                                      try simp only [qq] at g14_24'
                                      refine sq_yes rfl rfl (less_b g14_24) rfl (ev_call en27 J (known_pure) trivial) ?_
                                      refine sq_ev rfl (ev_pickT (v := .raw _) (less_b g14_24) J) ?_
                                      refine asr J rfl (sq_nil (aw_ret ?_))
                                      exact retQ_pure (v := .raw _) rfl rfl J
                                    · skip
                                      have g14_24' := g14_24
                                      try simp only [qq] at g14_24'
                                      exact absurd (by rw [h46 (UInt8.toNat_inj.1 (by omega))]; rfl) g14_24'
                                · skip
                                  have g14_7' := g14_7
                                  try simp only [qq] at g14_7'
                                  refine sq_yes rfl rfl (less_b g14_7) rfl (ev_mv (v := .raw _) J) ?_
                                  refine sq_yes rfl rfl (less_b g14_7) rfl (ev_eql J J) ?_
                                  refine sq_ev rfl (ev_pickF (v := .raw _) (less_b g14_7) J) ?_
                                  refine mvr J rfl ?_
                                  refine sq_split 204 J (fun g14_11 => ?_) (fun g14_11 => ?_)
                                  · skip
                                    have g14_11' := g14_11
                                    try simp only [qq] at g14_11'
                                    refine sq_yes rfl rfl (less_b g14_11) rfl (ev_mv (v := .sl _ _) J) ?_
                                    refine sq_yes rfl rfl (less_b g14_11) rfl (ev_mv (v := .raw _) J) ?_
                                    refine sq_yes rfl rfl (less_b g14_11) rfl (ev_index_map sl24 J J rfl (by omega)) ?_
                                    refine sq_yes rfl rfl (less_b g14_11) rfl (ev_load_i J ty9 rfl) ?_
                                    refine sq_yes rfl rfl (less_b g14_11) rfl (ev_mv (v := .raw _) J) ?_
                                    refine sq_yes rfl rfl (less_b g14_11) rfl (ev_idxS Tryz.underlying9 J J rfl (by omega)) ?_
                                    refine sq_yes rfl rfl (less_b g14_11) rfl (ev_neq J J) ?_
                                    refine sq_yes rfl rfl (less_b g14_11) rfl (ev_mv (v := .raw _) J) ?_
                                    refine sq_split 212 J (fun g14_19 => ?_) (fun g14_19 => ?_)
                                    · skip
                                      have g14_19' := g14_19
                                      try simp only [qq] at g14_19'
                                      refine sq_no rfl rfl (less_b g14_19) rfl rfl ?_
                                      refine sq_no rfl rfl (less_b g14_19) rfl rfl ?_
                                      refine sq_yes rfl rfl (less_b g14_11) rfl (ev_pickT (v := .raw _) (less_b g14_19) J) ?_
                                      refine sq_ev rfl (ev_pickT (v := .raw _) (less_b g14_11) J) ?_
                                      refine mvr J rfl (sq_yes rfl rfl J rfl (ev_call en27 J (known_pure) trivial) ?_)
                                      refine sq_ev rfl (ev_pickT (v := .raw _) J J) ?_
                                      refine asr J rfl (sq_nil (aw_ret ?_))
                                      exact retQ_pure (v := .raw _) rfl rfl J
                                    · skip
                                      have g14_19' := g14_19
                                      try simp only [qq] at g14_19'
                                      refine sq_yes rfl rfl (less_b g14_19) rfl (ev_mv (v := .raw _) J) ?_
                                      refine sq_yes rfl rfl (less_b g14_19) rfl (ev_eql J J) ?_
                                      refine sq_yes rfl rfl (less_b g14_11) rfl (ev_pickF (v := .raw _) (less_b g14_19) J) ?_
                                      refine sq_ev rfl (ev_pickT (v := .raw _) (less_b g14_11) J) ?_
                                      refine mvr J rfl ?_
                                      refine sq_split 217 J (fun g14_24 => ?_) (fun g14_24 => ?_)
                                      · skip
                                        have g14_24' := g14_24
                                        try simp only [qq] at g14_24'
                                        refine sq_yes rfl rfl (less_b g14_24) rfl (ev_call en27 J (known_pure) trivial) ?_
                                        refine sq_ev rfl (ev_pickT (v := .raw _) (less_b g14_24) J) ?_
                                        refine asr J rfl (sq_nil (aw_ret ?_))
                                        exact retQ_pure (v := .raw _) rfl rfl J
                                      · skip
                                        have g14_24' := g14_24
                                        try simp only [qq] at g14_24'
                                        exact absurd (by rw [h46 (UInt8.toNat_inj.1 (by omega))]; rfl) g14_24'
                                  · skip
                                    have g14_11' := g14_11
                                    try simp only [qq] at g14_11'
                                    exact absurd (by rw [h35 (UInt8.toNat_inj.1 (by omega))]; rfl) g14_11'
/-- **OutlineRays.** -/
theorem law3 (s : Sg) (f : Fg) (p : Pc) (k r u v a b : Int) : APure Tryz.prog 3 [stA s, fgA f, pcA p, I k, I r, I u, I v, I a, I b] (B true) := by
  obtain ⟨c, rfl, rfl, rfl⟩ : ∃ c : Ca, s = c.s ∧ f = c.f ∧ p = c.p := ⟨⟨s, f, p⟩, rfl, rfl, rfl⟩
  cases hg : (shortB c.f && (stOK c.s && (fgOK c.f && (pcOK c.s c.p && (decide (0 ≤ k ∧ k < c.s.wide) && (decide (0 ≤ r ∧ r < c.s.high) && (decide (1 ≤ u ∧ u ≤ 59) && (decide (1 ≤ v ∧ v ≤ 59) && (decide (-60 * c.s.flame ≤ a ∧ a ≤ 60 * c.s.flame) && decide (-60 * c.s.flame ≤ b ∧ b ≤ 60 * c.s.flame)))))))))) with
  | false => exact rays_gate c k r u v a b hg
  | true =>
    simp only [Bool.and_eq_true, decide_eq_true_eq] at hg
    obtain ⟨h1, h2, h3, h4, h5, h6, h7, h8, h9, h10⟩ := hg
    have o1 : caOK c = true := by unfold caOK; rw [h2, h3, h4]; rfl
    obtain ⟨k, rfl⟩ : ∃ n : Nat, k = n := ⟨k.toNat, by omega⟩
    obtain ⟨r, rfl⟩ : ∃ n : Nat, r = n := ⟨r.toNat, by omega⟩
    have hs := stOK_iff.1 h2
    have k23 : APure Tryz.prog 23 [strs c.f] (B true) := by have := short_pure c.f; rwa [h1] at this
    have k24 : APure Tryz.prog 24 [stA c.s] (B true) := by have := rstage_pure c.s; rwa [h2] at this
    have k25 : APure Tryz.prog 25 [fgA c.f] (B true) := by have := rfigure_pure c.f; rwa [h3] at this
    have k26 : APure Tryz.prog 26 [stA c.s, pcA c.p] (B true) := by have := rplace_pure c.s c.p (by omega); rwa [h4] at this
    have k28 := shadowE_pure c
    simp only [o1, if_true, show er true = 0 from rfl] at k28
    have cA := shadow_clo c
    have k29 : APure Tryz.prog 29 [stA c.s, strs c.shadow] (B true) := by have := whole_pure c.s c.shadow (clo_shp h2 cA); rwa [shadow_whole h2] at this
    have hr := rays o1 (k := k) (m := r) (u := u) (v := v) (a := a) (b := b) h7 h8 (by omega) (by omega) rfl rfl
    have e1 : ∀ n : Int, (c.s.x - c.p.x) * (60 * c.s.far) + n = (c.s.x - c.p.x) * (60 * c.s.far) + n := fun _ => rfl
    refine rays_core h2 h4 h5.2 h6.2 h7 h8 h9 h10 cA k23 k24 k25 k26 k28 k29 fun hr1 hk1 => ?_
    have e : c.shadow[r][k] = c.cell k r := by simp [Ca.shadow, Ca.srow]
    rw [e]
    exact hr
end Go.Proofs.YtmbknoaneglilaaGreatDoor
