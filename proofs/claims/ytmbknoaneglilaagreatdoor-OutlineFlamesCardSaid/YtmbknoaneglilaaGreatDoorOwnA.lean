/-
  A part of the proof: conditions: none beyond each theorem's own.
-/
import Derived.Test.YtmbknoaneglilaaGreatDoorSpecA
import Derived.Test.YtmbknoaneglilaaGreatDoorLogicD
import Derived.KernelRfl
import Derived.Lib.LaidTab
import Derived.Lib.ItoaNum
import Derived.Test.YtmbknoaneglilaaGreatDoorProg
import Derived.Test.YtmbknoaneglilaaGreatDoorWalkB
import Derived.Test.YtmbknoaneglilaaGreatDoorWalkG
import Derived.Test.YtmbknoaneglilaaGreatDoorLogicA
import Derived.Test.YtmbknoaneglilaaGreatDoorLogicB
import Derived.Test.YtmbknoaneglilaaGreatDoorLogicC
import Derived.Test.YtmbknoaneglilaaGreatDoorShelf
import Derived.Test.YtmbknoaneglilaaGreatDoorWalkA
import Derived.Test.YtmbknoaneglilaaGreatDoorWalkC
import Derived.Test.YtmbknoaneglilaaGreatDoorWalkD
import Derived.Test.YtmbknoaneglilaaGreatDoorWalkE
import Derived.Test.YtmbknoaneglilaaGreatDoorWalkF
import Derived.Test.YtmbknoaneglilaaGreatDoorRow
set_option linter.all false
set_option maxHeartbeats 8000000
namespace Ol
open Ni (inn)
namespace Ca
end Ca
namespace Ca
end Ca
def meetsL (l : List (UInt8 × UInt8)) : Int := if l.any (fun q => decide (q.1 = 35 ∧ q.2 = 35)) = true then 3 else if l.any (fun q => decide (q.1 ≠ 46 ∧ q.2 ≠ 46)) = true then 2 else 1
def meets (a b : List (List UInt8)) : Int := meetsL (List.zip a.flatten b.flatten)
end Ol
namespace Ol
open Ni (inn)
end Ol
namespace Ol
open Ni (inn)
theorem mists_iff {a b : List Th} : mists a b = true ↔ ∃ t ∈ a, ∃ u ∈ b, agree t.sh u.sh = true := by
  unfold mists mist; simp only [List.any_eq_true]
theorem pairI_inv {L : List (List Th)} {i : Nat} (h : pairI L i = none) : ∀ k, i < k → k < L.length → mists (L.getD i []) (L.getD k []) = false := by
  intro k hik hk
  unfold pairI at h
  cases hf : (List.range L.length).find? (fun k => decide (i < k) && mists (L.getD i []) (L.getD k [])) with
  | some q => rw [hf] at h; cases h
  | none =>
    rw [List.find?_eq_none] at hf
    have := hf k (List.mem_range.2 hk)
    simpa [hik] using this
theorem pair_none_inv {L : List (List Th)} (h : pairOf L = none) : ∀ i k, i < k → k < L.length → mists (L.getD i []) (L.getD k []) = false := by
  intro i k hik hk
  unfold pairOf at h
  rw [List.findSome?_eq_none_iff] at h
  exact pairI_inv (h i (List.mem_range.2 (by omega))) k hik hk
theorem findSome_inv {α : Type} {f : Nat → Option α} : ∀ {n : Nat} {a : α}, (List.range n).findSome? f = some a → ∃ i, i < n ∧ f i = some a ∧ ∀ j, j < i → f j = none
  | 0, a, h => by simp at h
  | n + 1, a, h => by
    rw [List.range_succ, List.findSome?_append] at h
    cases hp : (List.range n).findSome? f with
    | some b =>
      rw [hp] at h; simp only [Option.some_or, Option.some.injEq] at h; subst h
      obtain ⟨i, h1, h2, h3⟩ := findSome_inv hp
      exact ⟨i, by omega, h2, h3⟩
    | none =>
      rw [hp] at h
      rw [List.findSome?_eq_none_iff] at hp
      refine ⟨n, by omega, by simpa using h, fun j hj => hp j (List.mem_range.2 hj)⟩
theorem pair_some_inv {L : List (List Th)} {a b : Nat} (h : pairOf L = some (a, b)) : (a < b ∧ b < L.length) ∧ ∀ i k, i < k → k < L.length → mists (L.getD i []) (L.getD k []) = true → a < i ∨ (a = i ∧ b ≤ k) := by
  obtain ⟨i0, hi0, hp, hno⟩ := findSome_inv h
  have hp' := hp
  unfold pairI at hp'
  cases hf : (List.range L.length).find? (fun k => decide (i0 < k) && mists (L.getD i0 []) (L.getD k [])) with
  | none => rw [hf] at hp'; cases hp'
  | some q =>
    rw [hf] at hp'
    simp only [Option.map_some, Option.some.injEq, Prod.mk.injEq] at hp'
    obtain ⟨rfl, rfl⟩ := hp'
    rw [List.find?_range_eq_some] at hf
    obtain ⟨h1, h2, h3⟩ := hf
    simp only [Bool.and_eq_true, decide_eq_true_eq] at h1
    refine ⟨⟨h1.1, List.mem_range.1 h2⟩, fun i k hik hk hm => ?_⟩
    rcases Nat.lt_trichotomy i0 i with h | h | h
    · exact .inl h
    · subst h
      refine .inr ⟨rfl, ?_⟩
      rcases Nat.lt_or_ge k q with hq | hq
      · have := h3 k hq
        simp only [hik, decide_true, Bool.true_and, hm, Bool.not_true] at this
        cases this
      · exact hq
    · have := pairI_inv (hno i h) k hik hk
      rw [hm] at this; cases this
end Ol
namespace Ol
open Ni (inn)
theorem mts_ex {c : Ca} (hF : 0 < c.s.far) {e : Int × Int} (h : e.1 < e.2) : ∃ i, i ∈ rng (c.mts e).1 (c.mts e).2 := by
  refine ⟨e.1 / c.s.far, (mem_mts hF).2 ⟨?_, ?_⟩⟩
  · exact (floor_le hF).1 (Int.le_refl _)
  · have := Int.ediv_mul_le e.1 (show c.s.far ≠ 0 by omega); omega
theorem boxAll_iff {c : Ca} {h v : Int × Int} : c.boxAll h v = true ↔ ∀ m ∈ rng v.1 v.2, ∀ i ∈ rng h.1 h.2, c.hide m i = true := by
  unfold Ca.boxAll Ca.rowAll; simp only [List.all_eq_true]
theorem cell_35 {c : Ca} {k m : Int} : c.cell k m = 35 ↔ ∀ j ∈ rng (c.mts (c.dwn m)).1 (c.mts (c.dwn m)).2, ∀ i ∈ rng (c.mts (c.acr k)).1 (c.mts (c.acr k)).2, c.hide j i = true := by
  rw [← boxAll_iff]
  unfold Ca.cell Ca.cellAt
  by_cases h : c.boxAll (c.mts (c.acr k)) (c.mts (c.dwn m)) = true
  · rw [if_pos h]; exact ⟨fun _ => h, fun _ => rfl⟩
  · rw [if_neg h]
    refine ⟨fun e => ?_, fun e => absurd e h⟩
    split at e <;> cases e
theorem CaB.good {c : Ca} (h : CaB c) : Good c := by
  have h1 := h.st; have h2 := h.pc
  exact ⟨by omega, by omega, by omega, by omega⟩
theorem frm_step (c : Ca) (k axis edge : Int) : c.frm (k + 1) axis edge = c.frm k axis edge + (c.s.far - c.p.near) := by
  unfold Ca.frm
  rw [show k + 1 - axis = (k - axis) + 1 by omega, Int.add_mul]; omega
theorem acr_lt {c : Ca} (h : Good c) (k : Int) : (c.acr k).1 < (c.acr k).2 := by
  have := h.blur; have := h.near
  unfold Ca.acr; simp only; rw [frm_step]; omega
theorem dwn_lt {c : Ca} (h : Good c) (k : Int) : (c.dwn k).1 < (c.dwn k).2 := by
  have := h.blur; have := h.near
  unfold Ca.dwn; simp only; rw [frm_step]; omega
theorem cell_46 {c : Ca} (g : Good c) {k m : Int} : c.cell k m = 46 ↔ ∀ j ∈ rng (c.mts (c.dwn m)).1 (c.mts (c.dwn m)).2, ∀ i ∈ rng (c.mts (c.acr k)).1 (c.mts (c.acr k)).2, c.hide j i = false := by
  have hno : c.boxAny (c.mts (c.acr k)) (c.mts (c.dwn m)) = false ↔ ∀ j ∈ rng (c.mts (c.dwn m)).1 (c.mts (c.dwn m)).2, ∀ i ∈ rng (c.mts (c.acr k)).1 (c.mts (c.acr k)).2, c.hide j i = false := by
    unfold Ca.boxAny Ca.rowAny
    simp only [List.any_eq_false, Bool.not_eq_true]
  rw [← hno]
  unfold Ca.cell Ca.cellAt
  by_cases h : c.boxAll (c.mts (c.acr k)) (c.mts (c.dwn m)) = true
  · rw [if_pos h]
    obtain ⟨i, hi⟩ := mts_ex g.far (acr_lt g k)
    obtain ⟨j, hj⟩ := mts_ex g.far (dwn_lt g m)
    refine ⟨fun e => (by cases e), fun e => ?_⟩
    rw [hno] at e
    have h1 := boxAll_iff.1 h j hj i hi
    rw [e j hj i hi] at h1; cases h1
  · rw [if_neg h]
    cases hb : c.boxAny (c.mts (c.acr k)) (c.mts (c.dwn m)) with
    | true => rw [if_pos rfl]; exact ⟨fun e => (by cases e), fun e => (by cases e)⟩
    | false => rw [if_neg (by simp)]; exact ⟨fun _ => rfl, fun _ => rfl⟩
theorem hide_congr {c d : Ca} (h : d.f = c.f) (j i : Int) : d.hide j i = c.hide j i := by unfold Ca.hide; rw [h]
theorem Gr.c35 {c d : Ca} (g : Gr c d) (h : Good c) {k m : Int} (e : d.cell k m = 35) : c.cell k m = 35 := by
  rw [cell_35] at e ⊢
  intro j hj i hi
  rw [← hide_congr g.fg]
  exact e j (g.dwn h _ _ hj) i (g.acr h _ _ hi)
theorem Gr.good {c d : Ca} (g : Gr c d) (h : Good c) : Good d := ⟨by rw [g.f]; exact h.far, by rw [g.f, g.p]; exact h.near, by rw [g.p]; exact h.pos, by have := h.fl; have := g.fl; omega⟩
theorem Gr.c46 {c d : Ca} (g : Gr c d) (h : Good c) {k m : Int} (e : d.cell k m = 46) : c.cell k m = 46 := by
  rw [cell_46 (g.good h)] at e
  rw [cell_46 h]
  intro j hj i hi
  rw [← hide_congr g.fg]
  exact e j (g.dwn h _ _ hj) i (g.acr h _ _ hi)
theorem meetsC_3 {c d : Ca} : meetsC c d = 3 ↔ ∃ m k : Nat, m < c.s.high.toNat ∧ k < c.s.wide.toNat ∧ c.cell k m = 35 ∧ d.cell k m = 35 := by
  unfold meetsC meetsP
  constructor
  · intro h
    by_cases hd : (mall c d c.s.high.toNat).any dd = true
    · obtain ⟨q, hq, hdd⟩ := List.any_eq_true.1 hd
      obtain ⟨m, hm, hq⟩ := List.mem_flatMap.1 hq
      obtain ⟨k, hk, rfl⟩ := List.mem_map.1 hq
      unfold dd at hdd
      simp only [Bool.and_eq_true, decide_eq_true_eq] at hdd
      exact ⟨m, k, List.mem_range.1 hm, List.mem_range.1 hk, hdd.1, hdd.2⟩
    · rw [if_neg hd] at h; split at h <;> cases h
  · rintro ⟨m, k, hm, hk, h1, h2⟩
    rw [if_pos]
    rw [List.any_eq_true]
    exact ⟨_, List.mem_flatMap.2 ⟨m, List.mem_range.2 hm, List.mem_map.2 ⟨k, List.mem_range.2 hk, rfl⟩⟩, by unfold dd; simp [h1, h2]⟩
theorem meetsC_1 {c d : Ca} : meetsC c d = 1 ↔ ∀ m k : Nat, m < c.s.high.toNat → k < c.s.wide.toNat → c.cell k m = 46 ∨ d.cell k m = 46 := by
  have key : (mall c d c.s.high.toNat).any nl = false ↔ ∀ m k : Nat, m < c.s.high.toNat → k < c.s.wide.toNat → c.cell k m = 46 ∨ d.cell k m = 46 := by
    rw [List.any_eq_false]
    constructor
    · intro h m k hm hk
      have := h _ (List.mem_flatMap.2 ⟨m, List.mem_range.2 hm, List.mem_map.2 ⟨k, List.mem_range.2 hk, rfl⟩⟩)
      unfold nl at this
      simp only [Bool.and_eq_true, Bool.not_eq_true', decide_eq_false_iff_not, not_and, Decidable.not_not] at this
      by_cases e : c.cell k m = 46
      · exact .inl e
      · exact .inr (this e)
    · intro h q hq
      obtain ⟨m, hm, hq⟩ := List.mem_flatMap.1 hq
      obtain ⟨k, hk, rfl⟩ := List.mem_map.1 hq
      have := h m k (List.mem_range.1 hm) (List.mem_range.1 hk)
      unfold nl
      simp only [Bool.and_eq_true, Bool.not_eq_true', decide_eq_false_iff_not, not_and, Decidable.not_not]
      intro h1; rcases this with h | h
      · exact absurd h h1
      · exact h
  rw [← key]
  unfold meetsC meetsP
  constructor
  · intro h
    split at h
    · cases h
    · split at h
      · cases h
      · simp_all
  · intro h
    have hdd : ¬ (mall c d c.s.high.toNat).any dd = true := by
      intro hd
      obtain ⟨q, hq, h2⟩ := List.any_eq_true.1 hd
      have h3 := List.any_eq_false.1 h q hq
      unfold dd at h2; unfold nl at h3
      simp only [Bool.and_eq_true, decide_eq_true_eq] at h2
      rw [h2.1, h2.2] at h3
      exact h3 (by decide)
    rw [if_neg hdd, if_neg (by simp [h])]
theorem meetsC_cases (c d : Ca) : meetsC c d = 1 ∨ meetsC c d = 2 ∨ meetsC c d = 3 := by
  unfold meetsC meetsP; split
  · exact .inr (.inr rfl)
  · split
    · exact .inr (.inl rfl)
    · exact .inl rfl
theorem Gr.meets {c d c' d' : Ca} (g : Gr c c') (k : Gr d d') (hc : Good c) (hd : Good d) (h : meetsC c' d' ≠ 2) : meetsC c d = meetsC c' d' := by
  rcases meetsC_cases c' d' with e | e | e
  · rw [e, meetsC_1]
    rw [meetsC_1] at e
    intro m q hm hq
    rcases e m q (by rw [g.h]; exact hm) (by rw [g.w]; exact hq) with h1 | h1
    · exact .inl (g.c46 hc h1)
    · exact .inr (k.c46 hd h1)
  · exact absurd e h
  · rw [e, meetsC_3]
    rw [meetsC_3] at e
    obtain ⟨m, q, hm, hq, h1, h2⟩ := e
    exact ⟨m, q, by rw [← g.h]; exact hm, by rw [← g.w]; exact hq, g.c35 hc h1, k.c35 hd h2⟩
end Ol
namespace Ol
open Ni (inn)
theorem shadow_len (c : Ca) : c.shadow.length = c.s.high.toNat := by simp [Ca.shadow]
theorem cell_ch3 (c : Ca) (k m : Int) : c.cell k m = 35 ∨ c.cell k m = 43 ∨ c.cell k m = 46 := by
  unfold Ca.cell Ca.cellAt
  split
  · exact .inl rfl
  · split
    · exact .inr (.inl rfl)
    · exact .inr (.inr rfl)
end Ol
namespace Ol
open Ni (inn)
namespace Ca
def eR (c : Ca) (k : Int) : Int := (k + 1) * (c.s.far - c.p.near) + c.s.flame * c.p.near
end Ca
end Ol
namespace Ol
open Ni (inn)
theorem mem_rdgs {x : Sn} {t : Th} : t ∈ rdgs x ↔ t.rd.fig < x.l.length ∧ t ∈ rdN x t.rd.fig := by
  unfold rdgs
  rw [List.mem_flatMap]
  constructor
  · rintro ⟨i, hi, h⟩
    have := rdN_fig h
    subst this
    exact ⟨List.mem_range.1 hi, h⟩
  · rintro ⟨h1, h2⟩; exact ⟨_, List.mem_range.2 h1, h2⟩
theorem good_mists {x : Sn} {t u : Th} (ht : t ∈ rdgs x) (hu : u ∈ rdgs x) (h : goodP t u) : mists ((byF x).getD t.rd.fig []) ((byF x).getD u.rd.fig []) = true := by
  obtain ⟨a1, a2⟩ := mem_rdgs.1 ht
  obtain ⟨b1, b2⟩ := mem_rdgs.1 hu
  have g : ∀ {i : Nat}, i < x.l.length → (byF x).getD i [] = rdN x i := fun {i} hi => by
    unfold byF; rw [getD_get (by simpa using hi)]; simp
  rw [g a1, g b1]
  exact mists_iff.2 ⟨t, a2, u, b2, h.2⟩
theorem MInv.done {x : Sn} {M : Option (Nat × Nat)} (h : MInv (rdgs x) M (rdgs x).length 0) : misOf x = M := by
  have g : ∀ {i : Nat}, i < x.l.length → (byF x).getD i [] = rdN x i := fun {i} hi => by
    unfold byF; rw [getD_get (by simpa using hi)]; simp
  have hl : (byF x).length = x.l.length := by simp [byF]
  have real : ∀ {a b : Nat}, a < b → b < x.l.length → mists ((byF x).getD a []) ((byF x).getD b []) = true → leM M a b := fun {a b} hab hb hm => by
    rw [g (by omega), g hb] at hm
    obtain ⟨t, ht, u, hu, hag⟩ := mists_iff.1 hm
    have ft := rdN_fig ht
    have fu := rdN_fig hu
    have mt : t ∈ rdgs x := mem_rdgs.2 ⟨by omega, by rw [ft]; exact ht⟩
    have mu : u ∈ rdgs x := mem_rdgs.2 ⟨by omega, by rw [fu]; exact hu⟩
    obtain ⟨p, hp, rfl⟩ := List.getElem_of_mem mt
    obtain ⟨q, hq, rfl⟩ := List.getElem_of_mem mu
    have := h.least p q hp hq (.inl hp) ⟨by omega, hag⟩
    rw [ft, fu] at this; exact this
  cases hm : misOf x with
  | none =>
    cases M with
    | none => rfl
    | some m =>
      obtain ⟨t, ht, u, hu, hg, e1, e2⟩ := h.real m rfl
      have h1 := good_mists ht hu hg
      have h2 := pair_none_inv hm _ _ hg.1 (by rw [hl]; exact (mem_rdgs.1 hu).1)
      rw [h1] at h2; cases h2
  | some m' =>
    obtain ⟨a, b⟩ := m'
    obtain ⟨⟨hab, hbl⟩, hmin⟩ := pair_some_inv hm
    rw [hl] at hbl hmin
    obtain ⟨i, hi, e, _⟩ := findSome_inv (show (List.range (byF x).length).findSome? (pairI (byF x)) = some (a, b) from hm)
    have hmm : mists ((byF x).getD a []) ((byF x).getD b []) = true := by
      unfold pairI at e
      cases hf : (List.range (byF x).length).find? (fun k => decide (i < k) && mists ((byF x).getD i []) ((byF x).getD k [])) with
      | none => rw [hf] at e; cases e
      | some k =>
        rw [hf] at e
        simp only [Option.map_some, Option.some.injEq, Prod.mk.injEq] at e
        have h1 := List.find?_some hf
        simp only [Bool.and_eq_true] at h1
        rw [← e.1, ← e.2]; exact h1.2
    have hle := real hab hbl hmm
    cases M with
    | none => unfold leM at hle; simp only [mA] at hle; omega
    | some m =>
      obtain ⟨t, ht, u, hu, hg, e1, e2⟩ := h.real m rfl
      have h1 := good_mists ht hu hg
      have h2 := hmin _ _ hg.1 (mem_rdgs.1 hu).1 h1
      unfold leM at hle
      simp only [mA, mB] at hle
      obtain ⟨m1, m2⟩ := m
      simp only at *
      congr 1
      refine Prod.ext ?_ ?_ <;> simp only <;> omega
end Ol
namespace Go.Proofs.YtmbknoaneglilaaGreatDoor
open Go Go.Ab Ni Ol
theorem en31 : Ent Tryz.prog 31 := Ent.of Tryz.func31 (by kernel_rfl) rfl
theorem en89 : Ent Tryz.prog 89 := Ent.of Tryz.func89 (by kernel_rfl) rfl
theorem rin_pure (n lo hi : Int) : APure Tryz.prog 89 [I n, I lo, I hi] (B (inn n lo hi)) := by
 refine apure_of (rs := [.tmp 6]) Tryz.func89 rfl rfl (Nat.le_of_ble_eq_true rfl) (by simp [AV.pureL, AV.pureB, AV.pureE, pureE_map]) (by first | rfl | (simp [AV.pureL, AV.pureB, AV.pureE, pureE_map])) fun e0 he0 => ?_
 refine aw_seq (aw_region ?_)
 refine asr J rfl (sq_nil (aw_seq (aw_region (mvr J rfl (mvr J rfl (sq_ev rfl (ev_geq J J) ?_))))))
 refine mvr J rfl ?_
 refine sq_split 10 J (fun g1 => ?_) (fun g1 => ?_)
 ·
  have g1' := g1
  try simp only [qq] at g1'
  refine sq_yes rfl rfl (less_b g1) rfl (ev_mv (v := .raw _) J) ?_
  refine sq_yes rfl rfl (less_b g1) rfl (ev_mv (v := .raw _) J) ?_
  refine sq_yes rfl rfl (less_b g1) rfl (ev_leq J J) ?_
  refine sq_ev rfl (ev_pickT (v := .raw _) (less_b g1) J) ?_
  refine asr J rfl (sq_nil (aw_ret ?_))
  exact retQ_pure (v := .raw _) rfl rfl (Less.eq (by simp [inn, *]))
 have g1' := g1
 try simp only [qq] at g1'
 refine sq_no rfl rfl (less_b g1) rfl rfl ?_
 refine sq_no rfl rfl (less_b g1) rfl rfl ?_
 refine sq_no rfl rfl (less_b g1) rfl rfl ?_
 refine sq_ev rfl (ev_pickF (v := .raw _) (less_b g1) J) ?_
 refine asr J rfl (sq_nil (aw_ret ?_))
 exact retQ_pure (v := .raw _) rfl rfl (Less.eq (by simp [inn, *]))
theorem rstage_pure (s : Sg) : APure Tryz.prog 24 [stA s] (B (stOK s)) := by
 refine apure_of (rs := [.tmp 2]) Tryz.func24 rfl rfl (Nat.le_of_ble_eq_true rfl) (by simp [AV.pureL, AV.pureB, AV.pureE, pureE_map]) (by first | rfl | (simp [AV.pureL, AV.pureB, AV.pureE, pureE_map])) fun e0 he0 => ?_
 refine aw_seq (aw_region (sq_box rfl J rfl (asr J rfl (sq_nil (aw_seq (aw_region (sq_ev rfl (ev_fieldAddr fo23_0 J) ?_)))))))
 refine sq_ev rfl (ev_load J rfl ty3 rfl) ?_
 refine sq_ev rfl (ev_call en89 J (rin_pure _ _ _) ⟨J, J, J, trivial⟩) ?_
 refine mvr J rfl ?_
 refine sq_split 6 J (fun g1 => ?_) (fun g1 => ?_)
 ·
  have g1' := g1
  try simp only [qq] at g1'
  refine sq_yes rfl rfl (less_b g1) rfl (ev_fieldAddr fo23_1 J) ?_
  refine sq_yes rfl rfl (less_b g1) rfl (ev_load J rfl ty3 rfl) ?_
  refine sq_yes rfl rfl (less_b g1) rfl (ev_call en89 J (rin_pure _ _ _) ⟨J, J, J, trivial⟩) ?_
  refine sq_ev rfl (ev_pickT (v := .raw _) (less_b g1) J) ?_
  refine mvr J rfl ?_
  refine sq_split 11 J (fun g2 => ?_) (fun g2 => ?_)
  ·
   have g2' := g2
   try simp only [qq] at g2'
   refine sq_yes rfl rfl (less_b g2) rfl (ev_fieldAddr fo23_2 J) ?_
   refine sq_yes rfl rfl (less_b g2) rfl (ev_load J rfl ty3 rfl) ?_
   refine sq_yes rfl rfl (less_b g2) rfl (ev_call en89 J (rin_pure _ _ _) ⟨J, J, J, trivial⟩) ?_
   refine sq_ev rfl (ev_pickT (v := .raw _) (less_b g2) J) ?_
   refine mvr J rfl ?_
   refine sq_split 16 J (fun g3 => ?_) (fun g3 => ?_)
   ·
    have g3' := g3
    try simp only [qq] at g3'
    refine sq_yes rfl rfl (less_b g3) rfl (ev_fieldAddr fo23_3 J) ?_
    refine sq_yes rfl rfl (less_b g3) rfl (ev_load J rfl ty3 rfl) ?_
    refine sq_yes rfl rfl (less_b g3) rfl (ev_call en89 J (rin_pure _ _ _) ⟨J, J, J, trivial⟩) ?_
    refine sq_ev rfl (ev_pickT (v := .raw _) (less_b g3) J) ?_
    refine mvr J rfl ?_
    refine sq_split 21 J (fun g4 => ?_) (fun g4 => ?_)
    ·
     have g4' := g4
     try simp only [qq] at g4'
     refine sq_yes rfl rfl (less_b g4) rfl (ev_fieldAddr fo23_4 J) ?_
     refine sq_yes rfl rfl (less_b g4) rfl (ev_load J rfl ty3 rfl) ?_
     refine sq_yes rfl rfl (less_b g4) rfl (ev_fieldAddr fo23_0 J) ?_
     refine sq_yes rfl rfl (less_b g4) rfl (ev_load J rfl ty3 rfl) ?_
     refine sq_yes rfl rfl (less_b g4) rfl (ev_call en89 J (rin_pure _ _ _) ⟨J, J, J, trivial⟩) ?_
     refine sq_ev rfl (ev_pickT (v := .raw _) (less_b g4) J) ?_
     refine mvr J rfl ?_
     refine sq_split 28 J (fun g5 => ?_) (fun g5 => ?_)
     ·
      have g5' := g5
      try simp only [qq] at g5'
      refine sq_yes rfl rfl (less_b g5) rfl (ev_fieldAddr fo23_5 J) ?_
      refine sq_yes rfl rfl (less_b g5) rfl (ev_load J rfl ty3 rfl) ?_
      refine sq_yes rfl rfl (less_b g5) rfl (ev_fieldAddr fo23_1 J) ?_
      refine sq_yes rfl rfl (less_b g5) rfl (ev_load J rfl ty3 rfl) ?_
      refine sq_yes rfl rfl (less_b g5) rfl (ev_call en89 J (rin_pure _ _ _) ⟨J, J, J, trivial⟩) ?_
      refine sq_ev rfl (ev_pickT (v := .raw _) (less_b g5) J) ?_
      refine asr J rfl (sq_nil (aw_ret ?_))
      exact retQ_pure (v := .raw _) rfl rfl (Less.eq (by simp [stOK, *]))
     have g5' := g5
     try simp only [qq] at g5'
     refine sq_no rfl rfl (less_b g5) rfl rfl ?_
     refine sq_no rfl rfl (less_b g5) rfl rfl ?_
     refine sq_no rfl rfl (less_b g5) rfl rfl ?_
     refine sq_no rfl rfl (less_b g5) rfl rfl ?_
     refine sq_no rfl rfl (less_b g5) rfl rfl ?_
     refine sq_ev rfl (ev_pickF (v := .raw _) (less_b g5) J) ?_
     refine asr J rfl (sq_nil (aw_ret ?_))
     exact retQ_pure (v := .raw _) rfl rfl (Less.eq (by simp [stOK, *]))
    have g4' := g4
    try simp only [qq] at g4'
    refine sq_no rfl rfl (less_b g4) rfl rfl ?_
    refine sq_no rfl rfl (less_b g4) rfl rfl ?_
    refine sq_no rfl rfl (less_b g4) rfl rfl ?_
    refine sq_no rfl rfl (less_b g4) rfl rfl ?_
    refine sq_no rfl rfl (less_b g4) rfl rfl ?_
    refine sq_ev rfl (ev_pickF (v := .raw _) (less_b g4) J) ?_
    refine mvr J rfl (sq_no rfl rfl J rfl rfl (sq_no rfl rfl J rfl rfl ?_))
    refine sq_no rfl rfl J rfl rfl (sq_no rfl rfl J rfl rfl (sq_no rfl rfl J rfl rfl (pf rfl J J (asr J rfl (sq_nil (aw_ret ?_))))))
    exact retQ_pure (v := .raw _) rfl rfl (Less.eq (by simp [stOK, *]))
   have g3' := g3
   try simp only [qq] at g3'
   refine sq_no rfl rfl (less_b g3) rfl rfl ?_
   refine sq_no rfl rfl (less_b g3) rfl rfl ?_
   refine sq_no rfl rfl (less_b g3) rfl rfl ?_
   refine sq_ev rfl (ev_pickF (v := .raw _) (less_b g3) J) ?_
   refine mvr J rfl (sq_no rfl rfl J rfl rfl (sq_no rfl rfl J rfl rfl ?_))
   refine sq_no rfl rfl J rfl rfl (sq_no rfl rfl J rfl rfl (sq_no rfl rfl J rfl rfl (pf rfl J J (mvr J rfl (sq_no rfl rfl J rfl rfl (sq_no rfl rfl J rfl rfl ?_))))))
   refine sq_no rfl rfl J rfl rfl (sq_no rfl rfl J rfl rfl (sq_no rfl rfl J rfl rfl (pf rfl J J (asr J rfl (sq_nil (aw_ret ?_))))))
   exact retQ_pure (v := .raw _) rfl rfl (Less.eq (by simp [stOK, *]))
  have g2' := g2
  try simp only [qq] at g2'
  refine sq_no rfl rfl (less_b g2) rfl rfl ?_
  refine sq_no rfl rfl (less_b g2) rfl rfl ?_
  refine sq_no rfl rfl (less_b g2) rfl rfl ?_
  refine sq_ev rfl (ev_pickF (v := .raw _) (less_b g2) J) ?_
  refine mvr J rfl ?_
  refine sq_no rfl rfl J rfl rfl (sq_no rfl rfl J rfl rfl (sq_no rfl rfl J rfl rfl (pf rfl J J (mvr J rfl (sq_no rfl rfl J rfl rfl (sq_no rfl rfl J rfl rfl ?_))))))
  refine sq_no rfl rfl J rfl rfl (sq_no rfl rfl J rfl rfl (sq_no rfl rfl J rfl rfl (pf rfl J J (mvr J rfl (sq_no rfl rfl J rfl rfl (sq_no rfl rfl J rfl rfl ?_))))))
  refine sq_no rfl rfl J rfl rfl (sq_no rfl rfl J rfl rfl (sq_no rfl rfl J rfl rfl (pf rfl J J (asr J rfl (sq_nil (aw_ret ?_))))))
  exact retQ_pure (v := .raw _) rfl rfl (Less.eq (by simp [stOK, *]))
 have g1' := g1
 try simp only [qq] at g1'
 refine sq_no rfl rfl (less_b g1) rfl rfl ?_
 refine sq_no rfl rfl (less_b g1) rfl rfl ?_
 refine sq_no rfl rfl (less_b g1) rfl rfl ?_
 refine sq_ev rfl (ev_pickF (v := .raw _) (less_b g1) J) ?_
 refine mvr J rfl (sq_no rfl rfl J rfl rfl (sq_no rfl rfl J rfl rfl (sq_no rfl rfl J rfl rfl (pf rfl J J (mvr J rfl ?_)))))
 refine sq_no rfl rfl J rfl rfl (sq_no rfl rfl J rfl rfl (sq_no rfl rfl J rfl rfl (pf rfl J J (mvr J rfl (sq_no rfl rfl J rfl rfl (sq_no rfl rfl J rfl rfl ?_))))))
 refine sq_no rfl rfl J rfl rfl (sq_no rfl rfl J rfl rfl (sq_no rfl rfl J rfl rfl (pf rfl J J (mvr J rfl (sq_no rfl rfl J rfl rfl (sq_no rfl rfl J rfl rfl ?_))))))
 refine sq_no rfl rfl J rfl rfl (sq_no rfl rfl J rfl rfl (sq_no rfl rfl J rfl rfl (pf rfl J J (asr J rfl (sq_nil (aw_ret ?_))))))
 exact retQ_pure (v := .raw _) rfl rfl (Less.eq (by simp [stOK, *]))
theorem rat_pure (x y : Int) : APure Tryz.prog 31 [I x, I y] (B (awayOK x && awayOK y)) := by
 refine apure_of (rs := [.tmp 4]) Tryz.func31 rfl rfl (Nat.le_of_ble_eq_true rfl) (by simp [AV.pureL, AV.pureB, AV.pureE, pureE_map]) (by first | rfl | (simp [AV.pureL, AV.pureB, AV.pureE, pureE_map])) fun e0 he0 => ?_
 refine aw_seq (aw_region (asr J rfl (sq_nil (aw_seq (aw_region (mvr J rfl (sq_ev rfl (ev_call en89 J (rin_pure _ _ _) ⟨J, J, J, trivial⟩) ?_)))))))
 refine mvr J rfl ?_
 refine sq_split 7 J (fun g1 => ?_) (fun g1 => ?_)
 ·
  have g1' := g1
  try simp only [qq] at g1'
  refine sq_yes rfl rfl (less_b g1) rfl (ev_mv (v := .raw _) J) ?_
  refine sq_yes rfl rfl (less_b g1) rfl (ev_call en89 J (rin_pure _ _ _) ⟨J, J, J, trivial⟩) ?_
  refine sq_ev rfl (ev_pickT (v := .raw _) (less_b g1) J) ?_
  refine asr J rfl (sq_nil (aw_ret ?_))
  exact retQ_pure (v := .raw _) rfl rfl (Less.eq (by simp [awayOK, *]))
 have g1' := g1
 try simp only [qq] at g1'
 refine sq_no rfl rfl (less_b g1) rfl rfl ?_
 refine sq_no rfl rfl (less_b g1) rfl rfl ?_
 refine sq_ev rfl (ev_pickF (v := .raw _) (less_b g1) J) ?_
 refine asr J rfl (sq_nil (aw_ret ?_))
 exact retQ_pure (v := .raw _) rfl rfl (Less.eq (by simp [awayOK, *]))
theorem rplace_pure (s : Sg) (p : Pc) (h : 2 ≤ s.far ∧ s.far ≤ 40) : APure Tryz.prog 26 [stA s, pcA p] (B (pcOK s p)) := by
 refine apure_of (rs := [.tmp 4]) Tryz.func26 rfl rfl (Nat.le_of_ble_eq_true rfl) (by simp [AV.pureL, AV.pureB, AV.pureE, pureE_map]) (by first | rfl | (simp [AV.pureL, AV.pureB, AV.pureE, pureE_map])) fun e0 he0 => ?_
 refine aw_seq (aw_region ?_)
 refine sq_box rfl J rfl (sq_box rfl J rfl (asr J rfl (sq_nil (aw_seq (aw_region (sq_ev rfl (ev_fieldAddr fo28_0 J) ?_))))))
 refine sq_ev rfl (ev_load J rfl ty3 rfl) ?_
 refine sq_ev rfl (ev_fieldAddr fo23_2 J) ?_
 refine sq_ev rfl (ev_load J rfl ty3 rfl) ?_
 refine sq_ev rfl (ev_sub J J (wr (by omega) (by omega))) ?_
 refine sq_ev rfl (ev_call en89 J (rin_pure _ _ _) ⟨J, J, J, trivial⟩) ?_
 refine mvr J rfl ?_
 refine sq_split 11 J (fun g1 => ?_) (fun g1 => ?_)
 ·
  have g1' := g1
  try simp only [qq] at g1'
  refine sq_yes rfl rfl (less_b g1) rfl (ev_fieldAddr fo28_1 J) ?_
  refine sq_yes rfl rfl (less_b g1) rfl (ev_load J rfl ty3 rfl) ?_
  refine sq_yes rfl rfl (less_b g1) rfl (ev_fieldAddr fo28_2 J) ?_
  refine sq_yes rfl rfl (less_b g1) rfl (ev_load J rfl ty3 rfl) ?_
  refine sq_yes rfl rfl (less_b g1) rfl (ev_call en31 J (rat_pure _ _) ⟨J, J, trivial⟩) ?_
  refine sq_ev rfl (ev_pickT (v := .raw _) (less_b g1) J) ?_
  refine asr J rfl (sq_nil (aw_ret ?_))
  exact retQ_pure (v := .raw _) rfl rfl (Less.eq (by simp [pcOK, Bool.and_assoc, *]))
 have g1' := g1
 try simp only [qq] at g1'
 refine sq_no rfl rfl (less_b g1) rfl rfl ?_
 refine sq_no rfl rfl (less_b g1) rfl rfl ?_
 refine sq_no rfl rfl (less_b g1) rfl rfl ?_
 refine sq_no rfl rfl (less_b g1) rfl rfl ?_
 refine sq_no rfl rfl (less_b g1) rfl rfl ?_
 refine sq_ev rfl (ev_pickF (v := .raw _) (less_b g1) J) ?_
 refine asr J rfl (sq_nil (aw_ret ?_))
 exact retQ_pure (v := .raw _) rfl rfl (Less.eq (by simp [pcOK, Bool.and_assoc, *]))
end Go.Proofs.YtmbknoaneglilaaGreatDoor
namespace Go.Proofs.YtmbknoaneglilaaGreatDoor
open Go Go.Ab Ni Ol
theorem ch_ok {c : UInt8} (h : (c.toNat : Int) = 35 ∨ (c.toNat : Int) = 46) : chOK c = true := by
  unfold chOK; simp only [decide_eq_true_eq]
  exact h.imp (fun h => UInt8.toNat_inj.1 (by show c.toNat = 35; omega)) (fun h => UInt8.toNat_inj.1 (by show c.toNat = 46; omega))
theorem ch_no {c : UInt8} (h : (c.toNat : Int) ≠ 35) (k : (c.toNat : Int) ≠ 46) : chOK c = false := by
  rw [Bool.eq_false_iff]; intro ho; unfold chOK at ho; simp only [decide_eq_true_eq] at ho
  rcases ho with e | e <;> (subst e; first | exact h rfl | exact k rfl)
theorem rfigure_pure (f : Fg) : APure Tryz.prog 25 [fgA f] (B (fgOK f)) := by
  refine apure_of (rs := [.tmp 2]) Tryz.func25 rfl rfl (Nat.le_of_ble_eq_true rfl) (by simp [AV.pureL, AV.pureB, AV.pureE, pureE_map]) (by first | rfl | (simp [AV.pureL, AV.pureB, AV.pureE, pureE_map])) fun e0 he0 => ?_
  refine aw_seq (aw_region ?_)
  refine sq_box rfl J rfl (asr J rfl (sq_nil (aw_seq (aw_seq (aw_region (sq_ev rfl (ev_fieldAddr fo26_0 J) ?_))))))
  refine sq_ev rfl (ev_load J rfl ty24 rfl) ?_
  refine sq_ev rfl (ev_len_map sl24 J) ?_
  refine sq_ev rfl (ev_call en89 J (rin_pure _ _ _) ⟨J, J, J, trivial⟩) ?_
  refine sq_ev rfl (ev_not J) ?_
  refine mvr J rfl ?_
  refine sq_split 11 J (fun g1_5 => ?_) (fun g1_5 => ?_)
  · skip
    have g1_5' := g1_5
    try simp only [qq] at g1_5'
    refine sq_no rfl rfl (less_b g1_5) rfl rfl ?_
    refine sq_no rfl rfl (less_b g1_5) rfl rfl ?_
    refine sq_no rfl rfl (less_b g1_5) rfl rfl ?_
    refine sq_no rfl rfl (less_b g1_5) rfl rfl ?_
    refine sq_no rfl rfl (less_b g1_5) rfl rfl ?_
    refine sq_no rfl rfl (less_b g1_5) rfl rfl ?_
    refine sq_no rfl rfl (less_b g1_5) rfl rfl ?_
    refine sq_ev rfl (ev_pickT (v := .raw _) (less_b g1_5) J) ?_
    refine sq_nil ?_
    refine aw_true J ?_
    refine aw_seq (aw_region (asr J rfl (sq_nil (aw_ret ?_))))
    exact retQ_pure (v := .raw _) rfl rfl (Less.eq (by unfold fgOK; simp_all))
  · skip
    have g1_5' := g1_5
    try simp only [qq] at g1_5'
    have h1 : inn f.length 1 6 = true := by simpa using g1_5
    have hlen : 1 ≤ f.length ∧ f.length ≤ 6 := by simp only [inn, Bool.and_eq_true, decide_eq_true_eq] at h1; omega
    have hw0 := w0_eq (f := f) (by omega)
    refine sq_yes rfl rfl (less_b g1_5) rfl (ev_fieldAddr fo26_0 J) ?_
    refine sq_yes rfl rfl (less_b g1_5) rfl (ev_load J rfl ty24 rfl) ?_
    refine sq_yes rfl rfl (less_b g1_5) rfl (ev_index_map (k := 0) sl24 J J rfl (by omega)) ?_
    refine sq_yes rfl rfl (less_b g1_5) rfl (ev_load_i J ty9 rfl) ?_
    refine sq_yes rfl rfl (less_b g1_5) rfl (ev_lenS Tryz.underlying9 J) ?_
    refine sq_yes rfl rfl (less_b g1_5) rfl (ev_call en89 J (rin_pure _ _ _) ⟨J, J, J, trivial⟩) ?_
    refine sq_yes rfl rfl (less_b g1_5) rfl (ev_not J) ?_
    refine sq_ev rfl (ev_pickF (v := .raw _) (less_b g1_5) J) ?_
    refine sq_nil ?_
    refine aw_cond J (fun c_19 => ?_) (fun c_19 => ?_)
    · skip
      have c_19' := c_19
      try simp only [qq] at c_19'
      refine aw_seq (aw_region (asr J rfl (sq_nil (aw_ret ?_))))
      exact retQ_pure (v := .raw _) rfl rfl (Less.eq (by unfold fgOK; rw [hw0]; simp_all))
    · skip
      have c_19' := c_19
      try simp only [qq] at c_19'
      have h2 : inn (w0 f) 1 6 = true := by rw [hw0]; simpa using c_19
      refine aw_skip (aw_seq (aw_region (asr J rfl ?_)))
      refine sq_nil (aw_seq (aw_seq (aw_region (asr J rfl (sq_nil (aw_block ?_))))))
      refine aw_loopk (ι := { k : Nat // k ≤ f.length ∧ ∀ i, (h : i < f.length) → i < k → fgRow (w0 f) f[i] = true }) [1] (fun i => [(3, B ((f.take i.1).any hasH)), (4, I i.1)]) (fun H i => H) (fun i => f.length - i.1) (⟨0, Nat.zero_le _, by omega⟩) ⟨J, J, J, trivial⟩ rfl ?_
      rintro ⟨k, hk, hok⟩
      dsimp only [keepS, St.put, sget, slotsOf, nn1, nn2, nn3, nn4, nn5, nn6, Nat.reduceBEq, Nat.reduceAdd, nn7, nn8]
      refine aw_seq (aw_seq (aw_region (mvr J rfl (sq_ev rfl (ev_fieldAddr fo26_0 J) ?_))))
      refine sq_ev rfl (ev_load J rfl ty24 rfl) ?_
      refine sq_ev rfl (ev_len_map sl24 J) ?_
      refine sq_ev rfl (ev_lss J J) ?_
      refine sq_nil ?_
      refine aw_cond J (fun c_24 => ?_) (fun c_24 => ?_)
      · skip
        have c_24' := c_24
        try simp only [qq] at c_24'
        refine aw_skip (aw_seq (aw_block (aw_seq (aw_seq ?_))))
        refine aw_draw 12 mo (by kernel_rfl) ?_
        refine dr_ev rfl (ev_fieldAddr fo26_0 J) ?_
        refine dr_ev rfl (ev_load J rfl ty24 rfl) ?_
        refine dr_ev rfl (ev_mv (v := .raw _) J) ?_
        refine dr_ev rfl (ev_index_map sl24 J J rfl (by omega)) ?_
        refine dr_ev rfl (ev_load_i J ty9 rfl) ?_
        refine dr_ev rfl (ev_lenS Tryz.underlying9 J) ?_
        refine dr_ev rfl (ev_fieldAddr fo26_0 J) ?_
        refine dr_ev rfl (ev_load J rfl ty24 rfl) ?_
        refine dr_ev rfl (ev_index_map (k := 0) sl24 J J rfl (by omega)) ?_
        refine dr_ev rfl (ev_load_i J ty9 rfl) ?_
        refine dr_ev rfl (ev_lenS Tryz.underlying9 J) ?_
        refine dr_ev rfl (ev_neq J J) ?_
        refine dr_end (sq_nil ?_)
        refine aw_cond J (fun c_38 => ?_) (fun c_38 => ?_)
        · skip
          have c_38' := c_38
          try simp only [qq] at c_38'
          refine aw_seq (aw_region (asr J rfl (sq_nil (aw_ret ?_))))
          exact retQ_pure (v := .raw _) rfl rfl (Less.eq (by rw [fg_row_bad (k := k) (by omega) (fgRow_len (by rw [hw0]; omega))]))
        · skip
          have c_38' := c_38
          try simp only [qq] at c_38'
          have hlk : f[k].length ≤ 6 := by simp only [inn, Bool.and_eq_true, decide_eq_true_eq] at h2; omega
          refine aw_skip (aw_seq (aw_region (asr J rfl (sq_nil (aw_block ?_)))))
          refine aw_loopk (ι := { j : Nat // j ≤ f[k].length ∧ ∀ i, (h : i < f[k].length) → i < j → chOK f[k][i] = true }) [1, 4] (fun q => [(3, B ((f.take k).any hasH || (f[k].take q.1).any fun c => decide (c = 35))), (5, I q.1)]) (fun H q => H) (fun q => f[k].length - q.1) (⟨0, Nat.zero_le _, by omega⟩) ⟨(Less.eq (by show B ((f.take k).any hasH) = _; simp)), J, J, J, trivial⟩ rfl ?_
          rintro ⟨j, hj, hoj⟩
          dsimp only [keepS, St.put, sget, slotsOf, nn1, nn2, nn3, nn4, nn5, nn6, Nat.reduceBEq, Nat.reduceAdd, nn7, nn8]
          refine aw_seq (aw_seq (aw_region (mvr J rfl (sq_ev rfl (ev_fieldAddr fo26_0 J) ?_))))
          refine sq_ev rfl (ev_load J rfl ty24 rfl) ?_
          refine mvr J rfl (sq_ev rfl (ev_index_map sl24 J J rfl (by omega)) ?_)
          refine sq_ev rfl (ev_load_i J ty9 rfl) ?_
          refine sq_ev rfl (ev_lenS Tryz.underlying9 J) ?_
          refine sq_ev rfl (ev_lss J J) ?_
          refine sq_nil ?_
          refine aw_cond J (fun c_46 => ?_) (fun c_46 => ?_)
          · skip
            have c_46' := c_46
            try simp only [qq] at c_46'
            have hk' : j < f[k].length := by omega
            have eC := any_take (q := fun c => decide (c = 35)) (l := f[k]) (k := j) hk'
            refine aw_skip (aw_seq (aw_block (aw_seq (aw_seq (aw_region (sq_ev rfl (ev_fieldAddr fo26_0 J) ?_))))))
            refine sq_ev rfl (ev_load J rfl ty24 rfl) ?_
            refine mvr J rfl (sq_ev rfl (ev_index_map sl24 J J rfl (by omega)) ?_)
            refine sq_ev rfl (ev_load_i J ty9 rfl) ?_
            refine mvr J rfl (sq_ev rfl (ev_idxS Tryz.underlying9 J J rfl (by omega)) ?_)
            refine sq_ev rfl (ev_neq J J) ?_
            refine mvr J rfl ?_
            refine sq_split 57 J (fun g12_8 => ?_) (fun g12_8 => ?_)
            · skip
              have g12_8' := g12_8
              try simp only [qq] at g12_8'
              refine sq_yes rfl rfl (less_b g12_8) rfl (ev_fieldAddr fo26_0 J) ?_
              refine sq_yes rfl rfl (less_b g12_8) rfl (ev_load J rfl ty24 rfl) ?_
              refine sq_yes rfl rfl (less_b g12_8) rfl (ev_mv (v := .raw _) J) ?_
              refine sq_yes rfl rfl (less_b g12_8) rfl (ev_index_map sl24 J J rfl (by omega)) ?_
              refine sq_yes rfl rfl (less_b g12_8) rfl (ev_load_i J ty9 rfl) ?_
              refine sq_yes rfl rfl (less_b g12_8) rfl (ev_mv (v := .raw _) J) ?_
              refine sq_yes rfl rfl (less_b g12_8) rfl (ev_idxS Tryz.underlying9 J J rfl (by omega)) ?_
              refine sq_yes rfl rfl (less_b g12_8) rfl (ev_neq J J) ?_
              refine sq_ev rfl (ev_pickT (v := .raw _) (less_b g12_8) J) ?_
              refine sq_nil ?_
              refine aw_cond J (fun c_66 => ?_) (fun c_66 => ?_)
              · skip
                have c_66' := c_66
                try simp only [qq] at c_66'
                refine aw_seq (aw_region (asr J rfl (sq_nil (aw_ret ?_))))
                exact retQ_pure (v := .raw _) rfl rfl (Less.eq (by rw [fg_row_bad (k := k) (by omega) (fgRow_ch (j := j) hk' (ch_no g12_8' c_66'))]))
              · skip
                have c_66' := c_66
                try simp only [qq] at c_66'
                have hch : chOK f[k][j] = true := ch_ok (.inr (by simpa using c_66))
                refine aw_skip (aw_region (mvr J rfl (mvr J rfl ?_)))
                refine sq_split 68 J (fun g14_1 => ?_) (fun g14_1 => ?_)
                · skip
                  have g14_1' := g14_1
                  try simp only [qq] at g14_1'
                  have eF : B true = B ((f.take k).any hasH || (f[k].take (j + 1)).any fun c => decide (c = 35)) := by rw [eC, ← Bool.or_assoc, g14_1]; rfl
                  refine sq_no rfl rfl (less_b g14_1) rfl rfl ?_
                  refine sq_no rfl rfl (less_b g14_1) rfl rfl ?_
                  refine sq_no rfl rfl (less_b g14_1) rfl rfl ?_
                  refine sq_no rfl rfl (less_b g14_1) rfl rfl ?_
                  refine sq_no rfl rfl (less_b g14_1) rfl rfl ?_
                  refine sq_no rfl rfl (less_b g14_1) rfl rfl ?_
                  refine sq_no rfl rfl (less_b g14_1) rfl rfl ?_
                  refine sq_no rfl rfl (less_b g14_1) rfl rfl ?_
                  refine sq_ev rfl (ev_pickT (v := .raw _) (less_b g14_1) J) ?_
                  refine asr J rfl (sq_nil (aw_region (mvr J rfl (sq_ev rfl (ev_add J J (wr (by omega) (by omega))) ?_))))
                  refine asr J rfl (sq_nil ?_)
                  exact ⟨⟨j + 1, by omega, fun i h hi => (by by_cases e : i = j; (subst e; exact hch); exact hoj i h (by omega))⟩, by simp only; omega, Sub.slots ⟨(Less.eq eF), J, J, J, trivial⟩⟩
                · skip
                  have g14_1' := g14_1
                  try simp only [qq] at g14_1'
                  have eF : B (decide (((f[k][j]).toNat : Int) = 35)) = B ((f.take k).any hasH || (f[k].take (j + 1)).any fun c => decide (c = 35)) := by rw [eC, ← Bool.or_assoc, g14_1, dec35]; rfl
                  refine sq_yes rfl rfl (less_b g14_1) rfl (ev_fieldAddr fo26_0 J) ?_
                  refine sq_yes rfl rfl (less_b g14_1) rfl (ev_load J rfl ty24 rfl) ?_
                  refine sq_yes rfl rfl (less_b g14_1) rfl (ev_mv (v := .raw _) J) ?_
                  refine sq_yes rfl rfl (less_b g14_1) rfl (ev_index_map sl24 J J rfl (by omega)) ?_
                  refine sq_yes rfl rfl (less_b g14_1) rfl (ev_load_i J ty9 rfl) ?_
                  refine sq_yes rfl rfl (less_b g14_1) rfl (ev_mv (v := .raw _) J) ?_
                  refine sq_yes rfl rfl (less_b g14_1) rfl (ev_idxS Tryz.underlying9 J J rfl (by omega)) ?_
                  refine sq_yes rfl rfl (less_b g14_1) rfl (ev_eql J J) ?_
                  refine sq_ev rfl (ev_pickF (v := .raw _) (less_b g14_1) J) ?_
                  refine asr J rfl (sq_nil (aw_region (mvr J rfl (sq_ev rfl (ev_add J J (wr (by omega) (by omega))) ?_))))
                  refine asr J rfl (sq_nil ?_)
                  exact ⟨⟨j + 1, by omega, fun i h hi => (by by_cases e : i = j; (subst e; exact hch); exact hoj i h (by omega))⟩, by simp only; omega, Sub.slots ⟨(Less.eq eF), J, J, J, trivial⟩⟩
            · skip
              have g12_8' := g12_8
              try simp only [qq] at g12_8'
              have hch : chOK f[k][j] = true := ch_ok (.inl (by simpa using g12_8))
              refine sq_no rfl rfl (less_b g12_8) rfl rfl ?_
              refine sq_no rfl rfl (less_b g12_8) rfl rfl ?_
              refine sq_no rfl rfl (less_b g12_8) rfl rfl ?_
              refine sq_no rfl rfl (less_b g12_8) rfl rfl ?_
              refine sq_no rfl rfl (less_b g12_8) rfl rfl ?_
              refine sq_no rfl rfl (less_b g12_8) rfl rfl ?_
              refine sq_no rfl rfl (less_b g12_8) rfl rfl ?_
              refine sq_no rfl rfl (less_b g12_8) rfl rfl ?_
              refine sq_ev rfl (ev_pickF (v := .raw _) (less_b g12_8) J) ?_
              refine sq_nil ?_
              refine aw_false J ?_
              refine aw_skip (aw_region (mvr J rfl (mvr J rfl ?_)))
              refine sq_split 68 J (fun g14_1 => ?_) (fun g14_1 => ?_)
              · skip
                have g14_1' := g14_1
                try simp only [qq] at g14_1'
                have eF : B true = B ((f.take k).any hasH || (f[k].take (j + 1)).any fun c => decide (c = 35)) := by rw [eC, ← Bool.or_assoc, g14_1]; rfl
                refine sq_no rfl rfl (less_b g14_1) rfl rfl ?_
                refine sq_no rfl rfl (less_b g14_1) rfl rfl ?_
                refine sq_no rfl rfl (less_b g14_1) rfl rfl ?_
                refine sq_no rfl rfl (less_b g14_1) rfl rfl ?_
                refine sq_no rfl rfl (less_b g14_1) rfl rfl ?_
                refine sq_no rfl rfl (less_b g14_1) rfl rfl ?_
                refine sq_no rfl rfl (less_b g14_1) rfl rfl ?_
                refine sq_no rfl rfl (less_b g14_1) rfl rfl ?_
                refine sq_ev rfl (ev_pickT (v := .raw _) (less_b g14_1) J) ?_
                refine asr J rfl (sq_nil (aw_region (mvr J rfl (sq_ev rfl (ev_add J J (wr (by omega) (by omega))) ?_))))
                refine asr J rfl (sq_nil ?_)
                exact ⟨⟨j + 1, by omega, fun i h hi => (by by_cases e : i = j; (subst e; exact hch); exact hoj i h (by omega))⟩, by simp only; omega, Sub.slots ⟨(Less.eq eF), J, J, J, trivial⟩⟩
              · skip
                have g14_1' := g14_1
                try simp only [qq] at g14_1'
                have eF : B (decide (((f[k][j]).toNat : Int) = 35)) = B ((f.take k).any hasH || (f[k].take (j + 1)).any fun c => decide (c = 35)) := by rw [eC, ← Bool.or_assoc, g14_1, dec35]; rfl
                refine sq_yes rfl rfl (less_b g14_1) rfl (ev_fieldAddr fo26_0 J) ?_
                refine sq_yes rfl rfl (less_b g14_1) rfl (ev_load J rfl ty24 rfl) ?_
                refine sq_yes rfl rfl (less_b g14_1) rfl (ev_mv (v := .raw _) J) ?_
                refine sq_yes rfl rfl (less_b g14_1) rfl (ev_index_map sl24 J J rfl (by omega)) ?_
                refine sq_yes rfl rfl (less_b g14_1) rfl (ev_load_i J ty9 rfl) ?_
                refine sq_yes rfl rfl (less_b g14_1) rfl (ev_mv (v := .raw _) J) ?_
                refine sq_yes rfl rfl (less_b g14_1) rfl (ev_idxS Tryz.underlying9 J J rfl (by omega)) ?_
                refine sq_yes rfl rfl (less_b g14_1) rfl (ev_eql J J) ?_
                refine sq_ev rfl (ev_pickF (v := .raw _) (less_b g14_1) J) ?_
                refine asr J rfl (sq_nil (aw_region (mvr J rfl (sq_ev rfl (ev_add J J (wr (by omega) (by omega))) ?_))))
                refine asr J rfl (sq_nil ?_)
                exact ⟨⟨j + 1, by omega, fun i h hi => (by by_cases e : i = j; (subst e; exact hch); exact hoj i h (by omega))⟩, by simp only; omega, Sub.slots ⟨(Less.eq eF), J, J, J, trivial⟩⟩
          · skip
            have c_46' := c_46
            try simp only [qq] at c_46'
            refine aw_exit (aw_region (mvr J rfl (sq_ev rfl (ev_add J J (wr (by omega) (by omega))) ?_)))
            refine asr J rfl (sq_nil ?_)
            have hgood : fgRow (w0 f) f[k] = true := fgRow_ok (by omega) (fun i h => hoj i h (by omega))
            have eA := any_take (q := hasH) (l := f) (k := k) (by omega)
            have eB : hasH f[k] = (f[k].take j).any (fun c => decide (c = 35)) := by unfold hasH; rw [List.take_of_length_le (by omega)]
            exact ⟨⟨k + 1, by omega, fun i h hi => (by by_cases e : i = k; (subst e; exact hgood); exact hok i h (by omega))⟩, by simp only; omega, Sub.slots ⟨(Less.eq (show B ((f.take k).any hasH || (f[k].take j).any fun c => decide (c = 35)) = _ by rw [eA, eB])), J, J, trivial⟩⟩
      · skip
        have c_24' := c_24
        try simp only [qq] at c_24'
        refine aw_exit (aw_seq (aw_region (mvr J rfl (asr J rfl (sq_nil (aw_ret ?_))))))
        exact retQ_pure (v := .raw _) rfl rfl (Less.eq (by rw [fg_end h1 h2 (fun i h => hok i h (by omega)), show k = f.length by omega, List.take_length]))
end Go.Proofs.YtmbknoaneglilaaGreatDoor
namespace Go.Proofs.YtmbknoaneglilaaGreatDoor
open Go Go.Ab Ni Ol
theorem fitsE_pure (c : Ca) : APure Tryz.prog 60 [stA c.s, fgA c.f, pcA c.p] (.tup [B (caOK c && c.fits), I (er (caOK c))]) := by
 refine apure_of (rs := [.tmp 6, .tmp 7]) Tryz.func60 rfl rfl (Nat.le_of_ble_eq_true rfl) (by simp [AV.pureL, AV.pureB, AV.pureE, pureE_map]) (by first | rfl | (simp [AV.pureL, AV.pureB, AV.pureE, pureE_map])) fun e0 he0 => ?_
 refine aw_seq (aw_region (sq_box rfl J rfl (sq_box rfl J rfl ?_)))
 refine sq_box rfl J rfl (asr J rfl (asr J rfl (sq_nil (aw_seq (aw_region (sq_ev rfl (ev_load_agg J rfl ty23 rfl) ?_))))))
 refine sq_ev rfl (ev_load_agg J rfl ty26 rfl) ?_
 refine sq_ev rfl (ev_load_agg J rfl ty28 rfl) ?_
 refine sq_ev rfl (ev_call en97 J (casting_pure c) ⟨J, J, J, trivial⟩) ?_
 refine sq_ev rfl (ev_mv (v := .tup _) J) ?_
 refine xtr rfl J rfl (xtr rfl J rfl ?_)
 refine sq_alloc rfl z139 ?_
 refine sq_store rfl J J rfl rfl ty139 rfl rfl ?_
 refine asr J rfl (sq_nil (aw_seq (aw_seq (aw_region (mvr J rfl (sq_ev rfl (ev_not J) ?_))))))
 refine sq_nil ?_
 refine aw_cond J (fun c_18 => ?_) (fun c_18 => ?_)
 ·
  have c_18' := c_18
  try simp only [qq] at c_18'
  have hok : caOK c = false := by simpa using c_18
  refine aw_seq (aw_region (asr J rfl (asr J rfl (sq_nil (aw_ret ?_)))))
  exact retQ_pure (v := .tup [.raw _, .raw _]) rfl rfl (less_tup ⟨less_b (by simp [*]), less_int (by simp [er, *]), trivial⟩)
 have c_18' := c_18
 try simp only [qq] at c_18'
 have hok : caOK c = true := by simpa using c_18
 have hc := caOK_B hok
 refine aw_skip (aw_seq (aw_region (sq_ev rfl (ev_load_agg J rfl ty139 rfl) ?_)))
 refine sq_ev rfl (ev_call en129 J (fits_pure hc) ⟨J, trivial⟩) ?_
 refine asr J rfl (asr J rfl (sq_nil (aw_ret ?_)))
 exact retQ_pure (v := .tup [.raw _, .raw _]) rfl rfl (less_tup ⟨less_b (by simp [*]), less_int (by simp [er, *]), trivial⟩)
end Go.Proofs.YtmbknoaneglilaaGreatDoor
namespace Go.Proofs.YtmbknoaneglilaaGreatDoor
open Go Go.Ab Ni Ol
theorem en23 : Ent Tryz.prog 23 := Ent.of Tryz.func23 (by kernel_rfl) rfl
theorem en24 : Ent Tryz.prog 24 := Ent.of Tryz.func24 (by kernel_rfl) rfl
theorem en25 : Ent Tryz.prog 25 := Ent.of Tryz.func25 (by kernel_rfl) rfl
theorem en26 : Ent Tryz.prog 26 := Ent.of Tryz.func26 (by kernel_rfl) rfl
theorem en29 : Ent Tryz.prog 29 := Ent.of Tryz.func29 (by kernel_rfl) rfl
theorem en37 : Ent Tryz.prog 37 := Ent.of Tryz.func37 (by kernel_rfl) rfl
theorem en41 : Ent Tryz.prog 41 := Ent.of Tryz.func41 (by kernel_rfl) rfl
theorem en42 : Ent Tryz.prog 42 := Ent.of Tryz.func42 (by kernel_rfl) rfl
theorem allT_no {α : Type} {q : α → Bool} {l : List α} {n i : Nat} (hi : i < l.length) (hn : i < n) (h : q l[i] = false) : (l.take n).all q = false := by
  rw [List.all_eq_false]
  have hm : i < (l.take n).length := by rw [List.length_take]; omega
  exact ⟨(l.take n)[i], List.getElem_mem hm, by rw [List.getElem_take, h]; simp⟩
theorem allT_yes {α : Type} {q : α → Bool} {l : List α} {n : Nat} (h : ∀ i, (hi : i < l.length) → i < n → q l[i] = true) : (l.take n).all q = true := by
  rw [List.all_eq_true]
  intro x hx
  obtain ⟨i, hi, rfl⟩ := List.getElem_of_mem hx
  rw [List.length_take] at hi
  rw [List.getElem_take]; exact h i (by omega) (by omega)
def shortB (l : List (List UInt8)) : Bool := (l.take 20).all (fun r => decide (r.length ≤ 20)) && decide (l.length ≤ 18)
def wholeB (s : Sg) (c : List (List UInt8)) : Bool := siOK s c && decide (cnt 63 c = 0)
theorem short_pure (l : List (List UInt8)) : APure Tryz.prog 23 [strs l] (B (shortB l)) := by
  refine apure_of (rs := [.tmp 2]) Tryz.func23 rfl rfl (Nat.le_of_ble_eq_true rfl) (by simp [AV.pureL, AV.pureB, AV.pureE, pureE_map]) (by first | rfl | (simp [AV.pureL, AV.pureB, AV.pureE, pureE_map])) fun e0 he0 => ?_
  refine aw_seq (aw_region (asr J rfl ?_))
  refine sq_nil (aw_seq (aw_seq (aw_region (asr J rfl (sq_nil (aw_block ?_))))))
  refine aw_loopk (ι := { k : Nat // k ≤ l.length ∧ k ≤ 20 ∧ ∀ i, (h : i < l.length) → i < k → decide (l[i].length ≤ 20) = true }) [0] (fun g => [(3, I g.1)]) (fun H g => H) (fun g => 20 - g.1) (⟨0, Nat.zero_le _, by omega, by omega⟩) ⟨J, J, trivial⟩ rfl ?_
  rintro ⟨k, hk, hok⟩
  dsimp only [keepS, St.put, sget, slotsOf, nn1, nn2, nn3, nn4, nn5, nn6, Nat.reduceBEq, Nat.reduceAdd, nn7, nn8]
  refine aw_seq (aw_seq (aw_region (mvr J rfl (mvs rfl J (sq_ev rfl (ev_len_map sl24 J) ?_)))))
  refine sq_ev rfl (ev_lss J J) ?_
  refine mvr J rfl ?_
  refine sq_split 8 J (fun g2_4 => ?_) (fun g2_4 => ?_)
  · skip
    have g2_4' := g2_4
    try simp only [qq] at g2_4'
    have hkL : k < l.length := by omega
    refine sq_yes rfl rfl (less_b g2_4) rfl (ev_mv (v := .raw _) J) ?_
    refine sq_yes rfl rfl (less_b g2_4) rfl (ev_lss J J) ?_
    refine sq_ev rfl (ev_pickT (v := .raw _) (less_b g2_4) J) ?_
    refine sq_nil ?_
    refine aw_cond J (fun c_11 => ?_) (fun c_11 => ?_)
    · skip
      have c_11' := c_11
      try simp only [qq] at c_11'
      refine aw_skip (aw_seq (aw_block (aw_seq (aw_region (mvs rfl J (mvr J rfl (sq_ev rfl (ev_index_map sl24 J J rfl (by omega)) ?_)))))))
      refine sq_ev rfl (ev_load_i J ty9 rfl) ?_
      refine sq_ev rfl (ev_lenS Tryz.underlying9 J) ?_
      refine sq_ev rfl (ev_gtr J J) ?_
      refine sq_nil ?_
      refine aw_cond J (fun c_19 => ?_) (fun c_19 => ?_)
      · skip
        have c_19' := c_19
        try simp only [qq] at c_19'
        refine aw_seq (aw_region (asr J rfl (sq_nil (aw_ret ?_))))
        exact retQ_pure (v := .raw _) rfl rfl (Less.eq (by rw [shortB, allT_no (i := k) (n := 20) hkL (by omega) (by simp only [decide_eq_false_iff_not]; omega)]; rfl))
      · skip
        have c_19' := c_19
        try simp only [qq] at c_19'
        refine aw_skip (aw_region (mvr J rfl (sq_ev rfl (ev_add J J (wr (by omega) (by omega))) ?_)))
        refine asr J rfl (sq_nil ?_)
        have hgood : decide (l[k].length ≤ 20) = true := by simp only [decide_eq_true_eq]; omega
        exact ⟨⟨k + 1, by omega, by omega, fun i h hi => (by by_cases e : i = k; (subst e; exact hgood); exact hok.2 i h (by omega))⟩, by simp only; omega, Sub.slots ⟨J, J, trivial⟩⟩
    · skip
      have c_11' := c_11
      try simp only [qq] at c_11'
      refine aw_exit (aw_seq (aw_region (mvs rfl J (sq_ev rfl (ev_len_map sl24 J) ?_))))
      refine sq_ev rfl (ev_leq J J) ?_
      refine asr J rfl (sq_nil (aw_ret ?_))
      exact retQ_pure (v := .raw _) rfl rfl (Less.eq (by rw [shortB, allT_yes (n := 20) (fun i h hi => hok.2 i h (by omega))]; simp; omega))
  · skip
    have g2_4' := g2_4
    try simp only [qq] at g2_4'
    refine sq_no rfl rfl (less_b g2_4) rfl rfl ?_
    refine sq_no rfl rfl (less_b g2_4) rfl rfl ?_
    refine sq_ev rfl (ev_pickF (v := .raw _) (less_b g2_4) J) ?_
    refine sq_nil ?_
    refine aw_false J ?_
    refine aw_exit (aw_seq (aw_region (mvs rfl J (sq_ev rfl (ev_len_map sl24 J) ?_))))
    refine sq_ev rfl (ev_leq J J) ?_
    refine asr J rfl (sq_nil (aw_ret ?_))
    exact retQ_pure (v := .raw _) rfl rfl (Less.eq (by rw [shortB, allT_yes (n := 20) (fun i h hi => hok.2 i h (by omega))]; simp; omega))
theorem rsight_pure (s : Sg) (l : List (List UInt8)) (hs : shp l) : APure Tryz.prog 37 [stA s, strs l] (B (siOK s l)) := by
 refine apure_of (rs := [.tmp 4]) Tryz.func37 rfl rfl (Nat.le_of_ble_eq_true rfl) (by simp [AV.pureL, AV.pureB, AV.pureE, pureE_map]) (by first | rfl | (simp [AV.pureL, AV.pureB, AV.pureE, pureE_map])) fun e0 he0 => ?_
 refine aw_seq (aw_region (sq_box rfl J rfl ?_))
 refine asr J rfl (sq_nil (aw_seq (aw_seq (aw_region (mvs rfl J (sq_ev rfl (ev_len_map sl24 J) ?_))))))
 refine sq_ev rfl (ev_fieldAddr fo23_1 J) ?_
 refine sq_ev rfl (ev_load J rfl ty3 rfl) ?_
 refine sq_ev rfl (ev_neq J J) ?_
 refine sq_nil ?_
 refine aw_cond J (fun c_12 => ?_) (fun c_12 => ?_)
 ·
  have c_12' := c_12
  try simp only [qq] at c_12'
  refine aw_seq (aw_region (asr J rfl (sq_nil (aw_ret ?_))))
  exact retQ_pure (v := .raw _) rfl rfl (Less.eq (by unfold siOK; rw [decide_eq_false c_12']; rfl))
 have c_12' := c_12
 try simp only [qq] at c_12'
 have hlen : (l.length : Int) = s.high := by omega
 refine aw_skip (aw_seq (aw_seq (aw_region (asr J rfl (sq_nil (aw_block ?_))))))
 refine aw_loopk (ι := { m : Nat // m ≤ l.length ∧ ∀ i, (h : i < l.length) → i < m → siRow s.wide l[i] = true }) [1, 2] (fun g => [(5, I g.1)]) (fun H g => H) (fun g => l.length - g.1) (⟨0, Nat.zero_le _, by omega⟩) ⟨J, J, J, trivial⟩ rfl ?_
 rintro ⟨m, hm, hok⟩
 dsimp only [keepS, St.put, sget, slotsOf, nn1, nn2, nn3, nn4, nn5, nn6, Nat.reduceBEq, Nat.reduceAdd, nn7, nn8]
 have hs1 := hs.1
 refine aw_seq (aw_seq (aw_region (mvr J rfl (mvs rfl J (sq_ev rfl (ev_len_map sl24 J) ?_)))))
 refine sq_ev rfl (ev_lss J J) ?_
 refine sq_nil ?_
 refine aw_cond J (fun c_16 => ?_) (fun c_16 => ?_)
 ·
  have c_16' := c_16
  try simp only [qq] at c_16'
  have hmL : m < l.length := by omega
  have hrl := hs.2 _ (List.getElem_mem hmL)
  refine aw_skip (aw_seq (aw_block (aw_seq (aw_seq ?_))))
  refine aw_draw 8 mo (by kernel_rfl) ?_
  refine dr_ev rfl (ev_mv (v := .sl _ _) J) ?_
  refine dr_ev rfl (ev_mv (v := .raw _) J) ?_
  refine dr_ev rfl (ev_index_map sl24 J J rfl (by omega)) ?_
  refine dr_ev rfl (ev_load_i J ty9 rfl) ?_
  refine dr_ev rfl (ev_lenS Tryz.underlying9 J) ?_
  refine dr_ev rfl (ev_fieldAddr fo23_0 J) ?_
  refine dr_ev rfl (ev_load J rfl ty3 rfl) ?_
  refine dr_ev rfl (ev_neq J J) ?_
  refine dr_end (sq_nil ?_)
  refine aw_cond J (fun c_26 => ?_) (fun c_26 => ?_)
  ·
   have c_26' := c_26
   try simp only [qq] at c_26'
   refine aw_seq (aw_region (asr J rfl (sq_nil (aw_ret ?_))))
   exact retQ_pure (v := .raw _) rfl rfl (Less.eq (by rw [siOK_bad hmL (by rw [siRow_eq, decide_eq_false (by simpa using c_26')]; rfl)]))
  have c_26' := c_26
  try simp only [qq] at c_26'
  refine aw_skip (aw_seq (aw_region (asr J rfl (sq_nil (aw_block ?_)))))
  refine aw_loopk (ι := { k : Nat // k ≤ l[m].length ∧ ∀ i, (h : i < l[m].length) → i < k → sBad l[m][i] = false }) [1, 2, 5] (fun g => [(6, I g.1)]) (fun H g => H) (fun g => l[m].length - g.1) (⟨0, Nat.zero_le _, by omega⟩) ⟨J, J, J, J, trivial⟩ rfl ?_
  rintro ⟨k, hk, hok2⟩
  dsimp only [keepS, St.put, sget, slotsOf, nn1, nn2, nn3, nn4, nn5, nn6, Nat.reduceBEq, Nat.reduceAdd, nn7, nn8]
  refine aw_seq (aw_seq (aw_region (mvr J rfl (mvs rfl J (mvr J rfl (sq_ev rfl (ev_index_map sl24 J J rfl (by omega)) ?_))))))
  refine sq_ev rfl (ev_load_i J ty9 rfl) ?_
  refine sq_ev rfl (ev_lenS Tryz.underlying9 J) ?_
  refine sq_ev rfl (ev_lss J J) ?_
  refine sq_nil ?_
  refine aw_cond J (fun c_33 => ?_) (fun c_33 => ?_)
  ·
   have c_33' := c_33
   try simp only [qq] at c_33'
   have hkL : k < l[m].length := by omega
   refine aw_skip (aw_seq (aw_block (aw_seq (aw_region (mvs rfl J (mvr J rfl (sq_ev rfl (ev_index_map sl24 J J rfl (by omega)) ?_)))))))
   refine sq_ev rfl (ev_load_i J ty9 rfl) ?_
   refine mvr J rfl (sq_ev rfl (ev_idxS Tryz.underlying9 J J rfl (by omega)) ?_)
   refine asr J rfl (sq_nil (aw_seq (aw_region (mvr J rfl (sq_ev rfl (ev_neq J J) ?_)))))
   refine mvr J rfl ?_
   refine sq_split 44 J (fun g12_2 => ?_) (fun g12_2 => ?_)
   ·
    have g12_2' := g12_2
    try simp only [qq] at g12_2'
    refine sq_yes rfl rfl (less_b g12_2) rfl (ev_mv (v := .raw _) J) ?_
    refine sq_yes rfl rfl (less_b g12_2) rfl (ev_neq J J) ?_
    refine sq_ev rfl (ev_pickT (v := .raw _) (less_b g12_2) J) ?_
    refine mvr J rfl ?_
    refine sq_split 48 J (fun g12_6 => ?_) (fun g12_6 => ?_)
    ·
     have g12_6' := g12_6
     try simp only [qq] at g12_6'
     refine sq_yes rfl rfl (less_b g12_6) rfl (ev_mv (v := .raw _) J) ?_
     refine sq_yes rfl rfl (less_b g12_6) rfl (ev_neq J J) ?_
     refine sq_ev rfl (ev_pickT (v := .raw _) (less_b g12_6) J) ?_
     refine mvr J rfl ?_
     refine sq_split 52 J (fun g12_10 => ?_) (fun g12_10 => ?_)
     ·
      have g12_10' := g12_10
      try simp only [qq] at g12_10'
      refine sq_yes rfl rfl (less_b g12_10) rfl (ev_mv (v := .raw _) J) ?_
      refine sq_yes rfl rfl (less_b g12_10) rfl (ev_neq J J) ?_
      refine sq_ev rfl (ev_pickT (v := .raw _) (less_b g12_10) J) ?_
      refine sq_nil ?_
      refine aw_cond J (fun c_55 => ?_) (fun c_55 => ?_)
      ·
       have c_55' := c_55
       try simp only [qq] at c_55'
       refine aw_seq (aw_region (asr J rfl (sq_nil (aw_ret ?_))))
       exact retQ_pure (v := .raw _) rfl rfl (Less.eq (by rw [siOK_bad hmL (by rw [siRow_eq, List.any_eq_true.2 ⟨_, List.getElem_mem hkL, by rw [sBad_eq]; simp only [dec35n, dec43n, dec46n, dec63n] at *; simp_all⟩]; simp)]))
      have c_55' := c_55
      try simp only [qq] at c_55'
      refine aw_skip (aw_region (mvr J rfl (sq_ev rfl (ev_add J J (wr (by omega) (by omega))) ?_)))
      refine asr J rfl (sq_nil ?_)
      have hgood2 : sBad l[m][k] = false := by rw [sBad_eq]; simp only [dec35n, dec43n, dec46n, dec63n] at *; simp_all
      exact ⟨⟨k + 1, by omega, fun i h hi => (by by_cases e : i = k; (subst e; exact hgood2); exact hok2 i h (by omega))⟩, by simp only; omega, Sub.slots ⟨J, J, J, J, trivial⟩⟩
     have g12_10' := g12_10
     try simp only [qq] at g12_10'
     refine sq_no rfl rfl (less_b g12_10) rfl rfl ?_
     refine sq_no rfl rfl (less_b g12_10) rfl rfl ?_
     refine sq_ev rfl (ev_pickF (v := .raw _) (less_b g12_10) J) ?_
     refine sq_nil ?_
     refine aw_false J ?_
     refine aw_skip (aw_region (mvr J rfl (sq_ev rfl (ev_add J J (wr (by omega) (by omega))) ?_)))
     refine asr J rfl (sq_nil ?_)
     have hgood2 : sBad l[m][k] = false := by rw [sBad_eq]; simp only [dec35n, dec43n, dec46n, dec63n] at *; simp_all
     exact ⟨⟨k + 1, by omega, fun i h hi => (by by_cases e : i = k; (subst e; exact hgood2); exact hok2 i h (by omega))⟩, by simp only; omega, Sub.slots ⟨J, J, J, J, trivial⟩⟩
    have g12_6' := g12_6
    try simp only [qq] at g12_6'
    refine sq_no rfl rfl (less_b g12_6) rfl rfl ?_
    refine sq_no rfl rfl (less_b g12_6) rfl rfl ?_
    refine sq_ev rfl (ev_pickF (v := .raw _) (less_b g12_6) J) ?_
    refine mvr J rfl (sq_no rfl rfl J rfl rfl (sq_no rfl rfl J rfl rfl (pf rfl J J (sq_nil ?_))))
    refine aw_false J ?_
    refine aw_skip (aw_region (mvr J rfl (sq_ev rfl (ev_add J J (wr (by omega) (by omega))) ?_)))
    refine asr J rfl (sq_nil ?_)
    have hgood2 : sBad l[m][k] = false := by rw [sBad_eq]; simp only [dec35n, dec43n, dec46n, dec63n] at *; simp_all
    exact ⟨⟨k + 1, by omega, fun i h hi => (by by_cases e : i = k; (subst e; exact hgood2); exact hok2 i h (by omega))⟩, by simp only; omega, Sub.slots ⟨J, J, J, J, trivial⟩⟩
   have g12_2' := g12_2
   try simp only [qq] at g12_2'
   refine sq_no rfl rfl (less_b g12_2) rfl rfl ?_
   refine sq_no rfl rfl (less_b g12_2) rfl rfl ?_
   refine sq_ev rfl (ev_pickF (v := .raw _) (less_b g12_2) J) ?_
   refine mvr J rfl (sq_no rfl rfl J rfl rfl ?_)
   refine sq_no rfl rfl J rfl rfl (pf rfl J J (mvr J rfl (sq_no rfl rfl J rfl rfl (sq_no rfl rfl J rfl rfl (pf rfl J J (sq_nil ?_))))))
   refine aw_false J ?_
   refine aw_skip (aw_region (mvr J rfl (sq_ev rfl (ev_add J J (wr (by omega) (by omega))) ?_)))
   refine asr J rfl (sq_nil ?_)
   have hgood2 : sBad l[m][k] = false := by rw [sBad_eq]; simp only [dec35n, dec43n, dec46n, dec63n] at *; simp_all
   exact ⟨⟨k + 1, by omega, fun i h hi => (by by_cases e : i = k; (subst e; exact hgood2); exact hok2 i h (by omega))⟩, by simp only; omega, Sub.slots ⟨J, J, J, J, trivial⟩⟩
  have c_33' := c_33
  try simp only [qq] at c_33'
  refine aw_exit (aw_region (mvr J rfl (sq_ev rfl (ev_add J J (wr (by omega) (by omega))) ?_)))
  refine asr J rfl (sq_nil ?_)
  have hgood : siRow s.wide l[m] = true := by rw [siRow_eq, decide_eq_true (by simpa using c_26'), List.any_eq_false.2 (fun q hq => by obtain ⟨i, hi, rfl⟩ := List.getElem_of_mem hq; simp [hok2 i hi (by omega)])]; rfl
  exact ⟨⟨m + 1, by omega, fun i h hi => (by by_cases e : i = m; (subst e; exact hgood); exact hok i h (by omega))⟩, by simp only; omega, Sub.slots ⟨J, J, J, trivial⟩⟩
 have c_16' := c_16
 try simp only [qq] at c_16'
 refine aw_exit (aw_seq (aw_region (asr J rfl (sq_nil (aw_ret ?_)))))
 exact retQ_pure (v := .raw _) rfl rfl (Less.eq (by rw [siOK_end hlen (fun i hi => hok i hi (by omega))]))
end Go.Proofs.YtmbknoaneglilaaGreatDoor
namespace Go.Proofs.YtmbknoaneglilaaGreatDoor
open Go Go.Ab Ni Ol
def cntR (ch : UInt8) (r : List UInt8) (k : Nat) : Int := ((r.take k).count ch : Int)
theorem cntR_succ {ch : UInt8} {r : List UInt8} {k : Nat} (h : k < r.length) : cntR ch r (k + 1) = cntR ch r k + (if r[k] = ch then 1 else 0) := by
  unfold cntR; rw [List.take_succ_eq_append_getElem h, List.count_append]
  by_cases e : r[k] = ch
  · rw [if_pos e, e]; simp
  · rw [if_neg e]; simp [List.count_singleton, e]
theorem cntR_bd (ch : UInt8) (r : List UInt8) (k : Nat) : 0 ≤ cntR ch r k ∧ cntR ch r k ≤ k := by
  unfold cntR
  have h1 := List.count_le_length (a := ch) (l := r.take k)
  rw [List.length_take] at h1
  omega
theorem cntR_all (ch : UInt8) (r : List UInt8) : cntR ch r r.length = (r.count ch : Int) := by unfold cntR; rw [List.take_length]
theorem rcount_pure (l : List (List UInt8)) (ch : UInt8) (hl : l.length ≤ 1000) (hr : ∀ r ∈ l, r.length ≤ 1000) : APure Tryz.prog 41 [strs l, C ch] (I (cnt ch l)) := by
  refine apure_of (rs := [.tmp 4]) Tryz.func41 rfl rfl (Nat.le_of_ble_eq_true rfl) (by simp [AV.pureL, AV.pureB, AV.pureE, pureE_map]) (by first | rfl | (simp [AV.pureL, AV.pureB, AV.pureE, pureE_map])) fun e0 he0 => ?_
  refine aw_seq (aw_region (asr J rfl (sq_nil (aw_seq (aw_region (asr J rfl ?_))))))
  refine sq_nil (aw_seq (aw_seq (aw_region (asr J rfl (sq_nil (aw_block ?_))))))
  refine aw_loopk (ι := { m : Nat // m ≤ l.length }) [0, 1] (fun g => [(5, I (cnt ch (l.take g.1))), (6, I g.1)]) (fun H g => H) (fun g => l.length - g.1) (⟨0, Nat.zero_le _⟩) ⟨J, J, J, J, trivial⟩ rfl ?_
  rintro ⟨m, hm⟩
  dsimp only [keepS, St.put, sget, slotsOf, nn1, nn2, nn3, nn4, nn5, nn6, Nat.reduceBEq, Nat.reduceAdd, nn7, nn8]
  have hb := cnt_bd ch (l.take m) 1000 (fun r h => hr r (List.mem_of_mem_take h))
  have hb2 : ((l.take m).length : Int) * (1000 : Nat) ≤ 1000000 := by rw [List.length_take]; omega
  refine aw_seq (aw_seq (aw_region (mvr J rfl (mvs rfl J (sq_ev rfl (ev_len_map sl24 J) ?_)))))
  refine sq_ev rfl (ev_lss J J) ?_
  refine sq_nil ?_
  refine aw_cond J (fun c_11 => ?_) (fun c_11 => ?_)
  · skip
    have c_11' := c_11
    try simp only [qq] at c_11'
    have hmL : m < l.length := by omega
    have hrl := hr _ (List.getElem_mem hmL)
    refine aw_skip (aw_seq (aw_block (aw_seq (aw_region (asr J rfl (sq_nil (aw_block ?_)))))))
    refine aw_loopk (ι := { k : Nat // k ≤ l[m].length }) [0, 1, 6] (fun g => [(5, I (cnt ch (l.take m) + cntR ch l[m] g.1)), (7, I g.1)]) (fun H g => H) (fun g => l[m].length - g.1) (⟨0, Nat.zero_le _⟩) ⟨(by exact less_int (by simp [cntR])), J, J, J, J, trivial⟩ rfl ?_
    rintro ⟨k, hk⟩
    dsimp only [keepS, St.put, sget, slotsOf, nn1, nn2, nn3, nn4, nn5, nn6, Nat.reduceBEq, Nat.reduceAdd, nn7, nn8]
    have hbr := cntR_bd ch l[m] k
    refine aw_seq (aw_seq (aw_region (mvr J rfl (mvs rfl J (mvr J rfl (sq_ev rfl (ev_index_map sl24 J J rfl (by omega)) ?_))))))
    refine sq_ev rfl (ev_load_i J ty9 rfl) ?_
    refine sq_ev rfl (ev_lenS Tryz.underlying9 J) ?_
    refine sq_ev rfl (ev_lss J J) ?_
    refine sq_nil ?_
    refine aw_cond J (fun c_20 => ?_) (fun c_20 => ?_)
    · skip
      have c_20' := c_20
      try simp only [qq] at c_20'
      have hkL : k < l[m].length := by omega
      refine aw_skip (aw_seq (aw_block (aw_seq (aw_region (mvs rfl J (mvr J rfl (sq_ev rfl (ev_index_map sl24 J J rfl (by omega)) ?_)))))))
      refine sq_ev rfl (ev_load_i J ty9 rfl) ?_
      refine mvr J rfl (sq_ev rfl (ev_idxS Tryz.underlying9 J J rfl (by omega)) ?_)
      refine mvr J rfl (sq_ev rfl (ev_eql J J) ?_)
      refine sq_nil ?_
      refine aw_cond J (fun c_30 => ?_) (fun c_30 => ?_)
      · skip
        have c_30' := c_30
        try simp only [qq] at c_30'
        have eR : cntR ch l[m] (k + 1) = cntR ch l[m] k + 1 := by rw [cntR_succ hkL, if_pos (UInt8.toNat_inj.1 (by omega))]
        refine aw_region (mvr J rfl (sq_ev rfl (ev_add J J (wr (by omega) (by omega))) ?_))
        refine asr J rfl (sq_nil (aw_region (mvr J rfl (sq_ev rfl (ev_add J J (wr (by omega) (by omega))) ?_))))
        refine asr J rfl (sq_nil ?_)
        exact ⟨⟨k + 1, by omega⟩, by simp only; omega, Sub.slots ⟨(by exact less_int (by rw [eR]; omega)), J, J, J, J, trivial⟩⟩
      · skip
        have c_30' := c_30
        try simp only [qq] at c_30'
        have eR : cntR ch l[m] (k + 1) = cntR ch l[m] k + 0 := by rw [cntR_succ hkL, if_neg (fun h => c_30' (by rw [h]))]
        refine aw_skip (aw_region (mvr J rfl (sq_ev rfl (ev_add J J (wr (by omega) (by omega))) ?_)))
        refine asr J rfl (sq_nil ?_)
        exact ⟨⟨k + 1, by omega⟩, by simp only; omega, Sub.slots ⟨(by exact less_int (by rw [eR]; omega)), J, J, J, J, trivial⟩⟩
    · skip
      have c_20' := c_20
      try simp only [qq] at c_20'
      obtain rfl : k = l[m].length := by omega
      have eC : cnt ch (l.take m) + cntR ch l[m] l[m].length = cnt ch (l.take (m + 1)) := by rw [cntR_all, cnt_take hmL]
      refine aw_exit (aw_region (mvr J rfl (sq_ev rfl (ev_add J J (wr (by omega) (by omega))) ?_)))
      refine asr J rfl (sq_nil ?_)
      exact ⟨⟨m + 1, by omega⟩, by simp only; omega, Sub.slots ⟨(by exact less_int eC), J, J, J, trivial⟩⟩
  · skip
    have c_11' := c_11
    try simp only [qq] at c_11'
    obtain rfl : m = l.length := by omega
    refine aw_exit (aw_seq (aw_region (mvr J rfl (asr J rfl (sq_nil (aw_ret ?_))))))
    exact retQ_pure (v := .raw _) rfl rfl (Less.eq (by rw [List.take_length]))
theorem rcell_pure (s : Sg) (l : List (List UInt8)) (k : Nat) (hs : stOK s = true) (hc : Clo s l) (hk : (k : Int) < s.wide * s.high) : APure Tryz.prog 42 [stA s, strs l, I k] (C (chAt s.wide l k)) := by
 refine apure_of (rs := [.tmp 6]) Tryz.func42 rfl rfl (Nat.le_of_ble_eq_true rfl) (by simp [AV.pureL, AV.pureB, AV.pureE, pureE_map]) (by first | rfl | (simp [AV.pureL, AV.pureB, AV.pureE, pureE_map])) fun e0 he0 => ?_
 have hsb := stOK_iff.1 hs
 have hwh := wh_bd hs
 obtain ⟨h1, h2, h3⟩ := chAt_get hs hc hk
 have hlr : l[k / s.wide.toNat].length = s.wide.toNat := hc.row _ (List.getElem_mem h1)
 refine aw_seq (aw_region (sq_box rfl J rfl (asr J rfl (sq_nil (aw_seq ?_)))))
 refine aw_draw 13 mo (by kernel_rfl) ?_
 refine dr_ev rfl (ev_mv (v := .sl _ _) J) ?_
 refine dr_ev rfl (ev_mv (v := .raw _) J) ?_
 refine dr_ev rfl (ev_fieldAddr fo23_0 J) ?_
 refine dr_ev rfl (ev_load J rfl ty3 rfl) ?_
 refine dr_ev rfl (ev_quo (q := ((k / s.wide.toNat : Nat) : Int)) J J (by omega) (quo_nat (by omega) (by omega))) ?_
 refine dr_ev rfl (ev_index_map (k := k / s.wide.toNat) sl24 J J rfl h1) ?_
 refine dr_ev rfl (ev_load_i J ty9 rfl) ?_
 refine dr_ev rfl (ev_mv (v := .raw _) J) ?_
 refine dr_ev rfl (ev_fieldAddr fo23_0 J) ?_
 refine dr_ev rfl (ev_load J rfl ty3 rfl) ?_
 refine dr_ev rfl (ev_less (ev_rem J J (by omega)) (less_int (rem_nat (by omega)))) ?_
 refine dr_ev rfl (ev_idxS Tryz.underlying9 J J rfl (by omega)) ?_
 refine dr_ev rfl (ev_as (v := .raw _) J) ?_
 refine dr_end (sq_nil (aw_ret ?_))
 exact retQ_pure (v := .raw _) rfl rfl (Less.eq (by rw [h3]))
theorem whole_pure (s : Sg) (c : List (List UInt8)) (hc : shp c) : APure Tryz.prog 29 [stA s, strs c] (B (wholeB s c)) := by
 refine apure_of (rs := [.tmp 4]) Tryz.func29 rfl rfl (Nat.le_of_ble_eq_true rfl) (by simp [AV.pureL, AV.pureB, AV.pureE, pureE_map]) (by first | rfl | (simp [AV.pureL, AV.pureB, AV.pureE, pureE_map])) fun e0 he0 => ?_
 refine aw_seq (aw_region (sq_box rfl J rfl (asr J rfl (sq_nil (aw_seq (aw_region (sq_ev rfl (ev_load_agg J rfl ty23 rfl) ?_)))))))
 refine mvs rfl J (sq_ev rfl (ev_call en37 J (rsight_pure s c hc) ⟨J, J, trivial⟩) ?_)
 refine mvr J rfl ?_
 refine sq_split 8 J (fun g1_3 => ?_) (fun g1_3 => ?_)
 ·
  have g1_3' := g1_3
  try simp only [qq] at g1_3'
  refine sq_yes rfl rfl (less_b g1_3) rfl (ev_mv (v := .sl _ _) J) ?_
  refine sq_yes rfl rfl (less_b g1_3) rfl (ev_call en41 J (rcount_pure c 63 hc.1 hc.2) ⟨J, J, trivial⟩) ?_
  refine sq_yes rfl rfl (less_b g1_3) rfl (ev_eql J J) ?_
  refine sq_ev rfl (ev_pickT (v := .raw _) (less_b g1_3) J) ?_
  refine asr J rfl (sq_nil (aw_ret ?_))
  exact retQ_pure (v := .raw _) rfl rfl (Less.eq (by unfold wholeB; simp [*]))
 have g1_3' := g1_3
 try simp only [qq] at g1_3'
 refine sq_no rfl rfl (less_b g1_3) rfl rfl ?_
 refine sq_no rfl rfl (less_b g1_3) rfl rfl ?_
 refine sq_no rfl rfl (less_b g1_3) rfl rfl ?_
 refine sq_ev rfl (ev_pickF (v := .raw _) (less_b g1_3) J) ?_
 refine asr J rfl (sq_nil (aw_ret ?_))
 exact retQ_pure (v := .raw _) rfl rfl (Less.eq (by unfold wholeB; simp [*]))
end Go.Proofs.YtmbknoaneglilaaGreatDoor
namespace Go.Proofs.YtmbknoaneglilaaGreatDoor
open Go Go.Ab Ni Ol
theorem en27 : Ent Tryz.prog 27 := Ent.of Tryz.func27 (by kernel_rfl) rfl
end Go.Proofs.YtmbknoaneglilaaGreatDoor
namespace Go.Proofs.YtmbknoaneglilaaGreatDoor
open Go Go.Ab Ni Ol
theorem cell_ch (c : Ca) (k m : Int) : c.cell k m = 35 ∨ c.cell k m = 43 ∨ c.cell k m = 46 := by
  unfold Ca.cell Ca.cellAt
  split
  · exact .inl rfl
  · split
    · exact .inr (.inl rfl)
    · exact .inr (.inr rfl)
theorem shadow_row {c : Ca} {r : List UInt8} (h : r ∈ c.shadow) : r.length = c.s.wide.toNat ∧ ∀ b ∈ r, b = 35 ∨ b = 43 ∨ b = 46 := by
  unfold Ca.shadow at h
  obtain ⟨m, _, rfl⟩ := List.mem_map.1 h
  refine ⟨by simp [Ca.srow], fun b hb => ?_⟩
  unfold Ca.srow at hb
  obtain ⟨k, _, rfl⟩ := List.mem_map.1 hb
  exact cell_ch c _ _
theorem shadow_clo (c : Ca) : Clo c.s c.shadow := ⟨by simp [Ca.shadow], fun r hr => (shadow_row hr).1⟩
theorem clo_shp {s : Sg} {l : List (List UInt8)} (hs : stOK s = true) (h : Clo s l) : shp l := by
  have hb := stOK_iff.1 hs
  exact ⟨by rw [h.len]; omega, fun r hr => by rw [h.row r hr]; omega⟩
theorem shadow_whole {c : Ca} (hs : stOK c.s = true) : wholeB c.s c.shadow = true := by
  have hb := stOK_iff.1 hs
  unfold wholeB
  rw [Bool.and_eq_true]
  constructor
  · unfold siOK
    simp only [Bool.and_eq_true, decide_eq_true_eq, List.all_eq_true, siRow]
    refine ⟨by rw [(shadow_clo c).len]; omega, fun r hr => ?_⟩
    obtain ⟨h1, h2⟩ := shadow_row hr
    refine ⟨by omega, ?_⟩
    rw [Bool.not_eq_true', List.any_eq_false]
    intro b hb'
    rcases h2 b hb' with rfl | rfl | rfl <;> decide
  · rw [decide_eq_true_eq]
    unfold Ol.cnt
    have : ∀ L : List (List UInt8), (∀ r ∈ L, ∀ b ∈ r, b = 35 ∨ b = 43 ∨ b = 46) → (L.map fun r => ((r.count 63 : Nat) : Int)).sum = 0 := fun L => by
      induction L with
      | nil => intro _; rfl
      | cons r L ih =>
        intro h
        have h1 : r.count 63 = 0 := List.count_eq_zero.2 fun hm => by rcases h r (by simp) 63 hm with h | h | h <;> cases h
        rw [List.map_cons, List.sum_cons, h1, ih fun q hq => h q (by simp [hq])]; rfl
    exact this _ fun r hr => (shadow_row hr).2
end Go.Proofs.YtmbknoaneglilaaGreatDoor
namespace Go.Proofs.YtmbknoaneglilaaGreatDoor
open Go Go.Ab Ni Ol
theorem en60 : Ent Tryz.prog 60 := Ent.of Tryz.func60 (by kernel_rfl) rfl
end Go.Proofs.YtmbknoaneglilaaGreatDoor
namespace Go.Proofs.YtmbknoaneglilaaGreatDoor
open Go Go.Ab Ni Ol
theorem chAt_shadow {c : Ca} (hs : stOK c.s = true) {k : Nat} (hk : (k : Int) < c.s.wide * c.s.high) : chAt c.s.wide c.shadow k = c.cell ((k % c.s.wide.toNat : Nat) : Int) ((k / c.s.wide.toNat : Nat) : Int) ∧ k % c.s.wide.toNat < c.s.wide.toNat ∧ k / c.s.wide.toNat < c.s.high.toNat := by
  obtain ⟨h1, h2, h3⟩ := chAt_get hs (shadow_clo c) hk
  have e1 : k / c.s.wide.toNat < c.s.high.toNat := by rw [shadow_len] at h1; exact h1
  have hb := stOK_iff.1 hs
  have e2 : k % c.s.wide.toNat < c.s.wide.toNat := Nat.mod_lt _ (by omega)
  refine ⟨?_, e2, e1⟩
  rw [h3]
  simp [Ca.shadow, Ca.srow]
theorem far_of {s : Sg} (h : (!stOK s) = false) : 2 ≤ s.far ∧ s.far ≤ 40 := by have := stOK_iff.1 (by simpa using h); omega
theorem flames_gate (c : Ca) (g : Fg) (q : Pc) (more : Int) (hm : -9223372036854775808 ≤ more ∧ more ≤ 9223372036854775807) (hg : (shortB c.f && (shortB g && (stOK c.s && (fgOK c.f && (pcOK c.s c.p && (fgOK g && (pcOK c.s q && decide (0 ≤ more ∧ more ≤ 3 - c.s.flame)))))))) = false) : APure Tryz.prog 17 [stA c.s, fgA c.f, pcA c.p, fgA g, pcA q, I more] (B true) := by
  refine apure_of (rs := [.tmp 12]) Tryz.func17 rfl rfl (Nat.le_of_ble_eq_true rfl) (by simp [AV.pureL, AV.pureB, AV.pureE, pureE_map]) (by first | rfl | (simp [AV.pureL, AV.pureB, AV.pureE, pureE_map])) fun e0 he0 => ?_
  refine aw_seq (aw_region (sq_box rfl J rfl (sq_box rfl J rfl (sq_box rfl J rfl (sq_box rfl J rfl ?_)))))
  refine sq_box rfl J rfl (asr J rfl (sq_nil (aw_seq (aw_seq (aw_region (sq_ev rfl (ev_fieldAddr fo26_0 J) ?_))))))
  refine sq_ev rfl (ev_load J rfl ty24 rfl) ?_
  refine sq_ev rfl (ev_call en23 J (short_pure c.f) ⟨J, trivial⟩) ?_
  refine sq_ev rfl (ev_not J) ?_
  refine mvr J rfl ?_
  refine sq_split 32 J (fun g1_4 => ?_) (fun g1_4 => ?_)
  · skip
    have g1_4' := g1_4
    try simp only [qq] at g1_4'
    refine sq_no rfl rfl (less_b g1_4) rfl rfl ?_
    refine sq_no rfl rfl (less_b g1_4) rfl rfl ?_
    refine sq_no rfl rfl (less_b g1_4) rfl rfl ?_
    refine sq_no rfl rfl (less_b g1_4) rfl rfl ?_
    refine sq_ev rfl (ev_pickT (v := .raw _) (less_b g1_4) J) ?_
    refine mvr J rfl (sq_no rfl rfl J rfl rfl (sq_no rfl rfl J rfl rfl (sq_no rfl rfl J rfl rfl (sq_ev rfl (ev_pickT (v := .raw _) J J) ?_))))
    refine mvr J rfl (sq_no rfl rfl J rfl rfl (sq_no rfl rfl J rfl rfl (sq_no rfl rfl J rfl rfl (sq_ev rfl (ev_pickT (v := .raw _) J J) ?_))))
    refine mvr J rfl (sq_no rfl rfl J rfl rfl (sq_no rfl rfl J rfl rfl (sq_no rfl rfl J rfl rfl (sq_no rfl rfl J rfl rfl (sq_ev rfl (ev_pickT (v := .raw _) J J) ?_)))))
    refine mvr J rfl (sq_no rfl rfl J rfl rfl (sq_no rfl rfl J rfl rfl (sq_no rfl rfl J rfl rfl (sq_ev rfl (ev_pickT (v := .raw _) J J) ?_))))
    refine mvr J rfl (sq_no rfl rfl J rfl rfl (sq_no rfl rfl J rfl rfl (sq_no rfl rfl J rfl rfl (sq_no rfl rfl J rfl rfl (sq_ev rfl (ev_pickT (v := .raw _) J J) ?_)))))
    refine mvr J rfl (sq_no rfl rfl J rfl rfl (sq_no rfl rfl J rfl rfl (sq_ev rfl (ev_pickT (v := .raw _) J J) ?_)))
    refine mvr J rfl (sq_no rfl rfl J rfl rfl (sq_no rfl rfl J rfl rfl (sq_no rfl rfl J rfl rfl (sq_no rfl rfl J rfl rfl (sq_no rfl rfl J rfl rfl (sq_ev rfl (ev_pickT (v := .raw _) J J) ?_))))))
    refine sq_nil ?_
    refine aw_true J ?_
    refine aw_seq (aw_region (sq_ev rfl (ev_call en27 J (known_pure) trivial) ?_))
    refine asr J rfl (sq_nil (aw_ret ?_))
    exact retQ_pure (v := .raw _) rfl rfl J
  · skip
    have g1_4' := g1_4
    try simp only [qq] at g1_4'
    refine sq_yes rfl rfl (less_b g1_4) rfl (ev_fieldAddr fo26_0 J) ?_
    refine sq_yes rfl rfl (less_b g1_4) rfl (ev_load J rfl ty24 rfl) ?_
    refine sq_yes rfl rfl (less_b g1_4) rfl (ev_call en23 J (short_pure g) ⟨J, trivial⟩) ?_
    refine sq_yes rfl rfl (less_b g1_4) rfl (ev_not J) ?_
    refine sq_ev rfl (ev_pickF (v := .raw _) (less_b g1_4) J) ?_
    refine mvr J rfl ?_
    refine sq_split 38 J (fun g1_10 => ?_) (fun g1_10 => ?_)
    · skip
      have g1_10' := g1_10
      try simp only [qq] at g1_10'
      refine sq_no rfl rfl (less_b g1_10) rfl rfl ?_
      refine sq_no rfl rfl (less_b g1_10) rfl rfl ?_
      refine sq_no rfl rfl (less_b g1_10) rfl rfl ?_
      refine sq_ev rfl (ev_pickT (v := .raw _) (less_b g1_10) J) ?_
      refine mvr J rfl (sq_no rfl rfl J rfl rfl (sq_no rfl rfl J rfl rfl (sq_no rfl rfl J rfl rfl (sq_ev rfl (ev_pickT (v := .raw _) J J) ?_))))
      refine mvr J rfl (sq_no rfl rfl J rfl rfl (sq_no rfl rfl J rfl rfl (sq_no rfl rfl J rfl rfl (sq_no rfl rfl J rfl rfl (sq_ev rfl (ev_pickT (v := .raw _) J J) ?_)))))
      refine mvr J rfl (sq_no rfl rfl J rfl rfl (sq_no rfl rfl J rfl rfl (sq_no rfl rfl J rfl rfl (sq_ev rfl (ev_pickT (v := .raw _) J J) ?_))))
      refine mvr J rfl (sq_no rfl rfl J rfl rfl (sq_no rfl rfl J rfl rfl (sq_no rfl rfl J rfl rfl (sq_no rfl rfl J rfl rfl (sq_ev rfl (ev_pickT (v := .raw _) J J) ?_)))))
      refine mvr J rfl (sq_no rfl rfl J rfl rfl (sq_no rfl rfl J rfl rfl (sq_ev rfl (ev_pickT (v := .raw _) J J) ?_)))
      refine mvr J rfl (sq_no rfl rfl J rfl rfl (sq_no rfl rfl J rfl rfl (sq_no rfl rfl J rfl rfl (sq_no rfl rfl J rfl rfl (sq_no rfl rfl J rfl rfl (sq_ev rfl (ev_pickT (v := .raw _) J J) ?_))))))
      refine sq_nil ?_
      refine aw_true J ?_
      refine aw_seq (aw_region (sq_ev rfl (ev_call en27 J (known_pure) trivial) ?_))
      refine asr J rfl (sq_nil (aw_ret ?_))
      exact retQ_pure (v := .raw _) rfl rfl J
    · skip
      have g1_10' := g1_10
      try simp only [qq] at g1_10'
      refine sq_yes rfl rfl (less_b g1_10) rfl (ev_load_agg J rfl ty23 rfl) ?_
      refine sq_yes rfl rfl (less_b g1_10) rfl (ev_call en24 J (rstage_pure c.s) ⟨J, trivial⟩) ?_
      refine sq_yes rfl rfl (less_b g1_10) rfl (ev_not J) ?_
      refine sq_ev rfl (ev_pickF (v := .raw _) (less_b g1_10) J) ?_
      refine mvr J rfl ?_
      refine sq_split 43 J (fun g1_15 => ?_) (fun g1_15 => ?_)
      · skip
        have g1_15' := g1_15
        try simp only [qq] at g1_15'
        refine sq_no rfl rfl (less_b g1_15) rfl rfl ?_
        refine sq_no rfl rfl (less_b g1_15) rfl rfl ?_
        refine sq_no rfl rfl (less_b g1_15) rfl rfl ?_
        refine sq_ev rfl (ev_pickT (v := .raw _) (less_b g1_15) J) ?_
        refine mvr J rfl (sq_no rfl rfl J rfl rfl (sq_no rfl rfl J rfl rfl (sq_no rfl rfl J rfl rfl (sq_no rfl rfl J rfl rfl (sq_ev rfl (ev_pickT (v := .raw _) J J) ?_)))))
        refine mvr J rfl (sq_no rfl rfl J rfl rfl (sq_no rfl rfl J rfl rfl (sq_no rfl rfl J rfl rfl (sq_ev rfl (ev_pickT (v := .raw _) J J) ?_))))
        refine mvr J rfl (sq_no rfl rfl J rfl rfl (sq_no rfl rfl J rfl rfl (sq_no rfl rfl J rfl rfl (sq_no rfl rfl J rfl rfl (sq_ev rfl (ev_pickT (v := .raw _) J J) ?_)))))
        refine mvr J rfl (sq_no rfl rfl J rfl rfl (sq_no rfl rfl J rfl rfl (sq_ev rfl (ev_pickT (v := .raw _) J J) ?_)))
        refine mvr J rfl (sq_no rfl rfl J rfl rfl (sq_no rfl rfl J rfl rfl (sq_no rfl rfl J rfl rfl (sq_no rfl rfl J rfl rfl (sq_no rfl rfl J rfl rfl (sq_ev rfl (ev_pickT (v := .raw _) J J) ?_))))))
        refine sq_nil ?_
        refine aw_true J ?_
        refine aw_seq (aw_region (sq_ev rfl (ev_call en27 J (known_pure) trivial) ?_))
        refine asr J rfl (sq_nil (aw_ret ?_))
        exact retQ_pure (v := .raw _) rfl rfl J
      · skip
        have g1_15' := g1_15
        try simp only [qq] at g1_15'
        have hsb := stOK_iff.1 (by simpa using g1_15)
        refine sq_yes rfl rfl (less_b g1_15) rfl (ev_load_agg J rfl ty26 rfl) ?_
        refine sq_yes rfl rfl (less_b g1_15) rfl (ev_call en25 J (rfigure_pure c.f) ⟨J, trivial⟩) ?_
        refine sq_yes rfl rfl (less_b g1_15) rfl (ev_not J) ?_
        refine sq_ev rfl (ev_pickF (v := .raw _) (less_b g1_15) J) ?_
        refine mvr J rfl ?_
        refine sq_split 48 J (fun g1_20 => ?_) (fun g1_20 => ?_)
        · skip
          have g1_20' := g1_20
          try simp only [qq] at g1_20'
          refine sq_no rfl rfl (less_b g1_20) rfl rfl ?_
          refine sq_no rfl rfl (less_b g1_20) rfl rfl ?_
          refine sq_no rfl rfl (less_b g1_20) rfl rfl ?_
          refine sq_no rfl rfl (less_b g1_20) rfl rfl ?_
          refine sq_ev rfl (ev_pickT (v := .raw _) (less_b g1_20) J) ?_
          refine mvr J rfl (sq_no rfl rfl J rfl rfl (sq_no rfl rfl J rfl rfl (sq_no rfl rfl J rfl rfl (sq_ev rfl (ev_pickT (v := .raw _) J J) ?_))))
          refine mvr J rfl (sq_no rfl rfl J rfl rfl (sq_no rfl rfl J rfl rfl (sq_no rfl rfl J rfl rfl (sq_no rfl rfl J rfl rfl (sq_ev rfl (ev_pickT (v := .raw _) J J) ?_)))))
          refine mvr J rfl (sq_no rfl rfl J rfl rfl (sq_no rfl rfl J rfl rfl (sq_ev rfl (ev_pickT (v := .raw _) J J) ?_)))
          refine mvr J rfl (sq_no rfl rfl J rfl rfl (sq_no rfl rfl J rfl rfl (sq_no rfl rfl J rfl rfl (sq_no rfl rfl J rfl rfl (sq_no rfl rfl J rfl rfl (sq_ev rfl (ev_pickT (v := .raw _) J J) ?_))))))
          refine sq_nil ?_
          refine aw_true J ?_
          refine aw_seq (aw_region (sq_ev rfl (ev_call en27 J (known_pure) trivial) ?_))
          refine asr J rfl (sq_nil (aw_ret ?_))
          exact retQ_pure (v := .raw _) rfl rfl J
        · skip
          have g1_20' := g1_20
          try simp only [qq] at g1_20'
          refine sq_yes rfl rfl (less_b g1_20) rfl (ev_load_agg J rfl ty23 rfl) ?_
          refine sq_yes rfl rfl (less_b g1_20) rfl (ev_load_agg J rfl ty28 rfl) ?_
          refine sq_yes rfl rfl (less_b g1_20) rfl (ev_call en26 J (rplace_pure c.s c.p (far_of g1_15)) ⟨J, J, trivial⟩) ?_
          refine sq_yes rfl rfl (less_b g1_20) rfl (ev_not J) ?_
          refine sq_ev rfl (ev_pickF (v := .raw _) (less_b g1_20) J) ?_
          refine mvr J rfl ?_
          refine sq_split 54 J (fun g1_26 => ?_) (fun g1_26 => ?_)
          · skip
            have g1_26' := g1_26
            try simp only [qq] at g1_26'
            refine sq_no rfl rfl (less_b g1_26) rfl rfl ?_
            refine sq_no rfl rfl (less_b g1_26) rfl rfl ?_
            refine sq_no rfl rfl (less_b g1_26) rfl rfl ?_
            refine sq_ev rfl (ev_pickT (v := .raw _) (less_b g1_26) J) ?_
            refine mvr J rfl (sq_no rfl rfl J rfl rfl (sq_no rfl rfl J rfl rfl (sq_no rfl rfl J rfl rfl (sq_no rfl rfl J rfl rfl (sq_ev rfl (ev_pickT (v := .raw _) J J) ?_)))))
            refine mvr J rfl (sq_no rfl rfl J rfl rfl (sq_no rfl rfl J rfl rfl (sq_ev rfl (ev_pickT (v := .raw _) J J) ?_)))
            refine mvr J rfl (sq_no rfl rfl J rfl rfl (sq_no rfl rfl J rfl rfl (sq_no rfl rfl J rfl rfl (sq_no rfl rfl J rfl rfl (sq_no rfl rfl J rfl rfl (sq_ev rfl (ev_pickT (v := .raw _) J J) ?_))))))
            refine sq_nil ?_
            refine aw_true J ?_
            refine aw_seq (aw_region (sq_ev rfl (ev_call en27 J (known_pure) trivial) ?_))
            refine asr J rfl (sq_nil (aw_ret ?_))
            exact retQ_pure (v := .raw _) rfl rfl J
          · skip
            have g1_26' := g1_26
            try simp only [qq] at g1_26'
            refine sq_yes rfl rfl (less_b g1_26) rfl (ev_load_agg J rfl ty26 rfl) ?_
            refine sq_yes rfl rfl (less_b g1_26) rfl (ev_call en25 J (rfigure_pure g) ⟨J, trivial⟩) ?_
            refine sq_yes rfl rfl (less_b g1_26) rfl (ev_not J) ?_
            refine sq_ev rfl (ev_pickF (v := .raw _) (less_b g1_26) J) ?_
            refine mvr J rfl ?_
            refine sq_split 59 J (fun g1_31 => ?_) (fun g1_31 => ?_)
            · skip
              have g1_31' := g1_31
              try simp only [qq] at g1_31'
              refine sq_no rfl rfl (less_b g1_31) rfl rfl ?_
              refine sq_no rfl rfl (less_b g1_31) rfl rfl ?_
              refine sq_no rfl rfl (less_b g1_31) rfl rfl ?_
              refine sq_no rfl rfl (less_b g1_31) rfl rfl ?_
              refine sq_ev rfl (ev_pickT (v := .raw _) (less_b g1_31) J) ?_
              refine mvr J rfl (sq_no rfl rfl J rfl rfl (sq_no rfl rfl J rfl rfl (sq_ev rfl (ev_pickT (v := .raw _) J J) ?_)))
              refine mvr J rfl (sq_no rfl rfl J rfl rfl (sq_no rfl rfl J rfl rfl (sq_no rfl rfl J rfl rfl (sq_no rfl rfl J rfl rfl (sq_no rfl rfl J rfl rfl (sq_ev rfl (ev_pickT (v := .raw _) J J) ?_))))))
              refine sq_nil ?_
              refine aw_true J ?_
              refine aw_seq (aw_region (sq_ev rfl (ev_call en27 J (known_pure) trivial) ?_))
              refine asr J rfl (sq_nil (aw_ret ?_))
              exact retQ_pure (v := .raw _) rfl rfl J
            · skip
              have g1_31' := g1_31
              try simp only [qq] at g1_31'
              refine sq_yes rfl rfl (less_b g1_31) rfl (ev_load_agg J rfl ty23 rfl) ?_
              refine sq_yes rfl rfl (less_b g1_31) rfl (ev_load_agg J rfl ty28 rfl) ?_
              refine sq_yes rfl rfl (less_b g1_31) rfl (ev_call en26 J (rplace_pure c.s q (far_of g1_15)) ⟨J, J, trivial⟩) ?_
              refine sq_yes rfl rfl (less_b g1_31) rfl (ev_not J) ?_
              refine sq_ev rfl (ev_pickF (v := .raw _) (less_b g1_31) J) ?_
              refine mvr J rfl ?_
              refine sq_split 65 J (fun g1_37 => ?_) (fun g1_37 => ?_)
              · skip
                have g1_37' := g1_37
                try simp only [qq] at g1_37'
                refine sq_no rfl rfl (less_b g1_37) rfl rfl ?_
                refine sq_no rfl rfl (less_b g1_37) rfl rfl ?_
                refine sq_ev rfl (ev_pickT (v := .raw _) (less_b g1_37) J) ?_
                refine mvr J rfl (sq_no rfl rfl J rfl rfl (sq_no rfl rfl J rfl rfl (sq_no rfl rfl J rfl rfl (sq_no rfl rfl J rfl rfl (sq_no rfl rfl J rfl rfl (sq_ev rfl (ev_pickT (v := .raw _) J J) ?_))))))
                refine sq_nil ?_
                refine aw_true J ?_
                refine aw_seq (aw_region (sq_ev rfl (ev_call en27 J (known_pure) trivial) ?_))
                refine asr J rfl (sq_nil (aw_ret ?_))
                exact retQ_pure (v := .raw _) rfl rfl J
              · skip
                have g1_37' := g1_37
                try simp only [qq] at g1_37'
                refine sq_yes rfl rfl (less_b g1_37) rfl (ev_mv (v := .raw _) J) ?_
                refine sq_yes rfl rfl (less_b g1_37) rfl (ev_lss J J) ?_
                refine sq_ev rfl (ev_pickF (v := .raw _) (less_b g1_37) J) ?_
                refine mvr J rfl ?_
                refine sq_split 69 J (fun g1_41 => ?_) (fun g1_41 => ?_)
                · skip
                  have g1_41' := g1_41
                  try simp only [qq] at g1_41'
                  refine sq_no rfl rfl (less_b g1_41) rfl rfl ?_
                  refine sq_no rfl rfl (less_b g1_41) rfl rfl ?_
                  refine sq_no rfl rfl (less_b g1_41) rfl rfl ?_
                  refine sq_no rfl rfl (less_b g1_41) rfl rfl ?_
                  refine sq_no rfl rfl (less_b g1_41) rfl rfl ?_
                  refine sq_ev rfl (ev_pickT (v := .raw _) (less_b g1_41) J) ?_
                  refine sq_nil ?_
                  refine aw_true J ?_
                  refine aw_seq (aw_region (sq_ev rfl (ev_call en27 J (known_pure) trivial) ?_))
                  refine asr J rfl (sq_nil (aw_ret ?_))
                  exact retQ_pure (v := .raw _) rfl rfl J
                · skip
                  have g1_41' := g1_41
                  try simp only [qq] at g1_41'
                  try (have hsb2 := stOK_iff.1 (by simpa using g1_15))
                  refine sq_yes rfl rfl (less_b g1_41) rfl (ev_mv (v := .raw _) J) ?_
                  refine sq_yes rfl rfl (less_b g1_41) rfl (ev_fieldAddr fo23_3 J) ?_
                  refine sq_yes rfl rfl (less_b g1_41) rfl (ev_load J rfl ty3 rfl) ?_
                  refine sq_yes rfl rfl (less_b g1_41) rfl (ev_sub J J (wr (by omega) (by omega))) ?_
                  refine sq_yes rfl rfl (less_b g1_41) rfl (ev_gtr J J) ?_
                  refine sq_ev rfl (ev_pickF (v := .raw _) (less_b g1_41) J) ?_
                  refine sq_nil ?_
                  refine aw_cond J (fun c_75 => ?_) (fun c_75 => ?_)
                  · skip
                    have c_75' := c_75
                    try simp only [qq] at c_75'
                    refine aw_seq (aw_region (sq_ev rfl (ev_call en27 J (known_pure) trivial) ?_))
                    refine asr J rfl (sq_nil (aw_ret ?_))
                    exact retQ_pure (v := .raw _) rfl rfl J
                  · skip
                    have c_75' := c_75
                    try simp only [qq] at c_75'
                    first | (exfalso; simp_all; done) | (exfalso; simp_all; omega)
set_option maxRecDepth 20000 in
theorem flames_core {c : Ca} {g : Fg} {q : Pc} {more w v : Int} {a b : List (List UInt8)} {is still : Bool} (hs : stOK c.s = true) (hm : 0 ≤ more ∧ more ≤ 3 - c.s.flame) (ca : Clo c.s a) (cb : Clo c.s b)
    (k23 : APure Tryz.prog 23 [strs c.f] (B true)) (k23' : APure Tryz.prog 23 [strs g] (B true)) (k24 : APure Tryz.prog 24 [stA c.s] (B true)) (k25 : APure Tryz.prog 25 [fgA c.f] (B true)) (k25' : APure Tryz.prog 25 [fgA g] (B true))
    (k26 : APure Tryz.prog 26 [stA c.s, pcA c.p] (B true)) (k26' : APure Tryz.prog 26 [stA c.s, pcA q] (B true))
    (k28 : APure Tryz.prog 28 [stA c.s, fgA c.f, pcA c.p] (.tup [strs a, I 0])) (k28' : APure Tryz.prog 28 [stA (⟨c.s.wide, c.s.high, c.s.far, c.s.flame + more, c.s.x, c.s.y⟩ : Sg), fgA c.f, pcA c.p] (.tup [strs b, I 0]))
    (k60 : APure Tryz.prog 60 [stA c.s, fgA c.f, pcA c.p] (.tup [B is, I 0])) (k60' : APure Tryz.prog 60 [stA (⟨c.s.wide, c.s.high, c.s.far, c.s.flame + more, c.s.x, c.s.y⟩ : Sg), fgA c.f, pcA c.p] (.tup [B still, I 0]))
    (k73 : APure Tryz.prog 73 [stA c.s, fgA c.f, pcA c.p, fgA g, pcA q] (.tup [I w, I 0])) (k73' : APure Tryz.prog 73 [stA (⟨c.s.wide, c.s.high, c.s.far, c.s.flame + more, c.s.x, c.s.y⟩ : Sg), fgA c.f, pcA c.p, fgA g, pcA q] (.tup [I v, I 0]))
    (k29 : APure Tryz.prog 29 [stA c.s, strs a] (B true)) (k29' : APure Tryz.prog 29 [stA c.s, strs b] (B true)) (h1 : still = true → is = true) (h2 : v ≠ 2 → w = v)
    (h3 : ∀ k : Nat, (k : Int) < c.s.wide * c.s.high → chAt c.s.wide b k ≠ 43 → chAt c.s.wide b k = chAt c.s.wide a k) : APure Tryz.prog 17 [stA c.s, fgA c.f, pcA c.p, fgA g, pcA q, I more] (B true) := by
  refine apure_of (rs := [.tmp 12]) Tryz.func17 rfl rfl (Nat.le_of_ble_eq_true rfl) (by simp [AV.pureL, AV.pureB, AV.pureE, pureE_map]) (by first | rfl | (simp [AV.pureL, AV.pureB, AV.pureE, pureE_map])) fun e0 he0 => ?_
  have hsb := stOK_iff.1 hs
  have hwh := wh_bd hs
  refine aw_seq (aw_region (sq_box rfl J rfl (sq_box rfl J rfl (sq_box rfl J rfl (sq_box rfl J rfl ?_)))))
  refine sq_box rfl J rfl (asr J rfl (sq_nil (aw_seq (aw_seq (aw_region (sq_ev rfl (ev_fieldAddr fo26_0 J) ?_))))))
  refine sq_ev rfl (ev_load J rfl ty24 rfl) ?_
  refine sq_ev rfl (ev_call en23 J (k23) ⟨J, trivial⟩) ?_
  refine sq_ev rfl (ev_not J) ?_
  refine mvr J rfl (sq_yes rfl rfl J rfl (ev_fieldAddr fo26_0 J) ?_)
  refine sq_yes rfl rfl J rfl (ev_load J rfl ty24 rfl) ?_
  refine sq_yes rfl rfl J rfl (ev_call en23 J (k23') ⟨J, trivial⟩) ?_
  refine sq_yes rfl rfl J rfl (ev_not J) ?_
  refine pf rfl J J (mvr J rfl (sq_yes rfl rfl J rfl (ev_load_agg J rfl ty23 rfl) ?_))
  refine sq_yes rfl rfl J rfl (ev_call en24 J (k24) ⟨J, trivial⟩) ?_
  refine sq_yes rfl rfl J rfl (ev_not J) ?_
  refine pf rfl J J (mvr J rfl (sq_yes rfl rfl J rfl (ev_load_agg J rfl ty26 rfl) ?_))
  refine sq_yes rfl rfl J rfl (ev_call en25 J (k25) ⟨J, trivial⟩) ?_
  refine sq_yes rfl rfl J rfl (ev_not J) ?_
  refine pf rfl J J (mvr J rfl (sq_yes rfl rfl J rfl (ev_load_agg J rfl ty23 rfl) ?_))
  refine sq_yes rfl rfl J rfl (ev_load_agg J rfl ty28 rfl) ?_
  refine sq_yes rfl rfl J rfl (ev_call en26 J (k26) ⟨J, J, trivial⟩) ?_
  refine sq_yes rfl rfl J rfl (ev_not J) ?_
  refine pf rfl J J (mvr J rfl (sq_yes rfl rfl J rfl (ev_load_agg J rfl ty26 rfl) ?_))
  refine sq_yes rfl rfl J rfl (ev_call en25 J (k25') ⟨J, trivial⟩) ?_
  refine sq_yes rfl rfl J rfl (ev_not J) ?_
  refine pf rfl J J (mvr J rfl (sq_yes rfl rfl J rfl (ev_load_agg J rfl ty23 rfl) ?_))
  refine sq_yes rfl rfl J rfl (ev_load_agg J rfl ty28 rfl) ?_
  refine sq_yes rfl rfl J rfl (ev_call en26 J (k26') ⟨J, J, trivial⟩) ?_
  refine sq_yes rfl rfl J rfl (ev_not J) ?_
  refine pf rfl J J (mvr J rfl (ymr rfl rfl J rfl J (sq_yes rfl rfl J rfl (ev_lss J J) ?_)))
  refine pf rfl J J (mvr J rfl ?_)
  refine sq_split 69 J (fun g1_41 => ?_) (fun g1_41 => ?_)
  · skip
    have g1_41' := g1_41
    try simp only [qq] at g1_41'
    first | exact absurd g1_41 (by decide) | (exfalso; simp at g1_41; done) | (exfalso; simp at g1_41; omega) | (exfalso; simp_all; done) | (exfalso; simp_all; omega)
  · skip
    have g1_41' := g1_41
    try simp only [qq] at g1_41'
    refine sq_yes rfl rfl (less_b g1_41) rfl (ev_mv (v := .raw _) J) ?_
    refine sq_yes rfl rfl (less_b g1_41) rfl (ev_fieldAddr fo23_3 J) ?_
    refine sq_yes rfl rfl (less_b g1_41) rfl (ev_load J rfl ty3 rfl) ?_
    refine sq_yes rfl rfl (less_b g1_41) rfl (ev_sub J J (wr (by omega) (by omega))) ?_
    refine sq_yes rfl rfl (less_b g1_41) rfl (ev_gtr J J) ?_
    refine sq_ev rfl (ev_pickF (v := .raw _) (less_b g1_41) J) ?_
    refine sq_nil ?_
    refine aw_cond J (fun c_75 => ?_) (fun c_75 => ?_)
    · skip
      have c_75' := c_75
      try simp only [qq] at c_75'
      first | exact absurd c_75 (by decide) | (exfalso; simp at c_75; done) | (exfalso; simp at c_75; omega) | (exfalso; simp_all; done) | (exfalso; simp_all; omega)
    · skip
      have c_75' := c_75
      try simp only [qq] at c_75'
      refine aw_skip (aw_seq (aw_region (sq_ev rfl (ev_load_agg J rfl ty23 rfl) ?_)))
      refine sq_alloc rfl z23 ?_
      refine sq_store rfl J J rfl rfl ty23 rfl rfl ?_
      refine sq_nil (aw_seq (aw_region (sq_ev rfl (ev_fieldAddr fo23_3 J) ?_)))
      refine sq_ev rfl (ev_load J rfl ty3 rfl) ?_
      refine mvr J rfl (sq_ev rfl (ev_add J J (wr (by omega) (by omega))) ?_)
      refine sq_ev rfl (ev_fieldAddr fo23_3 J) ?_
      refine sq_store rfl J J rfl rfl ty3 rfl rfl ?_
      refine sq_nil (aw_seq (aw_region (sq_ev rfl (ev_load_agg J rfl ty23 rfl) ?_)))
      refine sq_ev rfl (ev_load_agg J rfl ty26 rfl) ?_
      refine sq_ev rfl (ev_load_agg J rfl ty28 rfl) ?_
      refine sq_ev rfl (ev_call en28 J (k28) ⟨J, J, J, trivial⟩) ?_
      refine sq_ev rfl (ev_mv (v := .tup _) J) ?_
      refine xtr rfl J rfl ?_
      refine xtr rfl J rfl (ass rfl J (asr J rfl (sq_nil (aw_seq (aw_region (sq_ev rfl (ev_load_agg J rfl ty23 rfl) ?_))))))
      refine sq_ev rfl (ev_load_agg J rfl ty26 rfl) ?_
      refine sq_ev rfl (ev_load_agg J rfl ty28 rfl) ?_
      refine sq_ev rfl (ev_call en28 J (k28') ⟨J, J, J, trivial⟩) ?_
      refine sq_ev rfl (ev_mv (v := .tup _) J) ?_
      refine xtr rfl J rfl ?_
      refine xtr rfl J rfl (ass rfl J (asr J rfl (sq_nil (aw_seq (aw_region (sq_ev rfl (ev_load_agg J rfl ty23 rfl) ?_))))))
      refine sq_ev rfl (ev_load_agg J rfl ty26 rfl) ?_
      refine sq_ev rfl (ev_load_agg J rfl ty28 rfl) ?_
      refine sq_ev rfl (ev_call en60 J (k60) ⟨J, J, J, trivial⟩) ?_
      refine sq_ev rfl (ev_mv (v := .tup _) J) ?_
      refine xtr rfl J rfl ?_
      refine xtr rfl J rfl (asr J rfl (asr J rfl (sq_nil (aw_seq (aw_region (sq_ev rfl (ev_load_agg J rfl ty23 rfl) ?_))))))
      refine sq_ev rfl (ev_load_agg J rfl ty26 rfl) ?_
      refine sq_ev rfl (ev_load_agg J rfl ty28 rfl) ?_
      refine sq_ev rfl (ev_call en60 J (k60') ⟨J, J, J, trivial⟩) ?_
      refine sq_ev rfl (ev_mv (v := .tup _) J) ?_
      refine xtr rfl J rfl ?_
      refine xtr rfl J rfl (asr J rfl (asr J rfl (sq_nil (aw_seq (aw_region (sq_ev rfl (ev_load_agg J rfl ty23 rfl) ?_))))))
      refine sq_ev rfl (ev_load_agg J rfl ty26 rfl) ?_
      refine sq_ev rfl (ev_load_agg J rfl ty28 rfl) ?_
      refine sq_ev rfl (ev_load_agg J rfl ty26 rfl) ?_
      refine sq_ev rfl (ev_load_agg J rfl ty28 rfl) ?_
      refine sq_ev rfl (ev_call en73 J (k73) ⟨J, J, J, J, J, trivial⟩) ?_
      refine sq_ev rfl (ev_mv (v := .tup _) J) ?_
      refine xtr rfl J rfl ?_
      refine xtr rfl J rfl (asr J rfl (asr J rfl (sq_nil (aw_seq (aw_region (sq_ev rfl (ev_load_agg J rfl ty23 rfl) ?_))))))
      refine sq_ev rfl (ev_load_agg J rfl ty26 rfl) ?_
      refine sq_ev rfl (ev_load_agg J rfl ty28 rfl) ?_
      refine sq_ev rfl (ev_load_agg J rfl ty26 rfl) ?_
      refine sq_ev rfl (ev_load_agg J rfl ty28 rfl) ?_
      refine sq_ev rfl (ev_call en73 J (k73') ⟨J, J, J, J, J, trivial⟩) ?_
      refine sq_ev rfl (ev_mv (v := .tup _) J) ?_
      refine xtr rfl J rfl (xtr rfl J rfl (asr J rfl ?_))
      refine asr J rfl (sq_nil (aw_seq (aw_seq (aw_region (mvr J rfl (sq_ev rfl (ev_neq J J) ?_))))))
      refine mvr J rfl (ymr rfl rfl J rfl J (sq_yes rfl rfl J rfl (ev_neq J J) ?_))
      refine pf rfl J J (mvr J rfl (ymr rfl rfl J rfl J (sq_yes rfl rfl J rfl (ev_neq J J) ?_)))
      refine pf rfl J J (mvr J rfl (ymr rfl rfl J rfl J (sq_yes rfl rfl J rfl (ev_neq J J) ?_)))
      refine pf rfl J J (mvr J rfl (ymr rfl rfl J rfl J (sq_yes rfl rfl J rfl (ev_neq J J) ?_)))
      refine pf rfl J J (mvr J rfl (ymr rfl rfl J rfl J (sq_yes rfl rfl J rfl (ev_neq J J) ?_)))
      refine pf rfl J J (mvr J rfl (ymr rfl rfl J rfl J (ymr rfl rfl J rfl J ?_)))
      refine sq_split 153 J (fun g11_24 => ?_) (fun g11_24 => ?_)
      · skip
        have g11_24' := g11_24
        try simp only [qq] at g11_24'
        refine sq_yes rfl rfl (less_b g11_24) rfl (ev_mv (v := .raw _) J) ?_
        refine sq_yes rfl rfl (less_b g11_24) rfl (ev_not J) ?_
        refine sq_yes rfl rfl J rfl (ev_pickT (v := .raw _) (less_b g11_24) J) ?_
        refine pf rfl J J (mvr J rfl ?_)
        refine sq_split 158 J (fun g11_29 => ?_) (fun g11_29 => ?_)
        · skip
          have g11_29' := g11_29
          try simp only [qq] at g11_29'
          first | exact absurd g11_29 (by decide) | (exfalso; simp at g11_29; done) | (exfalso; simp at g11_29; omega) | (exfalso; simp_all; done) | (exfalso; simp_all; omega)
        · skip
          have g11_29' := g11_29
          try simp only [qq] at g11_29'
          refine sq_yes rfl rfl (less_b g11_29) rfl (ev_mv (v := .raw _) J) ?_
          refine sq_yes rfl rfl (less_b g11_29) rfl (ev_neq J J) ?_
          refine sq_yes rfl rfl (less_b g11_29) rfl (ev_mv (v := .raw _) J) ?_
          refine sq_split 161 J (fun g11_32 => ?_) (fun g11_32 => ?_)
          · skip
            have g11_32' := g11_32
            try simp only [qq] at g11_32'
            refine sq_yes rfl rfl (less_b g11_32) rfl (ev_mv (v := .raw _) J) ?_
            refine sq_yes rfl rfl (less_b g11_32) rfl (ev_mv (v := .raw _) J) ?_
            refine sq_yes rfl rfl (less_b g11_32) rfl (ev_neq J J) ?_
            refine sq_yes rfl rfl (less_b g11_29) rfl (ev_pickT (v := .raw _) (less_b g11_32) J) ?_
            refine sq_ev rfl (ev_pickF (v := .raw _) (less_b g11_29) J) ?_
            refine mvr J rfl ?_
            refine sq_split 167 J (fun g11_38 => ?_) (fun g11_38 => ?_)
            · skip
              have g11_38' := g11_38
              try simp only [qq] at g11_38'
              first | exact absurd g11_38 (by decide) | (exfalso; simp at g11_38; done) | (exfalso; simp at g11_38; omega) | (exfalso; simp_all; done) | (exfalso; simp_all; omega)
            · skip
              have g11_38' := g11_38
              try simp only [qq] at g11_38'
              refine sq_yes rfl rfl (less_b g11_38) rfl (ev_load_agg J rfl ty23 rfl) ?_
              refine sq_yes rfl rfl (less_b g11_38) rfl (ev_mv (v := .sl _ _) J) ?_
              refine sq_yes rfl rfl (less_b g11_38) rfl (ev_call en29 J (k29) ⟨J, J, trivial⟩) ?_
              refine sq_yes rfl rfl (less_b g11_38) rfl (ev_not J) ?_
              refine sq_ev rfl (ev_pickF (v := .raw _) (less_b g11_38) J) ?_
              refine mvr J rfl (sq_yes rfl rfl J rfl (ev_load_agg J rfl ty23 rfl) ?_)
              refine ysl rfl rfl J rfl J ?_
              refine sq_yes rfl rfl J rfl (ev_call en29 J (k29') ⟨J, J, trivial⟩) ?_
              refine sq_yes rfl rfl J rfl (ev_not J) ?_
              refine pf rfl J J (sq_nil ?_)
              refine aw_cond J (fun c_178 => ?_) (fun c_178 => ?_)
              · skip
                have c_178' := c_178
                try simp only [qq] at c_178'
                first | exact absurd c_178 (by decide) | (exfalso; simp at c_178; done) | (exfalso; simp at c_178; omega) | (exfalso; simp_all; done) | (exfalso; simp_all; omega)
              · skip
                have c_178' := c_178
                try simp only [qq] at c_178'
                refine aw_skip (aw_seq (aw_seq (aw_region (asr J rfl (sq_nil (aw_block ?_))))))
                refine aw_loopk (ι := { k : Nat // k ≤ (c.s.wide * c.s.high).toNat }) [6, 14, 16] (fun g => [(26, I g.1)]) (fun H g => H) (fun g => (c.s.wide * c.s.high).toNat - g.1) (⟨0, Nat.zero_le _⟩) ⟨J, J, J, J, trivial⟩ rfl ?_
                rintro ⟨k, hk⟩
                dsimp only [keepS, St.put, sget, slotsOf, nn1, nn2, nn3, nn4, nn5, nn6, Nat.reduceBEq, Nat.reduceAdd, nn7, nn8]
                refine aw_seq (aw_seq (aw_region (mvr J rfl (sq_ev rfl (ev_fieldAddr fo23_0 J) ?_))))
                refine sq_ev rfl (ev_load J rfl ty3 rfl) ?_
                refine sq_ev rfl (ev_fieldAddr fo23_1 J) ?_
                refine sq_ev rfl (ev_load J rfl ty3 rfl) ?_
                refine sq_ev rfl (ev_mul J J (wr (by omega) (by omega))) ?_
                refine sq_ev rfl (ev_lss J J) ?_
                refine sq_nil ?_
                refine aw_cond J (fun c_185 => ?_) (fun c_185 => ?_)
                · skip
                  have c_185' := c_185
                  try simp only [qq] at c_185'
                  have hkL : (k : Int) < c.s.wide * c.s.high := by simpa using c_185
                  refine aw_skip (aw_seq (aw_block (aw_seq (aw_region (sq_ev rfl (ev_load_agg J rfl ty23 rfl) ?_)))))
                  refine mvs rfl J (mvr J rfl (sq_ev rfl (ev_call en42 J (rcell_pure c.s b k hs cb hkL) ⟨J, J, J, trivial⟩) ?_))
                  refine asr J rfl (sq_nil (aw_seq (aw_region (mvr J rfl (sq_ev rfl (ev_neq J J) ?_)))))
                  refine mvr J rfl ?_
                  refine sq_split 194 J (fun g17_2 => ?_) (fun g17_2 => ?_)
                  · skip
                    have g17_2' := g17_2
                    try simp only [qq] at g17_2'
                    refine sq_yes rfl rfl (less_b g17_2) rfl (ev_mv (v := .raw _) J) ?_
                    refine sq_yes rfl rfl (less_b g17_2) rfl (ev_load_agg J rfl ty23 rfl) ?_
                    refine sq_yes rfl rfl (less_b g17_2) rfl (ev_mv (v := .sl _ _) J) ?_
                    refine sq_yes rfl rfl (less_b g17_2) rfl (ev_mv (v := .raw _) J) ?_
                    refine sq_yes rfl rfl (less_b g17_2) rfl (ev_call en42 J (rcell_pure c.s a k hs ca hkL) ⟨J, J, J, trivial⟩) ?_
                    refine sq_yes rfl rfl (less_b g17_2) rfl (ev_neq J J) ?_
                    refine sq_ev rfl (ev_pickT (v := .raw _) (less_b g17_2) J) ?_
                    refine sq_nil ?_
                    refine aw_cond J (fun c_201 => ?_) (fun c_201 => ?_)
                    · skip
                      have c_201' := c_201
                      try simp only [qq] at c_201'
                      exact absurd (h3 k hkL (fun e => by rw [e] at g17_2'; exact g17_2' rfl)) (fun e => by rw [e] at c_201'; exact c_201' rfl)
                    · skip
                      have c_201' := c_201
                      try simp only [qq] at c_201'
                      refine aw_skip (aw_region (mvr J rfl (sq_ev rfl (ev_add J J (wr (by omega) (by omega))) ?_)))
                      refine asr J rfl (sq_nil ?_)
                      exact ⟨⟨k + 1, by omega⟩, by simp only; omega, Sub.slots ⟨J, J, J, J, trivial⟩⟩
                  · skip
                    have g17_2' := g17_2
                    try simp only [qq] at g17_2'
                    refine sq_no rfl rfl (less_b g17_2) rfl rfl ?_
                    refine sq_no rfl rfl (less_b g17_2) rfl rfl ?_
                    refine sq_no rfl rfl (less_b g17_2) rfl rfl ?_
                    refine sq_no rfl rfl (less_b g17_2) rfl rfl ?_
                    refine sq_no rfl rfl (less_b g17_2) rfl rfl ?_
                    refine sq_no rfl rfl (less_b g17_2) rfl rfl ?_
                    refine sq_ev rfl (ev_pickF (v := .raw _) (less_b g17_2) J) ?_
                    refine sq_nil ?_
                    refine aw_false J ?_
                    refine aw_skip (aw_region (mvr J rfl (sq_ev rfl (ev_add J J (wr (by omega) (by omega))) ?_)))
                    refine asr J rfl (sq_nil ?_)
                    exact ⟨⟨k + 1, by omega⟩, by simp only; omega, Sub.slots ⟨J, J, J, J, trivial⟩⟩
                · skip
                  have c_185' := c_185
                  try simp only [qq] at c_185'
                  refine aw_exit (aw_seq (aw_region (sq_ev rfl (ev_call en27 J (known_pure) trivial) ?_)))
                  refine asr J rfl (sq_nil (aw_ret ?_))
                  exact retQ_pure (v := .raw _) rfl rfl J
          · skip
            have g11_32' := g11_32
            try simp only [qq] at g11_32'
            refine sq_no rfl rfl (less_b g11_32) rfl rfl ?_
            refine sq_no rfl rfl (less_b g11_32) rfl rfl ?_
            refine sq_no rfl rfl (less_b g11_32) rfl rfl ?_
            refine sq_yes rfl rfl (less_b g11_29) rfl (ev_pickF (v := .raw _) (less_b g11_32) J) ?_
            refine sq_ev rfl (ev_pickF (v := .raw _) (less_b g11_29) J) ?_
            refine mvr J rfl (sq_yes rfl rfl J rfl (ev_load_agg J rfl ty23 rfl) ?_)
            refine ysl rfl rfl J rfl J ?_
            refine sq_yes rfl rfl J rfl (ev_call en29 J (k29) ⟨J, J, trivial⟩) ?_
            refine sq_yes rfl rfl J rfl (ev_not J) ?_
            refine pf rfl J J (mvr J rfl (sq_yes rfl rfl J rfl (ev_load_agg J rfl ty23 rfl) ?_))
            refine ysl rfl rfl J rfl J ?_
            refine sq_yes rfl rfl J rfl (ev_call en29 J (k29') ⟨J, J, trivial⟩) ?_
            refine sq_yes rfl rfl J rfl (ev_not J) ?_
            refine pf rfl J J (sq_nil ?_)
            refine aw_cond J (fun c_178 => ?_) (fun c_178 => ?_)
            · skip
              have c_178' := c_178
              try simp only [qq] at c_178'
              first | exact absurd c_178 (by decide) | (exfalso; simp at c_178; done) | (exfalso; simp at c_178; omega) | (exfalso; simp_all; done) | (exfalso; simp_all; omega)
            · skip
              have c_178' := c_178
              try simp only [qq] at c_178'
              refine aw_skip (aw_seq (aw_seq (aw_region (asr J rfl (sq_nil (aw_block ?_))))))
              refine aw_loopk (ι := { k : Nat // k ≤ (c.s.wide * c.s.high).toNat }) [6, 14, 16] (fun g => [(26, I g.1)]) (fun H g => H) (fun g => (c.s.wide * c.s.high).toNat - g.1) (⟨0, Nat.zero_le _⟩) ⟨J, J, J, J, trivial⟩ rfl ?_
              rintro ⟨k, hk⟩
              dsimp only [keepS, St.put, sget, slotsOf, nn1, nn2, nn3, nn4, nn5, nn6, Nat.reduceBEq, Nat.reduceAdd, nn7, nn8]
              refine aw_seq (aw_seq (aw_region (mvr J rfl (sq_ev rfl (ev_fieldAddr fo23_0 J) ?_))))
              refine sq_ev rfl (ev_load J rfl ty3 rfl) ?_
              refine sq_ev rfl (ev_fieldAddr fo23_1 J) ?_
              refine sq_ev rfl (ev_load J rfl ty3 rfl) ?_
              refine sq_ev rfl (ev_mul J J (wr (by omega) (by omega))) ?_
              refine sq_ev rfl (ev_lss J J) ?_
              refine sq_nil ?_
              refine aw_cond J (fun c_185 => ?_) (fun c_185 => ?_)
              · skip
                have c_185' := c_185
                try simp only [qq] at c_185'
                have hkL : (k : Int) < c.s.wide * c.s.high := by simpa using c_185
                refine aw_skip (aw_seq (aw_block (aw_seq (aw_region (sq_ev rfl (ev_load_agg J rfl ty23 rfl) ?_)))))
                refine mvs rfl J (mvr J rfl (sq_ev rfl (ev_call en42 J (rcell_pure c.s b k hs cb hkL) ⟨J, J, J, trivial⟩) ?_))
                refine asr J rfl (sq_nil (aw_seq (aw_region (mvr J rfl (sq_ev rfl (ev_neq J J) ?_)))))
                refine mvr J rfl ?_
                refine sq_split 194 J (fun g17_2 => ?_) (fun g17_2 => ?_)
                · skip
                  have g17_2' := g17_2
                  try simp only [qq] at g17_2'
                  refine sq_yes rfl rfl (less_b g17_2) rfl (ev_mv (v := .raw _) J) ?_
                  refine sq_yes rfl rfl (less_b g17_2) rfl (ev_load_agg J rfl ty23 rfl) ?_
                  refine sq_yes rfl rfl (less_b g17_2) rfl (ev_mv (v := .sl _ _) J) ?_
                  refine sq_yes rfl rfl (less_b g17_2) rfl (ev_mv (v := .raw _) J) ?_
                  refine sq_yes rfl rfl (less_b g17_2) rfl (ev_call en42 J (rcell_pure c.s a k hs ca hkL) ⟨J, J, J, trivial⟩) ?_
                  refine sq_yes rfl rfl (less_b g17_2) rfl (ev_neq J J) ?_
                  refine sq_ev rfl (ev_pickT (v := .raw _) (less_b g17_2) J) ?_
                  refine sq_nil ?_
                  refine aw_cond J (fun c_201 => ?_) (fun c_201 => ?_)
                  · skip
                    have c_201' := c_201
                    try simp only [qq] at c_201'
                    exact absurd (h3 k hkL (fun e => by rw [e] at g17_2'; exact g17_2' rfl)) (fun e => by rw [e] at c_201'; exact c_201' rfl)
                  · skip
                    have c_201' := c_201
                    try simp only [qq] at c_201'
                    refine aw_skip (aw_region (mvr J rfl (sq_ev rfl (ev_add J J (wr (by omega) (by omega))) ?_)))
                    refine asr J rfl (sq_nil ?_)
                    exact ⟨⟨k + 1, by omega⟩, by simp only; omega, Sub.slots ⟨J, J, J, J, trivial⟩⟩
                · skip
                  have g17_2' := g17_2
                  try simp only [qq] at g17_2'
                  refine sq_no rfl rfl (less_b g17_2) rfl rfl ?_
                  refine sq_no rfl rfl (less_b g17_2) rfl rfl ?_
                  refine sq_no rfl rfl (less_b g17_2) rfl rfl ?_
                  refine sq_no rfl rfl (less_b g17_2) rfl rfl ?_
                  refine sq_no rfl rfl (less_b g17_2) rfl rfl ?_
                  refine sq_no rfl rfl (less_b g17_2) rfl rfl ?_
                  refine sq_ev rfl (ev_pickF (v := .raw _) (less_b g17_2) J) ?_
                  refine sq_nil ?_
                  refine aw_false J ?_
                  refine aw_skip (aw_region (mvr J rfl (sq_ev rfl (ev_add J J (wr (by omega) (by omega))) ?_)))
                  refine asr J rfl (sq_nil ?_)
                  exact ⟨⟨k + 1, by omega⟩, by simp only; omega, Sub.slots ⟨J, J, J, J, trivial⟩⟩
              · skip
                have c_185' := c_185
                try simp only [qq] at c_185'
                refine aw_exit (aw_seq (aw_region (sq_ev rfl (ev_call en27 J (known_pure) trivial) ?_)))
                refine asr J rfl (sq_nil (aw_ret ?_))
                exact retQ_pure (v := .raw _) rfl rfl J
      · skip
        have g11_24' := g11_24
        try simp only [qq] at g11_24'
        refine sq_no rfl rfl (less_b g11_24) rfl rfl ?_
        refine sq_no rfl rfl (less_b g11_24) rfl rfl ?_
        refine sq_yes rfl rfl J rfl (ev_pickF (v := .raw _) (less_b g11_24) J) ?_
        refine pf rfl J J (mvr J rfl (ymr rfl rfl J rfl J (sq_yes rfl rfl J rfl (ev_neq J J) ?_)))
        refine ymr rfl rfl J rfl J ?_
        refine sq_split 161 J (fun g11_32 => ?_) (fun g11_32 => ?_)
        · skip
          have g11_32' := g11_32
          try simp only [qq] at g11_32'
          refine sq_yes rfl rfl (less_b g11_32) rfl (ev_mv (v := .raw _) J) ?_
          refine sq_yes rfl rfl (less_b g11_32) rfl (ev_mv (v := .raw _) J) ?_
          refine sq_yes rfl rfl (less_b g11_32) rfl (ev_neq J J) ?_
          refine sq_yes rfl rfl J rfl (ev_pickT (v := .raw _) (less_b g11_32) J) ?_
          refine pf rfl J J (mvr J rfl ?_)
          refine sq_split 167 J (fun g11_38 => ?_) (fun g11_38 => ?_)
          · skip
            have g11_38' := g11_38
            try simp only [qq] at g11_38'
            first | exact absurd g11_38 (by decide) | (exfalso; simp at g11_38; done) | (exfalso; simp at g11_38; omega) | (exfalso; simp_all; done) | (exfalso; simp_all; omega)
          · skip
            have g11_38' := g11_38
            try simp only [qq] at g11_38'
            refine sq_yes rfl rfl (less_b g11_38) rfl (ev_load_agg J rfl ty23 rfl) ?_
            refine sq_yes rfl rfl (less_b g11_38) rfl (ev_mv (v := .sl _ _) J) ?_
            refine sq_yes rfl rfl (less_b g11_38) rfl (ev_call en29 J (k29) ⟨J, J, trivial⟩) ?_
            refine sq_yes rfl rfl (less_b g11_38) rfl (ev_not J) ?_
            refine sq_ev rfl (ev_pickF (v := .raw _) (less_b g11_38) J) ?_
            refine mvr J rfl (sq_yes rfl rfl J rfl (ev_load_agg J rfl ty23 rfl) ?_)
            refine ysl rfl rfl J rfl J ?_
            refine sq_yes rfl rfl J rfl (ev_call en29 J (k29') ⟨J, J, trivial⟩) ?_
            refine sq_yes rfl rfl J rfl (ev_not J) ?_
            refine pf rfl J J (sq_nil ?_)
            refine aw_cond J (fun c_178 => ?_) (fun c_178 => ?_)
            · skip
              have c_178' := c_178
              try simp only [qq] at c_178'
              first | exact absurd c_178 (by decide) | (exfalso; simp at c_178; done) | (exfalso; simp at c_178; omega) | (exfalso; simp_all; done) | (exfalso; simp_all; omega)
            · skip
              have c_178' := c_178
              try simp only [qq] at c_178'
              refine aw_skip (aw_seq (aw_seq (aw_region (asr J rfl (sq_nil (aw_block ?_))))))
              refine aw_loopk (ι := { k : Nat // k ≤ (c.s.wide * c.s.high).toNat }) [6, 14, 16] (fun g => [(26, I g.1)]) (fun H g => H) (fun g => (c.s.wide * c.s.high).toNat - g.1) (⟨0, Nat.zero_le _⟩) ⟨J, J, J, J, trivial⟩ rfl ?_
              rintro ⟨k, hk⟩
              dsimp only [keepS, St.put, sget, slotsOf, nn1, nn2, nn3, nn4, nn5, nn6, Nat.reduceBEq, Nat.reduceAdd, nn7, nn8]
              refine aw_seq (aw_seq (aw_region (mvr J rfl (sq_ev rfl (ev_fieldAddr fo23_0 J) ?_))))
              refine sq_ev rfl (ev_load J rfl ty3 rfl) ?_
              refine sq_ev rfl (ev_fieldAddr fo23_1 J) ?_
              refine sq_ev rfl (ev_load J rfl ty3 rfl) ?_
              refine sq_ev rfl (ev_mul J J (wr (by omega) (by omega))) ?_
              refine sq_ev rfl (ev_lss J J) ?_
              refine sq_nil ?_
              refine aw_cond J (fun c_185 => ?_) (fun c_185 => ?_)
              · skip
                have c_185' := c_185
                try simp only [qq] at c_185'
                have hkL : (k : Int) < c.s.wide * c.s.high := by simpa using c_185
                refine aw_skip (aw_seq (aw_block (aw_seq (aw_region (sq_ev rfl (ev_load_agg J rfl ty23 rfl) ?_)))))
                refine mvs rfl J (mvr J rfl (sq_ev rfl (ev_call en42 J (rcell_pure c.s b k hs cb hkL) ⟨J, J, J, trivial⟩) ?_))
                refine asr J rfl (sq_nil (aw_seq (aw_region (mvr J rfl (sq_ev rfl (ev_neq J J) ?_)))))
                refine mvr J rfl ?_
                refine sq_split 194 J (fun g17_2 => ?_) (fun g17_2 => ?_)
                · skip
                  have g17_2' := g17_2
                  try simp only [qq] at g17_2'
                  refine sq_yes rfl rfl (less_b g17_2) rfl (ev_mv (v := .raw _) J) ?_
                  refine sq_yes rfl rfl (less_b g17_2) rfl (ev_load_agg J rfl ty23 rfl) ?_
                  refine sq_yes rfl rfl (less_b g17_2) rfl (ev_mv (v := .sl _ _) J) ?_
                  refine sq_yes rfl rfl (less_b g17_2) rfl (ev_mv (v := .raw _) J) ?_
                  refine sq_yes rfl rfl (less_b g17_2) rfl (ev_call en42 J (rcell_pure c.s a k hs ca hkL) ⟨J, J, J, trivial⟩) ?_
                  refine sq_yes rfl rfl (less_b g17_2) rfl (ev_neq J J) ?_
                  refine sq_ev rfl (ev_pickT (v := .raw _) (less_b g17_2) J) ?_
                  refine sq_nil ?_
                  refine aw_cond J (fun c_201 => ?_) (fun c_201 => ?_)
                  · skip
                    have c_201' := c_201
                    try simp only [qq] at c_201'
                    exact absurd (h3 k hkL (fun e => by rw [e] at g17_2'; exact g17_2' rfl)) (fun e => by rw [e] at c_201'; exact c_201' rfl)
                  · skip
                    have c_201' := c_201
                    try simp only [qq] at c_201'
                    refine aw_skip (aw_region (mvr J rfl (sq_ev rfl (ev_add J J (wr (by omega) (by omega))) ?_)))
                    refine asr J rfl (sq_nil ?_)
                    exact ⟨⟨k + 1, by omega⟩, by simp only; omega, Sub.slots ⟨J, J, J, J, trivial⟩⟩
                · skip
                  have g17_2' := g17_2
                  try simp only [qq] at g17_2'
                  refine sq_no rfl rfl (less_b g17_2) rfl rfl ?_
                  refine sq_no rfl rfl (less_b g17_2) rfl rfl ?_
                  refine sq_no rfl rfl (less_b g17_2) rfl rfl ?_
                  refine sq_no rfl rfl (less_b g17_2) rfl rfl ?_
                  refine sq_no rfl rfl (less_b g17_2) rfl rfl ?_
                  refine sq_no rfl rfl (less_b g17_2) rfl rfl ?_
                  refine sq_ev rfl (ev_pickF (v := .raw _) (less_b g17_2) J) ?_
                  refine sq_nil ?_
                  refine aw_false J ?_
                  refine aw_skip (aw_region (mvr J rfl (sq_ev rfl (ev_add J J (wr (by omega) (by omega))) ?_)))
                  refine asr J rfl (sq_nil ?_)
                  exact ⟨⟨k + 1, by omega⟩, by simp only; omega, Sub.slots ⟨J, J, J, J, trivial⟩⟩
              · skip
                have c_185' := c_185
                try simp only [qq] at c_185'
                refine aw_exit (aw_seq (aw_region (sq_ev rfl (ev_call en27 J (known_pure) trivial) ?_)))
                refine asr J rfl (sq_nil (aw_ret ?_))
                exact retQ_pure (v := .raw _) rfl rfl J
        · skip
          have g11_32' := g11_32
          try simp only [qq] at g11_32'
          refine sq_no rfl rfl (less_b g11_32) rfl rfl ?_
          refine sq_no rfl rfl (less_b g11_32) rfl rfl ?_
          refine sq_no rfl rfl (less_b g11_32) rfl rfl ?_
          refine sq_yes rfl rfl J rfl (ev_pickF (v := .raw _) (less_b g11_32) J) ?_
          refine pf rfl J J (mvr J rfl (sq_yes rfl rfl J rfl (ev_load_agg J rfl ty23 rfl) ?_))
          refine ysl rfl rfl J rfl J ?_
          refine sq_yes rfl rfl J rfl (ev_call en29 J (k29) ⟨J, J, trivial⟩) ?_
          refine sq_yes rfl rfl J rfl (ev_not J) ?_
          refine pf rfl J J (mvr J rfl (sq_yes rfl rfl J rfl (ev_load_agg J rfl ty23 rfl) ?_))
          refine ysl rfl rfl J rfl J ?_
          refine sq_yes rfl rfl J rfl (ev_call en29 J (k29') ⟨J, J, trivial⟩) ?_
          refine sq_yes rfl rfl J rfl (ev_not J) ?_
          refine pf rfl J J (sq_nil ?_)
          refine aw_cond J (fun c_178 => ?_) (fun c_178 => ?_)
          · skip
            have c_178' := c_178
            try simp only [qq] at c_178'
            first | exact absurd c_178 (by decide) | (exfalso; simp at c_178; done) | (exfalso; simp at c_178; omega) | (exfalso; simp_all; done) | (exfalso; simp_all; omega)
          · skip
            have c_178' := c_178
            try simp only [qq] at c_178'
            refine aw_skip (aw_seq (aw_seq (aw_region (asr J rfl (sq_nil (aw_block ?_))))))
            refine aw_loopk (ι := { k : Nat // k ≤ (c.s.wide * c.s.high).toNat }) [6, 14, 16] (fun g => [(26, I g.1)]) (fun H g => H) (fun g => (c.s.wide * c.s.high).toNat - g.1) (⟨0, Nat.zero_le _⟩) ⟨J, J, J, J, trivial⟩ rfl ?_
            rintro ⟨k, hk⟩
            dsimp only [keepS, St.put, sget, slotsOf, nn1, nn2, nn3, nn4, nn5, nn6, Nat.reduceBEq, Nat.reduceAdd, nn7, nn8]
            refine aw_seq (aw_seq (aw_region (mvr J rfl (sq_ev rfl (ev_fieldAddr fo23_0 J) ?_))))
            refine sq_ev rfl (ev_load J rfl ty3 rfl) ?_
            refine sq_ev rfl (ev_fieldAddr fo23_1 J) ?_
            refine sq_ev rfl (ev_load J rfl ty3 rfl) ?_
            refine sq_ev rfl (ev_mul J J (wr (by omega) (by omega))) ?_
            refine sq_ev rfl (ev_lss J J) ?_
            refine sq_nil ?_
            refine aw_cond J (fun c_185 => ?_) (fun c_185 => ?_)
            · skip
              have c_185' := c_185
              try simp only [qq] at c_185'
              have hkL : (k : Int) < c.s.wide * c.s.high := by simpa using c_185
              refine aw_skip (aw_seq (aw_block (aw_seq (aw_region (sq_ev rfl (ev_load_agg J rfl ty23 rfl) ?_)))))
              refine mvs rfl J (mvr J rfl (sq_ev rfl (ev_call en42 J (rcell_pure c.s b k hs cb hkL) ⟨J, J, J, trivial⟩) ?_))
              refine asr J rfl (sq_nil (aw_seq (aw_region (mvr J rfl (sq_ev rfl (ev_neq J J) ?_)))))
              refine mvr J rfl ?_
              refine sq_split 194 J (fun g17_2 => ?_) (fun g17_2 => ?_)
              · skip
                have g17_2' := g17_2
                try simp only [qq] at g17_2'
                refine sq_yes rfl rfl (less_b g17_2) rfl (ev_mv (v := .raw _) J) ?_
                refine sq_yes rfl rfl (less_b g17_2) rfl (ev_load_agg J rfl ty23 rfl) ?_
                refine sq_yes rfl rfl (less_b g17_2) rfl (ev_mv (v := .sl _ _) J) ?_
                refine sq_yes rfl rfl (less_b g17_2) rfl (ev_mv (v := .raw _) J) ?_
                refine sq_yes rfl rfl (less_b g17_2) rfl (ev_call en42 J (rcell_pure c.s a k hs ca hkL) ⟨J, J, J, trivial⟩) ?_
                refine sq_yes rfl rfl (less_b g17_2) rfl (ev_neq J J) ?_
                refine sq_ev rfl (ev_pickT (v := .raw _) (less_b g17_2) J) ?_
                refine sq_nil ?_
                refine aw_cond J (fun c_201 => ?_) (fun c_201 => ?_)
                · skip
                  have c_201' := c_201
                  try simp only [qq] at c_201'
                  exact absurd (h3 k hkL (fun e => by rw [e] at g17_2'; exact g17_2' rfl)) (fun e => by rw [e] at c_201'; exact c_201' rfl)
                · skip
                  have c_201' := c_201
                  try simp only [qq] at c_201'
                  refine aw_skip (aw_region (mvr J rfl (sq_ev rfl (ev_add J J (wr (by omega) (by omega))) ?_)))
                  refine asr J rfl (sq_nil ?_)
                  exact ⟨⟨k + 1, by omega⟩, by simp only; omega, Sub.slots ⟨J, J, J, J, trivial⟩⟩
              · skip
                have g17_2' := g17_2
                try simp only [qq] at g17_2'
                refine sq_no rfl rfl (less_b g17_2) rfl rfl ?_
                refine sq_no rfl rfl (less_b g17_2) rfl rfl ?_
                refine sq_no rfl rfl (less_b g17_2) rfl rfl ?_
                refine sq_no rfl rfl (less_b g17_2) rfl rfl ?_
                refine sq_no rfl rfl (less_b g17_2) rfl rfl ?_
                refine sq_no rfl rfl (less_b g17_2) rfl rfl ?_
                refine sq_ev rfl (ev_pickF (v := .raw _) (less_b g17_2) J) ?_
                refine sq_nil ?_
                refine aw_false J ?_
                refine aw_skip (aw_region (mvr J rfl (sq_ev rfl (ev_add J J (wr (by omega) (by omega))) ?_)))
                refine asr J rfl (sq_nil ?_)
                exact ⟨⟨k + 1, by omega⟩, by simp only; omega, Sub.slots ⟨J, J, J, J, trivial⟩⟩
            · skip
              have c_185' := c_185
              try simp only [qq] at c_185'
              refine aw_exit (aw_seq (aw_region (sq_ev rfl (ev_call en27 J (known_pure) trivial) ?_)))
              refine asr J rfl (sq_nil (aw_ret ?_))
              exact retQ_pure (v := .raw _) rfl rfl J
/-- **OutlineFlames.** -/
theorem law17 (s : Sg) (f : Fg) (p : Pc) (g : Fg) (q : Pc) (more : Int) (hm1 : -9223372036854775808 ≤ more) (hm2 : more ≤ 9223372036854775807) : APure Tryz.prog 17 [stA s, fgA f, pcA p, fgA g, pcA q, I more] (B true) := by
  obtain ⟨c, rfl, rfl, rfl⟩ : ∃ c : Ca, s = c.s ∧ f = c.f ∧ p = c.p := ⟨⟨s, f, p⟩, rfl, rfl, rfl⟩
  cases hg : (shortB c.f && (shortB g && (stOK c.s && (fgOK c.f && (pcOK c.s c.p && (fgOK g && (pcOK c.s q && decide (0 ≤ more ∧ more ≤ 3 - c.s.flame)))))))) with
  | false => exact flames_gate c g q more ⟨hm1, hm2⟩ hg
  | true =>
    simp only [Bool.and_eq_true, decide_eq_true_eq] at hg
    obtain ⟨h1, h2, h3, h4, h5, h6, h7, h8⟩ := hg
    have hs := stOK_iff.1 h3
    have hts : stOK (⟨c.s.wide, c.s.high, c.s.far, c.s.flame + more, c.s.x, c.s.y⟩ : Sg) = true := stOK_iff.2 (by simp only; omega)
    have hp1 := pcOK_iff.1 h5
    have hp2 := pcOK_iff.1 h7
    have o1 : caOK c = true := by unfold caOK; rw [h3, h4, h5]; rfl
    have o2 : caOK ⟨c.s, g, q⟩ = true := by unfold caOK; simp only [h3, h6, h7, Bool.and_self]
    have p1 : pcOK (⟨c.s.wide, c.s.high, c.s.far, c.s.flame + more, c.s.x, c.s.y⟩ : Sg) c.p = true := pcOK_iff.2 hp1
    have p2 : pcOK (⟨c.s.wide, c.s.high, c.s.far, c.s.flame + more, c.s.x, c.s.y⟩ : Sg) q = true := pcOK_iff.2 hp2
    have t1 : caOK ⟨(⟨c.s.wide, c.s.high, c.s.far, c.s.flame + more, c.s.x, c.s.y⟩ : Sg), c.f, c.p⟩ = true := by unfold caOK; simp only [hts, h4, p1, Bool.and_self]
    have t2 : caOK ⟨(⟨c.s.wide, c.s.high, c.s.far, c.s.flame + more, c.s.x, c.s.y⟩ : Sg), g, q⟩ = true := by unfold caOK; simp only [hts, h6, p2, Bool.and_self]
    have gr : Gr c ⟨(⟨c.s.wide, c.s.high, c.s.far, c.s.flame + more, c.s.x, c.s.y⟩ : Sg), c.f, c.p⟩ := ⟨rfl, rfl, rfl, rfl, rfl, rfl, rfl, by simp only; omega⟩
    have gr2 : Gr ⟨c.s, g, q⟩ ⟨(⟨c.s.wide, c.s.high, c.s.far, c.s.flame + more, c.s.x, c.s.y⟩ : Sg), g, q⟩ := ⟨rfl, rfl, rfl, rfl, rfl, rfl, rfl, by simp only; omega⟩
    have gd := (caOK_B o1).good
    have gd2 := (caOK_B o2).good
    have k23 : APure Tryz.prog 23 [strs c.f] (B true) := by have := short_pure c.f; rwa [h1] at this
    have k23' : APure Tryz.prog 23 [strs g] (B true) := by have := short_pure g; rwa [h2] at this
    have k24 : APure Tryz.prog 24 [stA c.s] (B true) := by have := rstage_pure c.s; rwa [h3] at this
    have k25 : APure Tryz.prog 25 [fgA c.f] (B true) := by have := rfigure_pure c.f; rwa [h4] at this
    have k25' : APure Tryz.prog 25 [fgA g] (B true) := by have := rfigure_pure g; rwa [h6] at this
    have k26 : APure Tryz.prog 26 [stA c.s, pcA c.p] (B true) := by have := rplace_pure c.s c.p (by omega); rwa [h5] at this
    have k26' : APure Tryz.prog 26 [stA c.s, pcA q] (B true) := by have := rplace_pure c.s q (by omega); rwa [h7] at this
    have k28 := shadowE_pure c
    have k28' := shadowE_pure ⟨(⟨c.s.wide, c.s.high, c.s.far, c.s.flame + more, c.s.x, c.s.y⟩ : Sg), c.f, c.p⟩
    have k60 := fitsE_pure c
    have k60' := fitsE_pure ⟨(⟨c.s.wide, c.s.high, c.s.far, c.s.flame + more, c.s.x, c.s.y⟩ : Sg), c.f, c.p⟩
    have k73 := meets_pure c g q
    have k73' := meets_pure ⟨(⟨c.s.wide, c.s.high, c.s.far, c.s.flame + more, c.s.x, c.s.y⟩ : Sg), c.f, c.p⟩ g q
    simp only [o1, o2, if_true, Bool.true_and, Bool.and_self, show er true = 0 from rfl] at k28 k60 k73
    simp only [t1, t2, if_true, Bool.true_and, Bool.and_self, show er true = 0 from rfl] at k28' k60' k73'
    have cA := shadow_clo c
    have cB : Clo c.s (Ca.mk (⟨c.s.wide, c.s.high, c.s.far, c.s.flame + more, c.s.x, c.s.y⟩ : Sg) c.f c.p).shadow := ⟨(shadow_clo (Ca.mk (⟨c.s.wide, c.s.high, c.s.far, c.s.flame + more, c.s.x, c.s.y⟩ : Sg) c.f c.p)).len, (shadow_clo (Ca.mk (⟨c.s.wide, c.s.high, c.s.far, c.s.flame + more, c.s.x, c.s.y⟩ : Sg) c.f c.p)).row⟩
    have k29 : APure Tryz.prog 29 [stA c.s, strs c.shadow] (B true) := by have := whole_pure c.s c.shadow (clo_shp h3 cA); rwa [shadow_whole h3] at this
    have k29' : APure Tryz.prog 29 [stA c.s, strs (Ca.mk (⟨c.s.wide, c.s.high, c.s.far, c.s.flame + more, c.s.x, c.s.y⟩ : Sg) c.f c.p).shadow] (B true) := by
      have h := whole_pure c.s (Ca.mk (⟨c.s.wide, c.s.high, c.s.far, c.s.flame + more, c.s.x, c.s.y⟩ : Sg) c.f c.p).shadow (clo_shp h3 cB)
      have e : wholeB c.s (Ca.mk (⟨c.s.wide, c.s.high, c.s.far, c.s.flame + more, c.s.x, c.s.y⟩ : Sg) c.f c.p).shadow = wholeB (⟨c.s.wide, c.s.high, c.s.far, c.s.flame + more, c.s.x, c.s.y⟩ : Sg) (Ca.mk (⟨c.s.wide, c.s.high, c.s.far, c.s.flame + more, c.s.x, c.s.y⟩ : Sg) c.f c.p).shadow := rfl
      rwa [e, shadow_whole (c := Ca.mk (⟨c.s.wide, c.s.high, c.s.far, c.s.flame + more, c.s.x, c.s.y⟩ : Sg) c.f c.p) hts] at h
    refine flames_core h3 h8 cA cB k23 k23' k24 k25 k25' k26 k26' k28 k28' k60 k60' k73 k73' k29 k29' (fun h => gr.fits gd h) (fun h => gr.meets gr2 gd gd2 h) fun k hk hne => ?_
    obtain ⟨e1, e2, e3⟩ := chAt_shadow h3 hk
    obtain ⟨f1, f2, f3⟩ := chAt_shadow (c := ⟨(⟨c.s.wide, c.s.high, c.s.far, c.s.flame + more, c.s.x, c.s.y⟩ : Sg), c.f, c.p⟩) hts hk
    have f1 : chAt c.s.wide (Ca.mk (⟨c.s.wide, c.s.high, c.s.far, c.s.flame + more, c.s.x, c.s.y⟩ : Sg) c.f c.p).shadow k = (Ca.mk (⟨c.s.wide, c.s.high, c.s.far, c.s.flame + more, c.s.x, c.s.y⟩ : Sg) c.f c.p).cell ((k % c.s.wide.toNat : Nat) : Int) ((k / c.s.wide.toNat : Nat) : Int) := f1
    rw [f1] at hne
    rw [e1, f1]
    rcases cell_ch3 (Ca.mk (⟨c.s.wide, c.s.high, c.s.far, c.s.flame + more, c.s.x, c.s.y⟩ : Sg) c.f c.p) ((k % c.s.wide.toNat : Nat) : Int) ((k / c.s.wide.toNat : Nat) : Int) with e | e | e
    · rw [e, gr.c35 gd e]
    · exact absurd e hne
    · rw [e, gr.c46 gd e]
end Go.Proofs.YtmbknoaneglilaaGreatDoor
