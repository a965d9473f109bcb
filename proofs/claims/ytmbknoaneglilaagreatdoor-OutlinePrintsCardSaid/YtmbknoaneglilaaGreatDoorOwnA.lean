/-
  A part of the proof: conditions: none beyond each theorem's own.
-/
import Derived.Test.YtmbknoaneglilaaGreatDoorSpecA
import Derived.Test.YtmbknoaneglilaaGreatDoorLogicD
import Derived.KernelRfl
import Derived.Lib.LaidTab
import Derived.Lib.ItoaNum
import Derived.Test.YtmbknoaneglilaaGreatDoorProg
import Derived.Test.YtmbknoaneglilaaGreatDoorWalkF
import Derived.Test.YtmbknoaneglilaaGreatDoorWalkG
import Derived.ChangeKeysEq
import Derived.Laws.IdiomStrings
import Derived.Laws.IdiomCopy
import Derived.Test.YtmbknoaneglilaaGreatDoorLogicA
import Derived.Test.YtmbknoaneglilaaGreatDoorLogicB
import Derived.Test.YtmbknoaneglilaaGreatDoorLogicC
import Derived.Test.YtmbknoaneglilaaGreatDoorShelf
import Derived.Test.YtmbknoaneglilaaGreatDoorWalkA
import Derived.Test.YtmbknoaneglilaaGreatDoorWalkB
import Derived.Test.YtmbknoaneglilaaGreatDoorWalkC
import Derived.Test.YtmbknoaneglilaaGreatDoorWalkD
import Derived.Test.YtmbknoaneglilaaGreatDoorWalkE
import Derived.Test.YtmbknoaneglilaaGreatDoorRow
set_option linter.all false
set_option maxHeartbeats 8000000
namespace Ol
open Ni (inn)
theorem mists_iff {a b : List Th} : mists a b = true ↔ ∃ t ∈ a, ∃ u ∈ b, agree t.sh u.sh = true := by
  unfold mists mist; simp only [List.any_eq_true]
theorem pairI_inv {L : List (List Th)} {i : Nat} (h : pairI L i = none) : ∀ k, i < k → k < L.length → mists (L.getD i []) (L.getD k []) = false := by
  intro k hik hk
  unfold pairI at h
  cases hf : (List.range L.length).find? (fun k => decide (i < k) && mists (L.getD i []) (L.getD k [])) with
  | some q => rw [hf] at h; cases h
  | none =>
    rw [List.find?_eq_none] at hf
    have := hf k (List.mem_range.2 hk)
    simpa [hik] using this
theorem pair_none_inv {L : List (List Th)} (h : pairOf L = none) : ∀ i k, i < k → k < L.length → mists (L.getD i []) (L.getD k []) = false := by
  intro i k hik hk
  unfold pairOf at h
  rw [List.findSome?_eq_none_iff] at h
  exact pairI_inv (h i (List.mem_range.2 (by omega))) k hik hk
theorem findSome_inv {α : Type} {f : Nat → Option α} : ∀ {n : Nat} {a : α}, (List.range n).findSome? f = some a → ∃ i, i < n ∧ f i = some a ∧ ∀ j, j < i → f j = none
  | 0, a, h => by simp at h
  | n + 1, a, h => by
    rw [List.range_succ, List.findSome?_append] at h
    cases hp : (List.range n).findSome? f with
    | some b =>
      rw [hp] at h; simp only [Option.some_or, Option.some.injEq] at h; subst h
      obtain ⟨i, h1, h2, h3⟩ := findSome_inv hp
      exact ⟨i, by omega, h2, h3⟩
    | none =>
      rw [hp] at h
      rw [List.findSome?_eq_none_iff] at hp
      refine ⟨n, by omega, by simpa using h, fun j hj => hp j (List.mem_range.2 hj)⟩
theorem pair_some_inv {L : List (List Th)} {a b : Nat} (h : pairOf L = some (a, b)) : (a < b ∧ b < L.length) ∧ ∀ i k, i < k → k < L.length → mists (L.getD i []) (L.getD k []) = true → a < i ∨ (a = i ∧ b ≤ k) := by
  obtain ⟨i0, hi0, hp, hno⟩ := findSome_inv h
  have hp' := hp
  unfold pairI at hp'
  cases hf : (List.range L.length).find? (fun k => decide (i0 < k) && mists (L.getD i0 []) (L.getD k [])) with
  | none => rw [hf] at hp'; cases hp'
  | some q =>
    rw [hf] at hp'
    simp only [Option.map_some, Option.some.injEq, Prod.mk.injEq] at hp'
    obtain ⟨rfl, rfl⟩ := hp'
    rw [List.find?_range_eq_some] at hf
    obtain ⟨h1, h2, h3⟩ := hf
    simp only [Bool.and_eq_true, decide_eq_true_eq] at h1
    refine ⟨⟨h1.1, List.mem_range.1 h2⟩, fun i k hik hk hm => ?_⟩
    rcases Nat.lt_trichotomy i0 i with h | h | h
    · exact .inl h
    · subst h
      refine .inr ⟨rfl, ?_⟩
      rcases Nat.lt_or_ge k q with hq | hq
      · have := h3 k hq
        simp only [hik, decide_true, Bool.true_and, hm, Bool.not_true] at this
        cases this
      · exact hq
    · have := pairI_inv (hno i h) k hik hk
      rw [hm] at this; cases this
end Ol
namespace Ol
open Ni (inn)
theorem mem_rdgs {x : Sn} {t : Th} : t ∈ rdgs x ↔ t.rd.fig < x.l.length ∧ t ∈ rdN x t.rd.fig := by
  unfold rdgs
  rw [List.mem_flatMap]
  constructor
  · rintro ⟨i, hi, h⟩
    have := rdN_fig h
    subst this
    exact ⟨List.mem_range.1 hi, h⟩
  · rintro ⟨h1, h2⟩; exact ⟨_, List.mem_range.2 h1, h2⟩
theorem good_mists {x : Sn} {t u : Th} (ht : t ∈ rdgs x) (hu : u ∈ rdgs x) (h : goodP t u) : mists ((byF x).getD t.rd.fig []) ((byF x).getD u.rd.fig []) = true := by
  obtain ⟨a1, a2⟩ := mem_rdgs.1 ht
  obtain ⟨b1, b2⟩ := mem_rdgs.1 hu
  have g : ∀ {i : Nat}, i < x.l.length → (byF x).getD i [] = rdN x i := fun {i} hi => by
    unfold byF; rw [getD_get (by simpa using hi)]; simp
  rw [g a1, g b1]
  exact mists_iff.2 ⟨t, a2, u, b2, h.2⟩
theorem MInv.done {x : Sn} {M : Option (Nat × Nat)} (h : MInv (rdgs x) M (rdgs x).length 0) : misOf x = M := by
  have g : ∀ {i : Nat}, i < x.l.length → (byF x).getD i [] = rdN x i := fun {i} hi => by
    unfold byF; rw [getD_get (by simpa using hi)]; simp
  have hl : (byF x).length = x.l.length := by simp [byF]
  have real : ∀ {a b : Nat}, a < b → b < x.l.length → mists ((byF x).getD a []) ((byF x).getD b []) = true → leM M a b := fun {a b} hab hb hm => by
    rw [g (by omega), g hb] at hm
    obtain ⟨t, ht, u, hu, hag⟩ := mists_iff.1 hm
    have ft := rdN_fig ht
    have fu := rdN_fig hu
    have mt : t ∈ rdgs x := mem_rdgs.2 ⟨by omega, by rw [ft]; exact ht⟩
    have mu : u ∈ rdgs x := mem_rdgs.2 ⟨by omega, by rw [fu]; exact hu⟩
    obtain ⟨p, hp, rfl⟩ := List.getElem_of_mem mt
    obtain ⟨q, hq, rfl⟩ := List.getElem_of_mem mu
    have := h.least p q hp hq (.inl hp) ⟨by omega, hag⟩
    rw [ft, fu] at this; exact this
  cases hm : misOf x with
  | none =>
    cases M with
    | none => rfl
    | some m =>
      obtain ⟨t, ht, u, hu, hg, e1, e2⟩ := h.real m rfl
      have h1 := good_mists ht hu hg
      have h2 := pair_none_inv hm _ _ hg.1 (by rw [hl]; exact (mem_rdgs.1 hu).1)
      rw [h1] at h2; cases h2
  | some m' =>
    obtain ⟨a, b⟩ := m'
    obtain ⟨⟨hab, hbl⟩, hmin⟩ := pair_some_inv hm
    rw [hl] at hbl hmin
    obtain ⟨i, hi, e, _⟩ := findSome_inv (show (List.range (byF x).length).findSome? (pairI (byF x)) = some (a, b) from hm)
    have hmm : mists ((byF x).getD a []) ((byF x).getD b []) = true := by
      unfold pairI at e
      cases hf : (List.range (byF x).length).find? (fun k => decide (i < k) && mists ((byF x).getD i []) ((byF x).getD k [])) with
      | none => rw [hf] at e; cases e
      | some k =>
        rw [hf] at e
        simp only [Option.map_some, Option.some.injEq, Prod.mk.injEq] at e
        have h1 := List.find?_some hf
        simp only [Bool.and_eq_true] at h1
        rw [← e.1, ← e.2]; exact h1.2
    have hle := real hab hbl hmm
    cases M with
    | none => unfold leM at hle; simp only [mA] at hle; omega
    | some m =>
      obtain ⟨t, ht, u, hu, hg, e1, e2⟩ := h.real m rfl
      have h1 := good_mists ht hu hg
      have h2 := hmin _ _ hg.1 (mem_rdgs.1 hu).1 h1
      unfold leM at hle
      simp only [mA, mB] at hle
      obtain ⟨m1, m2⟩ := m
      simp only at *
      congr 1
      refine Prod.ext ?_ ?_ <;> simp only <;> omega
end Ol
namespace Go.Proofs.YtmbknoaneglilaaGreatDoor
open Go Go.Ab Ni Ol
theorem en89 : Ent Tryz.prog 89 := Ent.of Tryz.func89 (by kernel_rfl) rfl
theorem rin_pure (n lo hi : Int) : APure Tryz.prog 89 [I n, I lo, I hi] (B (inn n lo hi)) := by
 refine apure_of (rs := [.tmp 6]) Tryz.func89 rfl rfl (Nat.le_of_ble_eq_true rfl) (by simp [AV.pureL, AV.pureB, AV.pureE, pureE_map]) (by first | rfl | (simp [AV.pureL, AV.pureB, AV.pureE, pureE_map])) fun e0 he0 => ?_
 refine aw_seq (aw_region ?_)
 refine asr J rfl (sq_nil (aw_seq (aw_region (mvr J rfl (mvr J rfl (sq_ev rfl (ev_geq J J) ?_))))))
 refine mvr J rfl ?_
 refine sq_split 10 J (fun g1 => ?_) (fun g1 => ?_)
 ·
  have g1' := g1
  try simp only [qq] at g1'
  refine sq_yes rfl rfl (less_b g1) rfl (ev_mv (v := .raw _) J) ?_
  refine sq_yes rfl rfl (less_b g1) rfl (ev_mv (v := .raw _) J) ?_
  refine sq_yes rfl rfl (less_b g1) rfl (ev_leq J J) ?_
  refine sq_ev rfl (ev_pickT (v := .raw _) (less_b g1) J) ?_
  refine asr J rfl (sq_nil (aw_ret ?_))
  exact retQ_pure (v := .raw _) rfl rfl (Less.eq (by simp [inn, *]))
 have g1' := g1
 try simp only [qq] at g1'
 refine sq_no rfl rfl (less_b g1) rfl rfl ?_
 refine sq_no rfl rfl (less_b g1) rfl rfl ?_
 refine sq_no rfl rfl (less_b g1) rfl rfl ?_
 refine sq_ev rfl (ev_pickF (v := .raw _) (less_b g1) J) ?_
 refine asr J rfl (sq_nil (aw_ret ?_))
 exact retQ_pure (v := .raw _) rfl rfl (Less.eq (by simp [inn, *]))
theorem rstage_pure (s : Sg) : APure Tryz.prog 24 [stA s] (B (stOK s)) := by
 refine apure_of (rs := [.tmp 2]) Tryz.func24 rfl rfl (Nat.le_of_ble_eq_true rfl) (by simp [AV.pureL, AV.pureB, AV.pureE, pureE_map]) (by first | rfl | (simp [AV.pureL, AV.pureB, AV.pureE, pureE_map])) fun e0 he0 => ?_
 refine aw_seq (aw_region (sq_box rfl J rfl (asr J rfl (sq_nil (aw_seq (aw_region (sq_ev rfl (ev_fieldAddr fo23_0 J) ?_)))))))
 refine sq_ev rfl (ev_load J rfl ty3 rfl) ?_
 refine sq_ev rfl (ev_call en89 J (rin_pure _ _ _) ⟨J, J, J, trivial⟩) ?_
 refine mvr J rfl ?_
 refine sq_split 6 J (fun g1 => ?_) (fun g1 => ?_)
 ·
  have g1' := g1
  try simp only [qq] at g1'
  refine sq_yes rfl rfl (less_b g1) rfl (ev_fieldAddr fo23_1 J) ?_
  refine sq_yes rfl rfl (less_b g1) rfl (ev_load J rfl ty3 rfl) ?_
  refine sq_yes rfl rfl (less_b g1) rfl (ev_call en89 J (rin_pure _ _ _) ⟨J, J, J, trivial⟩) ?_
  refine sq_ev rfl (ev_pickT (v := .raw _) (less_b g1) J) ?_
  refine mvr J rfl ?_
  refine sq_split 11 J (fun g2 => ?_) (fun g2 => ?_)
  ·
   have g2' := g2
   try simp only [qq] at g2'
   refine sq_yes rfl rfl (less_b g2) rfl (ev_fieldAddr fo23_2 J) ?_
   refine sq_yes rfl rfl (less_b g2) rfl (ev_load J rfl ty3 rfl) ?_
   refine sq_yes rfl rfl (less_b g2) rfl (ev_call en89 J (rin_pure _ _ _) ⟨J, J, J, trivial⟩) ?_
   refine sq_ev rfl (ev_pickT (v := .raw _) (less_b g2) J) ?_
   refine mvr J rfl ?_
   refine sq_split 16 J (fun g3 => ?_) (fun g3 => ?_)
   ·
    have g3' := g3
    try simp only [qq] at g3'
    refine sq_yes rfl rfl (less_b g3) rfl (ev_fieldAddr fo23_3 J) ?_
    refine sq_yes rfl rfl (less_b g3) rfl (ev_load J rfl ty3 rfl) ?_
    refine sq_yes rfl rfl (less_b g3) rfl (ev_call en89 J (rin_pure _ _ _) ⟨J, J, J, trivial⟩) ?_
    refine sq_ev rfl (ev_pickT (v := .raw _) (less_b g3) J) ?_
    refine mvr J rfl ?_
    refine sq_split 21 J (fun g4 => ?_) (fun g4 => ?_)
    ·
     have g4' := g4
     try simp only [qq] at g4'
     refine sq_yes rfl rfl (less_b g4) rfl (ev_fieldAddr fo23_4 J) ?_
     refine sq_yes rfl rfl (less_b g4) rfl (ev_load J rfl ty3 rfl) ?_
     refine sq_yes rfl rfl (less_b g4) rfl (ev_fieldAddr fo23_0 J) ?_
     refine sq_yes rfl rfl (less_b g4) rfl (ev_load J rfl ty3 rfl) ?_
     refine sq_yes rfl rfl (less_b g4) rfl (ev_call en89 J (rin_pure _ _ _) ⟨J, J, J, trivial⟩) ?_
     refine sq_ev rfl (ev_pickT (v := .raw _) (less_b g4) J) ?_
     refine mvr J rfl ?_
     refine sq_split 28 J (fun g5 => ?_) (fun g5 => ?_)
     ·
      have g5' := g5
      try simp only [qq] at g5'
      refine sq_yes rfl rfl (less_b g5) rfl (ev_fieldAddr fo23_5 J) ?_
      refine sq_yes rfl rfl (less_b g5) rfl (ev_load J rfl ty3 rfl) ?_
      refine sq_yes rfl rfl (less_b g5) rfl (ev_fieldAddr fo23_1 J) ?_
      refine sq_yes rfl rfl (less_b g5) rfl (ev_load J rfl ty3 rfl) ?_
      refine sq_yes rfl rfl (less_b g5) rfl (ev_call en89 J (rin_pure _ _ _) ⟨J, J, J, trivial⟩) ?_
      refine sq_ev rfl (ev_pickT (v := .raw _) (less_b g5) J) ?_
      refine asr J rfl (sq_nil (aw_ret ?_))
      exact retQ_pure (v := .raw _) rfl rfl (Less.eq (by simp [stOK, *]))
     have g5' := g5
     try simp only [qq] at g5'
     refine sq_no rfl rfl (less_b g5) rfl rfl ?_
     refine sq_no rfl rfl (less_b g5) rfl rfl ?_
     refine sq_no rfl rfl (less_b g5) rfl rfl ?_
     refine sq_no rfl rfl (less_b g5) rfl rfl ?_
     refine sq_no rfl rfl (less_b g5) rfl rfl ?_
     refine sq_ev rfl (ev_pickF (v := .raw _) (less_b g5) J) ?_
     refine asr J rfl (sq_nil (aw_ret ?_))
     exact retQ_pure (v := .raw _) rfl rfl (Less.eq (by simp [stOK, *]))
    have g4' := g4
    try simp only [qq] at g4'
    refine sq_no rfl rfl (less_b g4) rfl rfl ?_
    refine sq_no rfl rfl (less_b g4) rfl rfl ?_
    refine sq_no rfl rfl (less_b g4) rfl rfl ?_
    refine sq_no rfl rfl (less_b g4) rfl rfl ?_
    refine sq_no rfl rfl (less_b g4) rfl rfl ?_
    refine sq_ev rfl (ev_pickF (v := .raw _) (less_b g4) J) ?_
    refine mvr J rfl (sq_no rfl rfl J rfl rfl (sq_no rfl rfl J rfl rfl ?_))
    refine sq_no rfl rfl J rfl rfl (sq_no rfl rfl J rfl rfl (sq_no rfl rfl J rfl rfl (pf rfl J J (asr J rfl (sq_nil (aw_ret ?_))))))
    exact retQ_pure (v := .raw _) rfl rfl (Less.eq (by simp [stOK, *]))
   have g3' := g3
   try simp only [qq] at g3'
   refine sq_no rfl rfl (less_b g3) rfl rfl ?_
   refine sq_no rfl rfl (less_b g3) rfl rfl ?_
   refine sq_no rfl rfl (less_b g3) rfl rfl ?_
   refine sq_ev rfl (ev_pickF (v := .raw _) (less_b g3) J) ?_
   refine mvr J rfl (sq_no rfl rfl J rfl rfl (sq_no rfl rfl J rfl rfl ?_))
   refine sq_no rfl rfl J rfl rfl (sq_no rfl rfl J rfl rfl (sq_no rfl rfl J rfl rfl (pf rfl J J (mvr J rfl (sq_no rfl rfl J rfl rfl (sq_no rfl rfl J rfl rfl ?_))))))
   refine sq_no rfl rfl J rfl rfl (sq_no rfl rfl J rfl rfl (sq_no rfl rfl J rfl rfl (pf rfl J J (asr J rfl (sq_nil (aw_ret ?_))))))
   exact retQ_pure (v := .raw _) rfl rfl (Less.eq (by simp [stOK, *]))
  have g2' := g2
  try simp only [qq] at g2'
  refine sq_no rfl rfl (less_b g2) rfl rfl ?_
  refine sq_no rfl rfl (less_b g2) rfl rfl ?_
  refine sq_no rfl rfl (less_b g2) rfl rfl ?_
  refine sq_ev rfl (ev_pickF (v := .raw _) (less_b g2) J) ?_
  refine mvr J rfl ?_
  refine sq_no rfl rfl J rfl rfl (sq_no rfl rfl J rfl rfl (sq_no rfl rfl J rfl rfl (pf rfl J J (mvr J rfl (sq_no rfl rfl J rfl rfl (sq_no rfl rfl J rfl rfl ?_))))))
  refine sq_no rfl rfl J rfl rfl (sq_no rfl rfl J rfl rfl (sq_no rfl rfl J rfl rfl (pf rfl J J (mvr J rfl (sq_no rfl rfl J rfl rfl (sq_no rfl rfl J rfl rfl ?_))))))
  refine sq_no rfl rfl J rfl rfl (sq_no rfl rfl J rfl rfl (sq_no rfl rfl J rfl rfl (pf rfl J J (asr J rfl (sq_nil (aw_ret ?_))))))
  exact retQ_pure (v := .raw _) rfl rfl (Less.eq (by simp [stOK, *]))
 have g1' := g1
 try simp only [qq] at g1'
 refine sq_no rfl rfl (less_b g1) rfl rfl ?_
 refine sq_no rfl rfl (less_b g1) rfl rfl ?_
 refine sq_no rfl rfl (less_b g1) rfl rfl ?_
 refine sq_ev rfl (ev_pickF (v := .raw _) (less_b g1) J) ?_
 refine mvr J rfl (sq_no rfl rfl J rfl rfl (sq_no rfl rfl J rfl rfl (sq_no rfl rfl J rfl rfl (pf rfl J J (mvr J rfl ?_)))))
 refine sq_no rfl rfl J rfl rfl (sq_no rfl rfl J rfl rfl (sq_no rfl rfl J rfl rfl (pf rfl J J (mvr J rfl (sq_no rfl rfl J rfl rfl (sq_no rfl rfl J rfl rfl ?_))))))
 refine sq_no rfl rfl J rfl rfl (sq_no rfl rfl J rfl rfl (sq_no rfl rfl J rfl rfl (pf rfl J J (mvr J rfl (sq_no rfl rfl J rfl rfl (sq_no rfl rfl J rfl rfl ?_))))))
 refine sq_no rfl rfl J rfl rfl (sq_no rfl rfl J rfl rfl (sq_no rfl rfl J rfl rfl (pf rfl J J (asr J rfl (sq_nil (aw_ret ?_))))))
 exact retQ_pure (v := .raw _) rfl rfl (Less.eq (by simp [stOK, *]))
end Go.Proofs.YtmbknoaneglilaaGreatDoor
namespace Go.Proofs.YtmbknoaneglilaaGreatDoor
open Go Go.Ab Ni Ol
theorem ch_ok {c : UInt8} (h : (c.toNat : Int) = 35 ∨ (c.toNat : Int) = 46) : chOK c = true := by
  unfold chOK; simp only [decide_eq_true_eq]
  exact h.imp (fun h => UInt8.toNat_inj.1 (by show c.toNat = 35; omega)) (fun h => UInt8.toNat_inj.1 (by show c.toNat = 46; omega))
theorem ch_no {c : UInt8} (h : (c.toNat : Int) ≠ 35) (k : (c.toNat : Int) ≠ 46) : chOK c = false := by
  rw [Bool.eq_false_iff]; intro ho; unfold chOK at ho; simp only [decide_eq_true_eq] at ho
  rcases ho with e | e <;> (subst e; first | exact h rfl | exact k rfl)
theorem rfigure_pure (f : Fg) : APure Tryz.prog 25 [fgA f] (B (fgOK f)) := by
  refine apure_of (rs := [.tmp 2]) Tryz.func25 rfl rfl (Nat.le_of_ble_eq_true rfl) (by simp [AV.pureL, AV.pureB, AV.pureE, pureE_map]) (by first | rfl | (simp [AV.pureL, AV.pureB, AV.pureE, pureE_map])) fun e0 he0 => ?_
  refine aw_seq (aw_region ?_)
  refine sq_box rfl J rfl (asr J rfl (sq_nil (aw_seq (aw_seq (aw_region (sq_ev rfl (ev_fieldAddr fo26_0 J) ?_))))))
  refine sq_ev rfl (ev_load J rfl ty24 rfl) ?_
  refine sq_ev rfl (ev_len_map sl24 J) ?_
  refine sq_ev rfl (ev_call en89 J (rin_pure _ _ _) ⟨J, J, J, trivial⟩) ?_
  refine sq_ev rfl (ev_not J) ?_
  refine mvr J rfl ?_
  refine sq_split 11 J (fun g1_5 => ?_) (fun g1_5 => ?_)
  · skip
    have g1_5' := g1_5
    try simp only [qq] at g1_5'
    refine sq_no rfl rfl (less_b g1_5) rfl rfl ?_
    refine sq_no rfl rfl (less_b g1_5) rfl rfl ?_
    refine sq_no rfl rfl (less_b g1_5) rfl rfl ?_
    refine sq_no rfl rfl (less_b g1_5) rfl rfl ?_
    refine sq_no rfl rfl (less_b g1_5) rfl rfl ?_
    refine sq_no rfl rfl (less_b g1_5) rfl rfl ?_
    refine sq_no rfl rfl (less_b g1_5) rfl rfl ?_
    refine sq_ev rfl (ev_pickT (v := .raw _) (less_b g1_5) J) ?_
    refine sq_nil ?_
    refine aw_true J ?_
    refine aw_seq (aw_region (asr J rfl (sq_nil (aw_ret ?_))))
    exact retQ_pure (v := .raw _) rfl rfl (Less.eq (by unfold fgOK; simp_all))
  · skip
    have g1_5' := g1_5
    try simp only [qq] at g1_5'
    have h1 : inn f.length 1 6 = true := by simpa using g1_5
    have hlen : 1 ≤ f.length ∧ f.length ≤ 6 := by simp only [inn, Bool.and_eq_true, decide_eq_true_eq] at h1; omega
    have hw0 := w0_eq (f := f) (by omega)
    refine sq_yes rfl rfl (less_b g1_5) rfl (ev_fieldAddr fo26_0 J) ?_
    refine sq_yes rfl rfl (less_b g1_5) rfl (ev_load J rfl ty24 rfl) ?_
    refine sq_yes rfl rfl (less_b g1_5) rfl (ev_index_map (k := 0) sl24 J J rfl (by omega)) ?_
    refine sq_yes rfl rfl (less_b g1_5) rfl (ev_load_i J ty9 rfl) ?_
    refine sq_yes rfl rfl (less_b g1_5) rfl (ev_lenS Tryz.underlying9 J) ?_
    refine sq_yes rfl rfl (less_b g1_5) rfl (ev_call en89 J (rin_pure _ _ _) ⟨J, J, J, trivial⟩) ?_
    refine sq_yes rfl rfl (less_b g1_5) rfl (ev_not J) ?_
    refine sq_ev rfl (ev_pickF (v := .raw _) (less_b g1_5) J) ?_
    refine sq_nil ?_
    refine aw_cond J (fun c_19 => ?_) (fun c_19 => ?_)
    · skip
      have c_19' := c_19
      try simp only [qq] at c_19'
      refine aw_seq (aw_region (asr J rfl (sq_nil (aw_ret ?_))))
      exact retQ_pure (v := .raw _) rfl rfl (Less.eq (by unfold fgOK; rw [hw0]; simp_all))
    · skip
      have c_19' := c_19
      try simp only [qq] at c_19'
      have h2 : inn (w0 f) 1 6 = true := by rw [hw0]; simpa using c_19
      refine aw_skip (aw_seq (aw_region (asr J rfl ?_)))
      refine sq_nil (aw_seq (aw_seq (aw_region (asr J rfl (sq_nil (aw_block ?_))))))
      refine aw_loopk (ι := { k : Nat // k ≤ f.length ∧ ∀ i, (h : i < f.length) → i < k → fgRow (w0 f) f[i] = true }) [1] (fun i => [(3, B ((f.take i.1).any hasH)), (4, I i.1)]) (fun H i => H) (fun i => f.length - i.1) (⟨0, Nat.zero_le _, by omega⟩) ⟨J, J, J, trivial⟩ rfl ?_
      rintro ⟨k, hk, hok⟩
      dsimp only [keepS, St.put, sget, slotsOf, nn1, nn2, nn3, nn4, nn5, nn6, Nat.reduceBEq, Nat.reduceAdd, nn7, nn8]
      refine aw_seq (aw_seq (aw_region (mvr J rfl (sq_ev rfl (ev_fieldAddr fo26_0 J) ?_))))
      refine sq_ev rfl (ev_load J rfl ty24 rfl) ?_
      refine sq_ev rfl (ev_len_map sl24 J) ?_
      refine sq_ev rfl (ev_lss J J) ?_
      refine sq_nil ?_
      refine aw_cond J (fun c_24 => ?_) (fun c_24 => ?_)
      · skip
        have c_24' := c_24
        try simp only [qq] at c_24'
        refine aw_skip (aw_seq (aw_block (aw_seq (aw_seq ?_))))
        refine aw_draw 12 mo (by kernel_rfl) ?_
        refine dr_ev rfl (ev_fieldAddr fo26_0 J) ?_
        refine dr_ev rfl (ev_load J rfl ty24 rfl) ?_
        refine dr_ev rfl (ev_mv (v := .raw _) J) ?_
        refine dr_ev rfl (ev_index_map sl24 J J rfl (by omega)) ?_
        refine dr_ev rfl (ev_load_i J ty9 rfl) ?_
        refine dr_ev rfl (ev_lenS Tryz.underlying9 J) ?_
        refine dr_ev rfl (ev_fieldAddr fo26_0 J) ?_
        refine dr_ev rfl (ev_load J rfl ty24 rfl) ?_
        refine dr_ev rfl (ev_index_map (k := 0) sl24 J J rfl (by omega)) ?_
        refine dr_ev rfl (ev_load_i J ty9 rfl) ?_
        refine dr_ev rfl (ev_lenS Tryz.underlying9 J) ?_
        refine dr_ev rfl (ev_neq J J) ?_
        refine dr_end (sq_nil ?_)
        refine aw_cond J (fun c_38 => ?_) (fun c_38 => ?_)
        · skip
          have c_38' := c_38
          try simp only [qq] at c_38'
          refine aw_seq (aw_region (asr J rfl (sq_nil (aw_ret ?_))))
          exact retQ_pure (v := .raw _) rfl rfl (Less.eq (by rw [fg_row_bad (k := k) (by omega) (fgRow_len (by rw [hw0]; omega))]))
        · skip
          have c_38' := c_38
          try simp only [qq] at c_38'
          have hlk : f[k].length ≤ 6 := by simp only [inn, Bool.and_eq_true, decide_eq_true_eq] at h2; omega
          refine aw_skip (aw_seq (aw_region (asr J rfl (sq_nil (aw_block ?_)))))
          refine aw_loopk (ι := { j : Nat // j ≤ f[k].length ∧ ∀ i, (h : i < f[k].length) → i < j → chOK f[k][i] = true }) [1, 4] (fun q => [(3, B ((f.take k).any hasH || (f[k].take q.1).any fun c => decide (c = 35))), (5, I q.1)]) (fun H q => H) (fun q => f[k].length - q.1) (⟨0, Nat.zero_le _, by omega⟩) ⟨(Less.eq (by show B ((f.take k).any hasH) = _; simp)), J, J, J, trivial⟩ rfl ?_
          rintro ⟨j, hj, hoj⟩
          dsimp only [keepS, St.put, sget, slotsOf, nn1, nn2, nn3, nn4, nn5, nn6, Nat.reduceBEq, Nat.reduceAdd, nn7, nn8]
          refine aw_seq (aw_seq (aw_region (mvr J rfl (sq_ev rfl (ev_fieldAddr fo26_0 J) ?_))))
          refine sq_ev rfl (ev_load J rfl ty24 rfl) ?_
          refine mvr J rfl (sq_ev rfl (ev_index_map sl24 J J rfl (by omega)) ?_)
          refine sq_ev rfl (ev_load_i J ty9 rfl) ?_
          refine sq_ev rfl (ev_lenS Tryz.underlying9 J) ?_
          refine sq_ev rfl (ev_lss J J) ?_
          refine sq_nil ?_
          refine aw_cond J (fun c_46 => ?_) (fun c_46 => ?_)
          · skip
            have c_46' := c_46
            try simp only [qq] at c_46'
            have hk' : j < f[k].length := by omega
            have eC := any_take (q := fun c => decide (c = 35)) (l := f[k]) (k := j) hk'
            refine aw_skip (aw_seq (aw_block (aw_seq (aw_seq (aw_region (sq_ev rfl (ev_fieldAddr fo26_0 J) ?_))))))
            refine sq_ev rfl (ev_load J rfl ty24 rfl) ?_
            refine mvr J rfl (sq_ev rfl (ev_index_map sl24 J J rfl (by omega)) ?_)
            refine sq_ev rfl (ev_load_i J ty9 rfl) ?_
            refine mvr J rfl (sq_ev rfl (ev_idxS Tryz.underlying9 J J rfl (by omega)) ?_)
            refine sq_ev rfl (ev_neq J J) ?_
            refine mvr J rfl ?_
            refine sq_split 57 J (fun g12_8 => ?_) (fun g12_8 => ?_)
            · skip
              have g12_8' := g12_8
              try simp only [qq] at g12_8'
              refine sq_yes rfl rfl (less_b g12_8) rfl (ev_fieldAddr fo26_0 J) ?_
              refine sq_yes rfl rfl (less_b g12_8) rfl (ev_load J rfl ty24 rfl) ?_
              refine sq_yes rfl rfl (less_b g12_8) rfl (ev_mv (v := .raw _) J) ?_
              refine sq_yes rfl rfl (less_b g12_8) rfl (ev_index_map sl24 J J rfl (by omega)) ?_
              refine sq_yes rfl rfl (less_b g12_8) rfl (ev_load_i J ty9 rfl) ?_
              refine sq_yes rfl rfl (less_b g12_8) rfl (ev_mv (v := .raw _) J) ?_
              refine sq_yes rfl rfl (less_b g12_8) rfl (ev_idxS Tryz.underlying9 J J rfl (by omega)) ?_
              refine sq_yes rfl rfl (less_b g12_8) rfl (ev_neq J J) ?_
              refine sq_ev rfl (ev_pickT (v := .raw _) (less_b g12_8) J) ?_
              refine sq_nil ?_
              refine aw_cond J (fun c_66 => ?_) (fun c_66 => ?_)
              · skip
                have c_66' := c_66
                try simp only [qq] at c_66'
                refine aw_seq (aw_region (asr J rfl (sq_nil (aw_ret ?_))))
                exact retQ_pure (v := .raw _) rfl rfl (Less.eq (by rw [fg_row_bad (k := k) (by omega) (fgRow_ch (j := j) hk' (ch_no g12_8' c_66'))]))
              · skip
                have c_66' := c_66
                try simp only [qq] at c_66'
                have hch : chOK f[k][j] = true := ch_ok (.inr (by simpa using c_66))
                refine aw_skip (aw_region (mvr J rfl (mvr J rfl ?_)))
                refine sq_split 68 J (fun g14_1 => ?_) (fun g14_1 => ?_)
                · skip
                  have g14_1' := g14_1
                  try simp only [qq] at g14_1'
                  have eF : B true = B ((f.take k).any hasH || (f[k].take (j + 1)).any fun c => decide (c = 35)) := by rw [eC, ← Bool.or_assoc, g14_1]; rfl
                  refine sq_no rfl rfl (less_b g14_1) rfl rfl ?_
                  refine sq_no rfl rfl (less_b g14_1) rfl rfl ?_
                  refine sq_no rfl rfl (less_b g14_1) rfl rfl ?_
                  refine sq_no rfl rfl (less_b g14_1) rfl rfl ?_
                  refine sq_no rfl rfl (less_b g14_1) rfl rfl ?_
                  refine sq_no rfl rfl (less_b g14_1) rfl rfl ?_
                  refine sq_no rfl rfl (less_b g14_1) rfl rfl ?_
                  refine sq_no rfl rfl (less_b g14_1) rfl rfl ?_
                  refine sq_ev rfl (ev_pickT (v := .raw _) (less_b g14_1) J) ?_
                  refine asr J rfl (sq_nil (aw_region (mvr J rfl (sq_ev rfl (ev_add J J (wr (by omega) (by omega))) ?_))))
                  refine asr J rfl (sq_nil ?_)
                  exact ⟨⟨j + 1, by omega, fun i h hi => (by by_cases e : i = j; (subst e; exact hch); exact hoj i h (by omega))⟩, by simp only; omega, Sub.slots ⟨(Less.eq eF), J, J, J, trivial⟩⟩
                · skip
                  have g14_1' := g14_1
                  try simp only [qq] at g14_1'
                  have eF : B (decide (((f[k][j]).toNat : Int) = 35)) = B ((f.take k).any hasH || (f[k].take (j + 1)).any fun c => decide (c = 35)) := by rw [eC, ← Bool.or_assoc, g14_1, dec35]; rfl
                  refine sq_yes rfl rfl (less_b g14_1) rfl (ev_fieldAddr fo26_0 J) ?_
                  refine sq_yes rfl rfl (less_b g14_1) rfl (ev_load J rfl ty24 rfl) ?_
                  refine sq_yes rfl rfl (less_b g14_1) rfl (ev_mv (v := .raw _) J) ?_
                  refine sq_yes rfl rfl (less_b g14_1) rfl (ev_index_map sl24 J J rfl (by omega)) ?_
                  refine sq_yes rfl rfl (less_b g14_1) rfl (ev_load_i J ty9 rfl) ?_
                  refine sq_yes rfl rfl (less_b g14_1) rfl (ev_mv (v := .raw _) J) ?_
                  refine sq_yes rfl rfl (less_b g14_1) rfl (ev_idxS Tryz.underlying9 J J rfl (by omega)) ?_
                  refine sq_yes rfl rfl (less_b g14_1) rfl (ev_eql J J) ?_
                  refine sq_ev rfl (ev_pickF (v := .raw _) (less_b g14_1) J) ?_
                  refine asr J rfl (sq_nil (aw_region (mvr J rfl (sq_ev rfl (ev_add J J (wr (by omega) (by omega))) ?_))))
                  refine asr J rfl (sq_nil ?_)
                  exact ⟨⟨j + 1, by omega, fun i h hi => (by by_cases e : i = j; (subst e; exact hch); exact hoj i h (by omega))⟩, by simp only; omega, Sub.slots ⟨(Less.eq eF), J, J, J, trivial⟩⟩
            · skip
              have g12_8' := g12_8
              try simp only [qq] at g12_8'
              have hch : chOK f[k][j] = true := ch_ok (.inl (by simpa using g12_8))
              refine sq_no rfl rfl (less_b g12_8) rfl rfl ?_
              refine sq_no rfl rfl (less_b g12_8) rfl rfl ?_
              refine sq_no rfl rfl (less_b g12_8) rfl rfl ?_
              refine sq_no rfl rfl (less_b g12_8) rfl rfl ?_
              refine sq_no rfl rfl (less_b g12_8) rfl rfl ?_
              refine sq_no rfl rfl (less_b g12_8) rfl rfl ?_
              refine sq_no rfl rfl (less_b g12_8) rfl rfl ?_
              refine sq_no rfl rfl (less_b g12_8) rfl rfl ?_
              refine sq_ev rfl (ev_pickF (v := .raw _) (less_b g12_8) J) ?_
              refine sq_nil ?_
              refine aw_false J ?_
              refine aw_skip (aw_region (mvr J rfl (mvr J rfl ?_)))
              refine sq_split 68 J (fun g14_1 => ?_) (fun g14_1 => ?_)
              · skip
                have g14_1' := g14_1
                try simp only [qq] at g14_1'
                have eF : B true = B ((f.take k).any hasH || (f[k].take (j + 1)).any fun c => decide (c = 35)) := by rw [eC, ← Bool.or_assoc, g14_1]; rfl
                refine sq_no rfl rfl (less_b g14_1) rfl rfl ?_
                refine sq_no rfl rfl (less_b g14_1) rfl rfl ?_
                refine sq_no rfl rfl (less_b g14_1) rfl rfl ?_
                refine sq_no rfl rfl (less_b g14_1) rfl rfl ?_
                refine sq_no rfl rfl (less_b g14_1) rfl rfl ?_
                refine sq_no rfl rfl (less_b g14_1) rfl rfl ?_
                refine sq_no rfl rfl (less_b g14_1) rfl rfl ?_
                refine sq_no rfl rfl (less_b g14_1) rfl rfl ?_
                refine sq_ev rfl (ev_pickT (v := .raw _) (less_b g14_1) J) ?_
                refine asr J rfl (sq_nil (aw_region (mvr J rfl (sq_ev rfl (ev_add J J (wr (by omega) (by omega))) ?_))))
                refine asr J rfl (sq_nil ?_)
                exact ⟨⟨j + 1, by omega, fun i h hi => (by by_cases e : i = j; (subst e; exact hch); exact hoj i h (by omega))⟩, by simp only; omega, Sub.slots ⟨(Less.eq eF), J, J, J, trivial⟩⟩
              · skip
                have g14_1' := g14_1
                try simp only [qq] at g14_1'
                have eF : B (decide (((f[k][j]).toNat : Int) = 35)) = B ((f.take k).any hasH || (f[k].take (j + 1)).any fun c => decide (c = 35)) := by rw [eC, ← Bool.or_assoc, g14_1, dec35]; rfl
                refine sq_yes rfl rfl (less_b g14_1) rfl (ev_fieldAddr fo26_0 J) ?_
                refine sq_yes rfl rfl (less_b g14_1) rfl (ev_load J rfl ty24 rfl) ?_
                refine sq_yes rfl rfl (less_b g14_1) rfl (ev_mv (v := .raw _) J) ?_
                refine sq_yes rfl rfl (less_b g14_1) rfl (ev_index_map sl24 J J rfl (by omega)) ?_
                refine sq_yes rfl rfl (less_b g14_1) rfl (ev_load_i J ty9 rfl) ?_
                refine sq_yes rfl rfl (less_b g14_1) rfl (ev_mv (v := .raw _) J) ?_
                refine sq_yes rfl rfl (less_b g14_1) rfl (ev_idxS Tryz.underlying9 J J rfl (by omega)) ?_
                refine sq_yes rfl rfl (less_b g14_1) rfl (ev_eql J J) ?_
                refine sq_ev rfl (ev_pickF (v := .raw _) (less_b g14_1) J) ?_
                refine asr J rfl (sq_nil (aw_region (mvr J rfl (sq_ev rfl (ev_add J J (wr (by omega) (by omega))) ?_))))
                refine asr J rfl (sq_nil ?_)
                exact ⟨⟨j + 1, by omega, fun i h hi => (by by_cases e : i = j; (subst e; exact hch); exact hoj i h (by omega))⟩, by simp only; omega, Sub.slots ⟨(Less.eq eF), J, J, J, trivial⟩⟩
          · skip
            have c_46' := c_46
            try simp only [qq] at c_46'
            refine aw_exit (aw_region (mvr J rfl (sq_ev rfl (ev_add J J (wr (by omega) (by omega))) ?_)))
            refine asr J rfl (sq_nil ?_)
            have hgood : fgRow (w0 f) f[k] = true := fgRow_ok (by omega) (fun i h => hoj i h (by omega))
            have eA := any_take (q := hasH) (l := f) (k := k) (by omega)
            have eB : hasH f[k] = (f[k].take j).any (fun c => decide (c = 35)) := by unfold hasH; rw [List.take_of_length_le (by omega)]
            exact ⟨⟨k + 1, by omega, fun i h hi => (by by_cases e : i = k; (subst e; exact hgood); exact hok i h (by omega))⟩, by simp only; omega, Sub.slots ⟨(Less.eq (show B ((f.take k).any hasH || (f[k].take j).any fun c => decide (c = 35)) = _ by rw [eA, eB])), J, J, trivial⟩⟩
      · skip
        have c_24' := c_24
        try simp only [qq] at c_24'
        refine aw_exit (aw_seq (aw_region (mvr J rfl (asr J rfl (sq_nil (aw_ret ?_))))))
        exact retQ_pure (v := .raw _) rfl rfl (Less.eq (by rw [fg_end h1 h2 (fun i h => hok i h (by omega)), show k = f.length by omega, List.take_length]))
end Go.Proofs.YtmbknoaneglilaaGreatDoor
namespace Go.Proofs.YtmbknoaneglilaaGreatDoor
open Go Go.Ab Ni Ol
theorem print_pure (b : Bk) (hl : b.l.length ≤ 1000000) : APure Tryz.prog 54 [bkA b] (.tup [S (if bkOK b = true then textB b else []), I (er (bkOK b))]) := by
 refine apure_of (rs := [.tmp 2, .tmp 3]) Tryz.func54 rfl rfl (Nat.le_of_ble_eq_true rfl) (by simp [AV.pureL, AV.pureB, AV.pureE, pureE_map]) (by first | rfl | (simp [AV.pureL, AV.pureB, AV.pureE, pureE_map])) fun e0 he0 => ?_
 refine aw_seq (aw_region (sq_box rfl J rfl ?_))
 refine asr J rfl (asr J rfl (sq_nil (aw_seq (aw_seq (aw_region (sq_ev rfl (ev_load_agg J rfl ty81 rfl) ?_))))))
 refine sq_ev rfl (ev_call en121 J (isbook_pure b hl) ⟨J, trivial⟩) ?_
 refine sq_ev rfl (ev_not J) ?_
 refine sq_nil ?_
 refine aw_cond J (fun c_6 => ?_) (fun c_6 => ?_)
 ·
  have c_6' := c_6
  try simp only [qq] at c_6'
  refine aw_seq (aw_region (asr J rfl (asr J rfl (sq_nil (aw_ret ?_)))))
  exact retQ_pure (v := .tup [.raw _, .raw _]) rfl rfl (less_tup ⟨Less.eq (by rw [show bkOK b = false by simpa using c_6]; rfl), Less.eq (by rw [show bkOK b = false by simpa using c_6]; rfl), trivial⟩)
 have c_6' := c_6
 try simp only [qq] at c_6'
 refine aw_skip (aw_seq (aw_region (sq_ev rfl (ev_load_agg J rfl ty81 rfl) ?_)))
 refine sq_ev rfl (ev_call en122 J (text_pure b (smb_ok (by simpa using c_6))) ⟨J, trivial⟩) ?_
 refine asr J rfl (asr J rfl (sq_nil (aw_ret ?_)))
 exact retQ_pure (v := .tup [.raw _, .raw _]) rfl rfl (less_tup ⟨Less.eq (by rw [if_pos (show bkOK b = true by simpa using c_6)]), Less.eq (by rw [show bkOK b = true by simpa using c_6]; rfl), trivial⟩)
end Go.Proofs.YtmbknoaneglilaaGreatDoor
namespace Go.Proofs.YtmbknoaneglilaaGreatDoor
open Go Go.Ab Ni Ol
theorem en111 : Ent Tryz.prog 111 := Ent.of Tryz.func111 (by kernel_rfl) rfl
theorem en23 : Ent Tryz.prog 23 := Ent.of Tryz.func23 (by kernel_rfl) rfl
theorem en24 : Ent Tryz.prog 24 := Ent.of Tryz.func24 (by kernel_rfl) rfl
theorem en25 : Ent Tryz.prog 25 := Ent.of Tryz.func25 (by kernel_rfl) rfl
theorem en34 : Ent Tryz.prog 34 := Ent.of Tryz.func34 (by kernel_rfl) rfl
theorem en77 : Ent Tryz.prog 77 := Ent.of Tryz.func77 (by kernel_rfl) rfl
theorem en85 : Ent Tryz.prog 85 := Ent.of Tryz.func85 (by kernel_rfl) rfl
theorem allT_no {α : Type} {q : α → Bool} {l : List α} {n i : Nat} (hi : i < l.length) (hn : i < n) (h : q l[i] = false) : (l.take n).all q = false := by
  rw [List.all_eq_false]
  have hm : i < (l.take n).length := by rw [List.length_take]; omega
  exact ⟨(l.take n)[i], List.getElem_mem hm, by rw [List.getElem_take, h]; simp⟩
theorem allT_yes {α : Type} {q : α → Bool} {l : List α} {n : Nat} (h : ∀ i, (hi : i < l.length) → i < n → q l[i] = true) : (l.take n).all q = true := by
  rw [List.all_eq_true]
  intro x hx
  obtain ⟨i, hi, rfl⟩ := List.getElem_of_mem hx
  rw [List.length_take] at hi
  rw [List.getElem_take]; exact h i (by omega) (by omega)
def shortB (l : List (List UInt8)) : Bool := (l.take 20).all (fun r => decide (r.length ≤ 20)) && decide (l.length ≤ 18)
def fewB (l : List Fg) : Bool := (l.take 9).all shortB && decide (l.length ≤ 8)
theorem shortB_sz {l : List (List UInt8)} (h : shortB l = true) : l.length ≤ 18 ∧ ∀ r ∈ l, r.length ≤ 20 := by
  unfold shortB at h
  simp only [Bool.and_eq_true, decide_eq_true_eq] at h
  rw [List.take_of_length_le (by omega)] at h
  exact ⟨h.2, fun r hr => by have := List.all_eq_true.1 h.1 r hr; simpa using this⟩
theorem fewB_sz {l : List Fg} (h : fewB l = true) : l.length ≤ 8 ∧ ∀ f ∈ l, f.length ≤ 18 ∧ ∀ r ∈ f, r.length ≤ 20 := by
  unfold fewB at h
  simp only [Bool.and_eq_true, decide_eq_true_eq] at h
  rw [List.take_of_length_le (by omega)] at h
  exact ⟨h.2, fun f hf => shortB_sz (List.all_eq_true.1 h.1 f hf)⟩
theorem coOK_ref (l : List Fg) : coOK l = (decide (0 < l.length) && ((l.take 6).all fgOK && decide (l.length ≤ 6))) := by
  rw [coOK_eq, Bool.eq_iff_iff]
  simp only [Bool.and_eq_true, inn, decide_eq_true_eq, Bool.not_eq_true', List.any_eq_false, Bool.not_eq_true, Bool.not_eq_false', List.all_eq_true]
  constructor
  · rintro ⟨h1, h2⟩
    exact ⟨by omega, fun f hf => by have := h2 f (List.mem_of_mem_take hf); simpa using this, by omega⟩
  · rintro ⟨h1, h2, h3⟩
    rw [List.take_of_length_le h3] at h2
    exact ⟨by omega, fun f hf => by have := h2 f hf; simp [this]⟩
theorem short_pure (l : List (List UInt8)) : APure Tryz.prog 23 [strs l] (B (shortB l)) := by
  refine apure_of (rs := [.tmp 2]) Tryz.func23 rfl rfl (Nat.le_of_ble_eq_true rfl) (by simp [AV.pureL, AV.pureB, AV.pureE, pureE_map]) (by first | rfl | (simp [AV.pureL, AV.pureB, AV.pureE, pureE_map])) fun e0 he0 => ?_
  refine aw_seq (aw_region (asr J rfl ?_))
  refine sq_nil (aw_seq (aw_seq (aw_region (asr J rfl (sq_nil (aw_block ?_))))))
  refine aw_loopk (ι := { k : Nat // k ≤ l.length ∧ k ≤ 20 ∧ ∀ i, (h : i < l.length) → i < k → decide (l[i].length ≤ 20) = true }) [0] (fun g => [(3, I g.1)]) (fun H g => H) (fun g => 20 - g.1) (⟨0, Nat.zero_le _, by omega, by omega⟩) ⟨J, J, trivial⟩ rfl ?_
  rintro ⟨k, hk, hok⟩
  dsimp only [keepS, St.put, sget, slotsOf, nn1, nn2, nn3, nn4, nn5, nn6, Nat.reduceBEq, Nat.reduceAdd, nn7, nn8]
  refine aw_seq (aw_seq (aw_region (mvr J rfl (mvs rfl J (sq_ev rfl (ev_len_map sl24 J) ?_)))))
  refine sq_ev rfl (ev_lss J J) ?_
  refine mvr J rfl ?_
  refine sq_split 8 J (fun g2_4 => ?_) (fun g2_4 => ?_)
  · skip
    have g2_4' := g2_4
    try simp only [qq] at g2_4'
    have hkL : k < l.length := by omega
    refine sq_yes rfl rfl (less_b g2_4) rfl (ev_mv (v := .raw _) J) ?_
    refine sq_yes rfl rfl (less_b g2_4) rfl (ev_lss J J) ?_
    refine sq_ev rfl (ev_pickT (v := .raw _) (less_b g2_4) J) ?_
    refine sq_nil ?_
    refine aw_cond J (fun c_11 => ?_) (fun c_11 => ?_)
    · skip
      have c_11' := c_11
      try simp only [qq] at c_11'
      refine aw_skip (aw_seq (aw_block (aw_seq (aw_region (mvs rfl J (mvr J rfl (sq_ev rfl (ev_index_map sl24 J J rfl (by omega)) ?_)))))))
      refine sq_ev rfl (ev_load_i J ty9 rfl) ?_
      refine sq_ev rfl (ev_lenS Tryz.underlying9 J) ?_
      refine sq_ev rfl (ev_gtr J J) ?_
      refine sq_nil ?_
      refine aw_cond J (fun c_19 => ?_) (fun c_19 => ?_)
      · skip
        have c_19' := c_19
        try simp only [qq] at c_19'
        refine aw_seq (aw_region (asr J rfl (sq_nil (aw_ret ?_))))
        exact retQ_pure (v := .raw _) rfl rfl (Less.eq (by rw [shortB, allT_no (i := k) (n := 20) hkL (by omega) (by simp only [decide_eq_false_iff_not]; omega)]; rfl))
      · skip
        have c_19' := c_19
        try simp only [qq] at c_19'
        refine aw_skip (aw_region (mvr J rfl (sq_ev rfl (ev_add J J (wr (by omega) (by omega))) ?_)))
        refine asr J rfl (sq_nil ?_)
        have hgood : decide (l[k].length ≤ 20) = true := by simp only [decide_eq_true_eq]; omega
        exact ⟨⟨k + 1, by omega, by omega, fun i h hi => (by by_cases e : i = k; (subst e; exact hgood); exact hok.2 i h (by omega))⟩, by simp only; omega, Sub.slots ⟨J, J, trivial⟩⟩
    · skip
      have c_11' := c_11
      try simp only [qq] at c_11'
      refine aw_exit (aw_seq (aw_region (mvs rfl J (sq_ev rfl (ev_len_map sl24 J) ?_))))
      refine sq_ev rfl (ev_leq J J) ?_
      refine asr J rfl (sq_nil (aw_ret ?_))
      exact retQ_pure (v := .raw _) rfl rfl (Less.eq (by rw [shortB, allT_yes (n := 20) (fun i h hi => hok.2 i h (by omega))]; simp; omega))
  · skip
    have g2_4' := g2_4
    try simp only [qq] at g2_4'
    refine sq_no rfl rfl (less_b g2_4) rfl rfl ?_
    refine sq_no rfl rfl (less_b g2_4) rfl rfl ?_
    refine sq_ev rfl (ev_pickF (v := .raw _) (less_b g2_4) J) ?_
    refine sq_nil ?_
    refine aw_false J ?_
    refine aw_exit (aw_seq (aw_region (mvs rfl J (sq_ev rfl (ev_len_map sl24 J) ?_))))
    refine sq_ev rfl (ev_leq J J) ?_
    refine asr J rfl (sq_nil (aw_ret ?_))
    exact retQ_pure (v := .raw _) rfl rfl (Less.eq (by rw [shortB, allT_yes (n := 20) (fun i h hi => hok.2 i h (by omega))]; simp; omega))
theorem few_pure (l : List Fg) : APure Tryz.prog 34 [figs l] (B (fewB l)) := by
 refine apure_of (rs := [.tmp 2]) Tryz.func34 rfl rfl (Nat.le_of_ble_eq_true rfl) (by simp [AV.pureL, AV.pureB, AV.pureE, pureE_map]) (by first | rfl | (simp [AV.pureL, AV.pureB, AV.pureE, pureE_map])) fun e0 he0 => ?_
 refine aw_seq (aw_region (asr J rfl ?_))
 refine sq_nil (aw_seq (aw_seq (aw_region (asr J rfl (sq_nil (aw_block ?_))))))
 refine aw_loopk (ι := { k : Nat // k ≤ l.length ∧ k ≤ 9 ∧ ∀ i, (h : i < l.length) → i < k → shortB l[i] = true }) [0] (fun g => [(3, I g.1)]) (fun H g => H) (fun g => 9 - g.1) (⟨0, Nat.zero_le _, by omega, by omega⟩) ⟨J, J, trivial⟩ rfl ?_
 rintro ⟨k, hk, hok⟩
 dsimp only [keepS, St.put, sget, slotsOf, nn1, nn2, nn3, nn4, nn5, nn6, Nat.reduceBEq, Nat.reduceAdd, nn7, nn8]
 refine aw_seq (aw_seq (aw_region (mvr J rfl (mvs rfl J (sq_ev rfl (ev_len_map sl45 J) ?_)))))
 refine sq_ev rfl (ev_lss J J) ?_
 refine mvr J rfl ?_
 refine sq_split 8 J (fun g2_4 => ?_) (fun g2_4 => ?_)
 ·
  have g2_4' := g2_4
  try simp only [qq] at g2_4'
  have hkL : k < l.length := by omega
  refine sq_yes rfl rfl (less_b g2_4) rfl (ev_mv (v := .raw _) J) ?_
  refine sq_yes rfl rfl (less_b g2_4) rfl (ev_lss J J) ?_
  refine sq_ev rfl (ev_pickT (v := .raw _) (less_b g2_4) J) ?_
  refine sq_nil ?_
  refine aw_cond J (fun c_11 => ?_) (fun c_11 => ?_)
  ·
   have c_11' := c_11
   try simp only [qq] at c_11'
   refine aw_skip (aw_seq (aw_block (aw_seq (aw_region (mvs rfl J (mvr J rfl (sq_ev rfl (ev_index_map sl45 J J rfl (by omega)) ?_)))))))
   refine sq_ev rfl (ev_fieldAddr_i fo26_0 J) ?_
   refine sq_ev rfl (ev_load_i J ty24 rfl) ?_
   refine sq_ev rfl (ev_call en23 J (short_pure _) ⟨J, trivial⟩) ?_
   refine sq_ev rfl (ev_not J) ?_
   refine sq_nil ?_
   refine aw_cond J (fun c_20 => ?_) (fun c_20 => ?_)
   ·
    have c_20' := c_20
    try simp only [qq] at c_20'
    refine aw_seq (aw_region (asr J rfl (sq_nil (aw_ret ?_))))
    exact retQ_pure (v := .raw _) rfl rfl (Less.eq (by rw [fewB, allT_no (i := k) (n := 9) hkL (by omega) (by simpa using c_20)]; rfl))
   have c_20' := c_20
   try simp only [qq] at c_20'
   refine aw_skip (aw_region (mvr J rfl (sq_ev rfl (ev_add J J (wr (by omega) (by omega))) ?_)))
   refine asr J rfl (sq_nil ?_)
   have hgood : shortB l[k] = true := by simpa using c_20
   exact ⟨⟨k + 1, by omega, by omega, fun i h hi => (by by_cases e : i = k; (subst e; exact hgood); exact hok.2 i h (by omega))⟩, by simp only; omega, Sub.slots ⟨J, J, trivial⟩⟩
  have c_11' := c_11
  try simp only [qq] at c_11'
  refine aw_exit (aw_seq (aw_region (mvs rfl J (sq_ev rfl (ev_len_map sl45 J) ?_))))
  refine sq_ev rfl (ev_leq J J) ?_
  refine asr J rfl (sq_nil (aw_ret ?_))
  exact retQ_pure (v := .raw _) rfl rfl (Less.eq (by rw [fewB, allT_yes (n := 9) (fun i h hi => hok.2 i h (by omega))]; simp; omega))
 have g2_4' := g2_4
 try simp only [qq] at g2_4'
 refine sq_no rfl rfl (less_b g2_4) rfl rfl ?_
 refine sq_no rfl rfl (less_b g2_4) rfl rfl ?_
 refine sq_ev rfl (ev_pickF (v := .raw _) (less_b g2_4) J) ?_
 refine sq_nil ?_
 refine aw_false J ?_
 refine aw_exit (aw_seq (aw_region (mvs rfl J (sq_ev rfl (ev_len_map sl45 J) ?_))))
 refine sq_ev rfl (ev_leq J J) ?_
 refine asr J rfl (sq_nil (aw_ret ?_))
 exact retQ_pure (v := .raw _) rfl rfl (Less.eq (by rw [fewB, allT_yes (n := 9) (fun i h hi => hok.2 i h (by omega))]; simp; omega))
theorem rfigures_pure (l : List Fg) : APure Tryz.prog 85 [figs l] (B ((l.take 6).all fgOK && decide (l.length ≤ 6))) := by
 refine apure_of (rs := [.tmp 2]) Tryz.func85 rfl rfl (Nat.le_of_ble_eq_true rfl) (by simp [AV.pureL, AV.pureB, AV.pureE, pureE_map]) (by first | rfl | (simp [AV.pureL, AV.pureB, AV.pureE, pureE_map])) fun e0 he0 => ?_
 refine aw_seq (aw_region (asr J rfl ?_))
 refine sq_nil (aw_seq (aw_seq (aw_region (asr J rfl (sq_nil (aw_block ?_))))))
 refine aw_loopk (ι := { k : Nat // k ≤ l.length ∧ k ≤ 6 ∧ ∀ i, (h : i < l.length) → i < k → fgOK l[i] = true }) [0] (fun g => [(3, I g.1)]) (fun H g => H) (fun g => 6 - g.1) (⟨0, Nat.zero_le _, by omega, by omega⟩) ⟨J, J, trivial⟩ rfl ?_
 rintro ⟨k, hk, hok⟩
 dsimp only [keepS, St.put, sget, slotsOf, nn1, nn2, nn3, nn4, nn5, nn6, Nat.reduceBEq, Nat.reduceAdd, nn7, nn8]
 refine aw_seq (aw_seq (aw_region (mvr J rfl (mvs rfl J (sq_ev rfl (ev_len_map sl45 J) ?_)))))
 refine sq_ev rfl (ev_lss J J) ?_
 refine mvr J rfl ?_
 refine sq_split 8 J (fun g2_4 => ?_) (fun g2_4 => ?_)
 ·
  have g2_4' := g2_4
  try simp only [qq] at g2_4'
  have hkL : k < l.length := by omega
  refine sq_yes rfl rfl (less_b g2_4) rfl (ev_mv (v := .raw _) J) ?_
  refine sq_yes rfl rfl (less_b g2_4) rfl (ev_lss J J) ?_
  refine sq_ev rfl (ev_pickT (v := .raw _) (less_b g2_4) J) ?_
  refine sq_nil ?_
  refine aw_cond J (fun c_11 => ?_) (fun c_11 => ?_)
  ·
   have c_11' := c_11
   try simp only [qq] at c_11'
   refine aw_skip (aw_seq (aw_block (aw_seq (aw_region (mvs rfl J (mvr J rfl (sq_ev rfl (ev_index_map sl45 J J rfl (by omega)) ?_)))))))
   refine sq_ev rfl (ev_load_agg_i J ty26 (by exact Nat.le_of_ble_eq_true rfl)) ?_
   refine sq_ev rfl (ev_call en25 J (rfigure_pure _) ⟨J, trivial⟩) ?_
   refine sq_ev rfl (ev_not J) ?_
   refine sq_nil ?_
   refine aw_cond J (fun c_19 => ?_) (fun c_19 => ?_)
   ·
    have c_19' := c_19
    try simp only [qq] at c_19'
    refine aw_seq (aw_region (asr J rfl (sq_nil (aw_ret ?_))))
    exact retQ_pure (v := .raw _) rfl rfl (Less.eq (by rw [allT_no (i := k) (n := 6) hkL (by omega) (by simpa using c_19)]; rfl))
   have c_19' := c_19
   try simp only [qq] at c_19'
   refine aw_skip (aw_region (mvr J rfl (sq_ev rfl (ev_add J J (wr (by omega) (by omega))) ?_)))
   refine asr J rfl (sq_nil ?_)
   have hgood : fgOK l[k] = true := by simpa using c_19
   exact ⟨⟨k + 1, by omega, by omega, fun i h hi => (by by_cases e : i = k; (subst e; exact hgood); exact hok.2 i h (by omega))⟩, by simp only; omega, Sub.slots ⟨J, J, trivial⟩⟩
  have c_11' := c_11
  try simp only [qq] at c_11'
  refine aw_exit (aw_seq (aw_region (mvs rfl J (sq_ev rfl (ev_len_map sl45 J) ?_))))
  refine sq_ev rfl (ev_leq J J) ?_
  refine asr J rfl (sq_nil (aw_ret ?_))
  exact retQ_pure (v := .raw _) rfl rfl (Less.eq (by rw [allT_yes (n := 6) (fun i h hi => hok.2 i h (by omega))]; simp; omega))
 have g2_4' := g2_4
 try simp only [qq] at g2_4'
 refine sq_no rfl rfl (less_b g2_4) rfl rfl ?_
 refine sq_no rfl rfl (less_b g2_4) rfl rfl ?_
 refine sq_ev rfl (ev_pickF (v := .raw _) (less_b g2_4) J) ?_
 refine sq_nil ?_
 refine aw_false J ?_
 refine aw_exit (aw_seq (aw_region (mvs rfl J (sq_ev rfl (ev_len_map sl45 J) ?_))))
 refine sq_ev rfl (ev_leq J J) ?_
 refine asr J rfl (sq_nil (aw_ret ?_))
 exact retQ_pure (v := .raw _) rfl rfl (Less.eq (by rw [allT_yes (n := 6) (fun i h hi => hok.2 i h (by omega))]; simp; omega))
theorem rcompany_pure (l : List Fg) : APure Tryz.prog 111 [figs l] (B (coOK l)) := by
 refine apure_of (rs := [.tmp 2]) Tryz.func111 rfl rfl (Nat.le_of_ble_eq_true rfl) (by simp [AV.pureL, AV.pureB, AV.pureE, pureE_map]) (by first | rfl | (simp [AV.pureL, AV.pureB, AV.pureE, pureE_map])) fun e0 he0 => ?_
 refine aw_seq (aw_region (asr J rfl (sq_nil (aw_seq (aw_region (mvs rfl J (sq_ev rfl (ev_len_map sl45 J) ?_)))))))
 refine sq_ev rfl (ev_gtr J J) ?_
 refine mvr J rfl ?_
 refine sq_split 6 J (fun g1_3 => ?_) (fun g1_3 => ?_)
 ·
  have g1_3' := g1_3
  try simp only [qq] at g1_3'
  refine sq_yes rfl rfl (less_b g1_3) rfl (ev_mv (v := .sl _ _) J) ?_
  refine sq_yes rfl rfl (less_b g1_3) rfl (ev_call en85 J (rfigures_pure l) ⟨J, trivial⟩) ?_
  refine sq_ev rfl (ev_pickT (v := .raw _) (less_b g1_3) J) ?_
  refine asr J rfl (sq_nil (aw_ret ?_))
  exact retQ_pure (v := .raw _) rfl rfl (Less.eq (by rw [coOK_ref]; simp [*] <;> (intros; omega)))
 have g1_3' := g1_3
 try simp only [qq] at g1_3'
 refine sq_no rfl rfl (less_b g1_3) rfl rfl ?_
 refine sq_no rfl rfl (less_b g1_3) rfl rfl ?_
 refine sq_ev rfl (ev_pickF (v := .raw _) (less_b g1_3) J) ?_
 refine asr J rfl (sq_nil (aw_ret ?_))
 exact retQ_pure (v := .raw _) rfl rfl (Less.eq (by rw [coOK_ref]; simp [*] <;> (intros; omega)))
end Go.Proofs.YtmbknoaneglilaaGreatDoor
namespace Go.Proofs.YtmbknoaneglilaaGreatDoor
open Go Go.Ab Ni Ol
theorem samec_pure (a b : List (List UInt8)) (ha : a.length ≤ 1000000) (hb : b.length ≤ 1000000) : APure Tryz.prog 77 [strs a, strs b] (B (decide (a = b))) := by
 refine apure_of (rs := [.tmp 4]) Tryz.func77 rfl rfl (Nat.le_of_ble_eq_true rfl) (by simp [AV.pureL, AV.pureB, AV.pureE, pureE_map]) (by first | rfl | (simp [AV.pureL, AV.pureB, AV.pureE, pureE_map])) fun e0 he0 => ?_
 refine aw_seq (aw_region ?_)
 refine asr J rfl (sq_nil (aw_seq (aw_seq (aw_region (mvs rfl J (sq_ev rfl (ev_len_map sl24 J) ?_))))))
 refine mvs rfl J (sq_ev rfl (ev_len_map sl24 J) ?_)
 refine sq_ev rfl (ev_neq J J) ?_
 refine sq_nil ?_
 refine aw_cond J (fun c_10 => ?_) (fun c_10 => ?_)
 ·
  have c_10' := c_10
  try simp only [qq] at c_10'
  refine aw_seq (aw_region (asr J rfl (sq_nil (aw_ret ?_))))
  exact retQ_pure (v := .raw _) rfl rfl (Less.eq (by rw [decide_eq_false (fun h => by rw [h] at c_10'; exact c_10' rfl)]))
 have c_10' := c_10
 try simp only [qq] at c_10'
 have hlen : a.length = b.length := by omega
 refine aw_skip (aw_seq (aw_seq (aw_region (asr J rfl (sq_nil (aw_block ?_))))))
 refine aw_loopk (ι := { k : Nat // k ≤ a.length ∧ ∀ i, (h1 : i < a.length) → (h2 : i < b.length) → i < k → a[i] = b[i] }) [0, 1] (fun g => [(5, I g.1)]) (fun H g => H) (fun g => a.length - g.1) (⟨0, Nat.zero_le _, by omega⟩) ⟨J, J, J, trivial⟩ rfl ?_
 rintro ⟨k, hk, hok⟩
 dsimp only [keepS, St.put, sget, slotsOf, nn1, nn2, nn3, nn4, nn5, nn6, Nat.reduceBEq, Nat.reduceAdd, nn7, nn8]
 refine aw_seq (aw_seq (aw_region (mvr J rfl (mvs rfl J (sq_ev rfl (ev_len_map sl24 J) ?_)))))
 refine sq_ev rfl (ev_lss J J) ?_
 refine sq_nil ?_
 refine aw_cond J (fun c_14 => ?_) (fun c_14 => ?_)
 ·
  have c_14' := c_14
  try simp only [qq] at c_14'
  have hkL : k < a.length := by omega
  refine aw_skip (aw_seq (aw_block (aw_seq ?_)))
  refine aw_draw 9 mo (by kernel_rfl) ?_
  refine dr_ev rfl (ev_mv (v := .sl _ _) J) ?_
  refine dr_ev rfl (ev_mv (v := .raw _) J) ?_
  refine dr_ev rfl (ev_index_map sl24 J J rfl (by omega)) ?_
  refine dr_ev rfl (ev_load_i J ty9 rfl) ?_
  refine dr_ev rfl (ev_mv (v := .sl _ _) J) ?_
  refine dr_ev rfl (ev_mv (v := .raw _) J) ?_
  refine dr_ev rfl (ev_index_map sl24 J J rfl (by omega)) ?_
  refine dr_ev rfl (ev_load_i J ty9 rfl) ?_
  refine dr_ev rfl (ev_sneS J J) ?_
  refine dr_end (sq_nil ?_)
  refine aw_cond J (fun c_25 => ?_) (fun c_25 => ?_)
  ·
   have c_25' := c_25
   try simp only [qq] at c_25'
   refine aw_seq (aw_region (asr J rfl (sq_nil (aw_ret ?_))))
   exact retQ_pure (v := .raw _) rfl rfl (Less.eq (by rw [decide_eq_false (fun h => by subst h; simp at c_25')]))
  have c_25' := c_25
  try simp only [qq] at c_25'
  refine aw_skip (aw_region (mvr J rfl (sq_ev rfl (ev_add J J (wr (by omega) (by omega))) ?_)))
  refine asr J rfl (sq_nil ?_)
  exact ⟨⟨k + 1, by omega, fun i h1 h2 h => (by by_cases e : i = k; (subst e; simpa using c_25'); exact hok i h1 h2 (by omega))⟩, by simp only; omega, Sub.slots ⟨J, J, J, trivial⟩⟩
 have c_14' := c_14
 try simp only [qq] at c_14'
 have heq : a = b := same_ext hlen fun i h1 h2 => hok i h1 h2 (by omega)
 refine aw_exit (aw_seq (aw_region (asr J rfl (sq_nil (aw_ret ?_)))))
 exact retQ_pure (v := .raw _) rfl rfl (Less.eq (by rw [decide_eq_true heq]))
theorem rbook_pure (b : Bk) : APure Tryz.prog 55 [bkA b] (B (bkOK b)) := by
 refine apure_of (rs := [.tmp 2]) Tryz.func55 rfl rfl (Nat.le_of_ble_eq_true rfl) (by simp [AV.pureL, AV.pureB, AV.pureE, pureE_map]) (by first | rfl | (simp [AV.pureL, AV.pureB, AV.pureE, pureE_map])) fun e0 he0 => ?_
 refine aw_seq (aw_region (sq_box rfl J rfl (asr J rfl (sq_nil (aw_seq (aw_region (sq_ev rfl (ev_fieldAddr fo81_0 J) ?_)))))))
 refine sq_ev rfl (ev_load_agg J rfl ty23 rfl) ?_
 refine sq_ev rfl (ev_call en24 J (rstage_pure b.s) ⟨J, trivial⟩) ?_
 refine mvr J rfl ?_
 refine sq_split 6 J (fun g1_3 => ?_) (fun g1_3 => ?_)
 ·
  have g1_3' := g1_3
  try simp only [qq] at g1_3'
  refine sq_yes rfl rfl (less_b g1_3) rfl (ev_fieldAddr fo81_1 J) ?_
  refine sq_yes rfl rfl (less_b g1_3) rfl (ev_load J rfl ty45 rfl) ?_
  refine sq_yes rfl rfl (less_b g1_3) rfl (ev_call en111 J (rcompany_pure b.l) ⟨J, trivial⟩) ?_
  refine sq_ev rfl (ev_pickT (v := .raw _) (less_b g1_3) J) ?_
  refine asr J rfl (sq_nil (aw_ret ?_))
  exact retQ_pure (v := .raw _) rfl rfl (Less.eq (by unfold bkOK; simp [*]))
 have g1_3' := g1_3
 try simp only [qq] at g1_3'
 refine sq_no rfl rfl (less_b g1_3) rfl rfl ?_
 refine sq_no rfl rfl (less_b g1_3) rfl rfl ?_
 refine sq_no rfl rfl (less_b g1_3) rfl rfl ?_
 refine sq_ev rfl (ev_pickF (v := .raw _) (less_b g1_3) J) ?_
 refine asr J rfl (sq_nil (aw_ret ?_))
 exact retQ_pure (v := .raw _) rfl rfl (Less.eq (by unfold bkOK; simp [*]))
end Go.Proofs.YtmbknoaneglilaaGreatDoor
namespace Go.Proofs.YtmbknoaneglilaaGreatDoor
open Go Go.Ab Ni Ol
theorem en27 : Ent Tryz.prog 27 := Ent.of Tryz.func27 (by kernel_rfl) rfl
end Go.Proofs.YtmbknoaneglilaaGreatDoor
namespace Go.Proofs.YtmbknoaneglilaaGreatDoor
open Go Go.Ab Ni Ol
theorem cut_no {c : UInt8} : ∀ {l : List UInt8}, c ∉ l → cut c l = [l]
  | [], _ => rfl
  | b :: l, h => by
    rw [cut, if_neg (fun e => h (by simp [e])), cut_no (fun k => h (List.mem_cons_of_mem _ k))]
theorem cut_app {c : UInt8} : ∀ {w r : List UInt8}, c ∉ w → cut c (w ++ c :: r) = w :: cut c r
  | [], r, _ => by simp [cut]
  | b :: w, r, h => by
    rw [List.cons_append, cut, if_neg (fun e => h (by simp [e])), cut_app (fun k => h (List.mem_cons_of_mem _ k))]
theorem cut_pre {c : UInt8} : ∀ {ws : List (List UInt8)} {w : List UInt8}, c ∉ w → (∀ x ∈ ws, c ∉ x) → cut c (w ++ (ws.map fun x => c :: x).flatten) = w :: ws
  | [], w, h, _ => by simpa using cut_no h
  | x :: ws, w, h, k => by
    have e : w ++ ((x :: ws).map fun x => c :: x).flatten = w ++ c :: (x ++ (ws.map fun x => c :: x).flatten) := by simp
    rw [e, cut_app h, cut_pre (k x (by simp)) (fun y hy => k y (List.mem_cons_of_mem _ hy))]
theorem cut_out {c : UInt8} : ∀ {ls : List (List UInt8)} {r : List UInt8}, (∀ l ∈ ls, c ∉ l) → cut c ((ls.map fun l => l ++ [c]).flatten ++ r) = ls ++ cut c r
  | [], r, _ => by simp
  | l :: ls, r, h => by
    have e : ((l :: ls).map fun l => l ++ [c]).flatten ++ r = l ++ c :: ((ls.map fun l => l ++ [c]).flatten ++ r) := by simp
    rw [e, cut_app (h l (by simp)), cut_out (fun y hy => h y (List.mem_cons_of_mem _ hy))]; rfl
theorem itoa_fin : ∀ n : Fin 100, numO (Lib.itoa (n.val : Int)) = some (n.val : Int) ∧ (Lib.itoa (n.val : Int)).all isD = true ∧ (Lib.itoa (n.val : Int)).length ≤ 2 := by decide +kernel
theorem itoa_two {n : Int} (h : 0 ≤ n ∧ n ≤ 99) : numO (Lib.itoa n) = some n ∧ (Lib.itoa n).all isD = true ∧ (Lib.itoa n).length ≤ 2 := by
  have := itoa_fin ⟨n.toNat, by omega⟩
  rwa [show ((⟨n.toNat, by omega⟩ : Fin 100).val : Int) = n from (by simp; omega)] at this
theorem itoa_not {n : Int} (h : 0 ≤ n ∧ n ≤ 99) {c : UInt8} (hc : isD c = false) : c ∉ Lib.itoa n := fun k => by
  have := List.all_eq_true.1 (itoa_two h).2.1 c k
  rw [hc] at this; cases this
theorem numsO_itoa : ∀ {l : List Int}, (∀ n ∈ l, 0 ≤ n ∧ n ≤ 99) → numsO (l.map Lib.itoa) = some l
  | [], _ => rfl
  | n :: l, h => by
    rw [List.map_cons, numsO, (itoa_two (h n (by simp))).1, numsO_itoa (fun m hm => h m (List.mem_cons_of_mem _ hm))]
structure TdB (b : Bk) : Prop where
  head : ∀ n ∈ stL b.s, 0 ≤ n ∧ n ≤ 99
  fig : ∀ f ∈ b.l, 0 < f.length ∧ ∀ w ∈ f, w ≠ [] ∧ (10 : UInt8) ∉ w ∧ (32 : UInt8) ∉ w
theorem ok_td {b : Bk} (h : bkOK b = true) : TdB b := by
  unfold bkOK at h
  rw [Bool.and_eq_true] at h
  have hs := stOK_iff.1 h.1
  refine ⟨fun n hn => ?_, fun f hf => ?_⟩
  · simp only [stL, List.mem_cons, List.not_mem_nil, or_false] at hn
    rcases hn with rfl | rfl | rfl | rfl | rfl | rfl <;> omega
  · obtain ⟨i, hi, rfl⟩ := List.getElem_of_mem hf
    have hk := (coOK_facts h.2).2 i hi
    obtain ⟨a, w, c⟩ := fgOK_facts hk
    refine ⟨by omega, fun r hr => ?_⟩
    obtain ⟨j, hj, rfl⟩ := List.getElem_of_mem hr
    unfold fgOK at hk
    simp only [Bool.and_eq_true, List.all_eq_true] at hk
    have := hk.1.2 _ (List.getElem_mem hj)
    unfold fgRow at this
    simp only [Bool.and_eq_true, List.all_eq_true, decide_eq_true_eq] at this
    have hl := c j hj
    refine ⟨fun e => by rw [e] at hl; simp at hl; omega, fun hm => ?_, fun hm => ?_⟩
    · rcases this.2 _ hm with e | e <;> cases e
    · rcases this.2 _ hm with e | e <;> cases e
theorem line_pre (s : Sg) (r : Option Fg) : lineO s r = nameW r ++ ((rowW s r).map fun x => 32 :: x).flatten := join_eq _ _
theorem name_not (r : Option Fg) {c : UInt8} (h1 : c ∉ wStage) (h2 : c ∉ wFigure) : c ∉ nameW r := by cases r <;> assumption
theorem words_not {b : Bk} (td : TdB b) {r : Option Fg} (h : r ∈ rowsB b) {c : UInt8} (hc : isD c = false) (h2 : c = 10 ∨ c = 32) : ∀ w ∈ rowW b.s r, c ∉ w := by
  rcases rowsB_mem h with rfl | ⟨f, hf, rfl⟩
  · intro w hw
    obtain ⟨n, hn, rfl⟩ := List.mem_map.1 hw
    exact itoa_not (td.head n hn) hc
  · intro w hw
    have := (td.fig f hf).2 w hw
    rcases h2 with rfl | rfl
    · exact this.2.1
    · exact this.2.2
theorem mem_pre {c : UInt8} (hc : c ≠ 32) {ws : List (List UInt8)} {w : List UInt8} (h : c ∉ w) (k : ∀ x ∈ ws, c ∉ x) : c ∉ w ++ (ws.map fun x => 32 :: x).flatten := fun hm => by
  rcases List.mem_append.1 hm with hm | hm
  · exact h hm
  · obtain ⟨y, hy, hm⟩ := List.mem_flatten.1 hm
    obtain ⟨x, hx, rfl⟩ := List.mem_map.1 hy
    rcases List.mem_cons.1 hm with hm | hm
    · exact hc hm
    · exact k x hx hm
theorem lines_not {b : Bk} (td : TdB b) : ∀ l ∈ linesB b, (10 : UInt8) ∉ l := fun l hl => by
  obtain ⟨r, hr, rfl⟩ := List.mem_map.1 hl
  rw [line_pre]
  exact mem_pre (by decide) (name_not r (by decide) (by decide)) (words_not td hr (by decide) (.inl rfl))
theorem line_cut {b : Bk} (td : TdB b) {r : Option Fg} (h : r ∈ rowsB b) : cut 32 (lineO b.s r) = nameW r :: rowW b.s r := by
  rw [line_pre]
  exact cut_pre (name_not r (by decide) (by decide)) (words_not td h (by decide) (.inr rfl))
theorem rowsB_eq (b : Bk) : rowsB b = none :: b.l.map some := by unfold rowsB rowsT; rw [List.take_length]
theorem row_read {b : Bk} (td : TdB b) {f : Fg} (hf : f ∈ b.l) : rowO (lineO b.s (some f)) = some f := by
  have hc := line_cut td (r := some f) (by rw [rowsB_eq]; simp [hf])
  obtain ⟨h1, h2⟩ := td.fig f hf
  unfold rowO
  rw [hc, List.drop_succ_cons, List.drop_zero]
  exact if_pos ⟨h1, fun hm => (h2 _ hm).1 rfl⟩
theorem rows_read {b : Bk} (td : TdB b) : ∀ {l : List Fg}, (∀ f ∈ l, f ∈ b.l) → rowsO (l.map fun f => lineO b.s (some f)) = some l
  | [], _ => rfl
  | f :: l, h => by
    rw [List.map_cons, rowsO, row_read td (h f (by simp)), rows_read td (fun y hy => h y (List.mem_cons_of_mem _ hy))]
theorem linesB_eq (b : Bk) : linesB b = lineO b.s none :: b.l.map fun f => lineO b.s (some f) := by
  unfold linesB; rw [rowsB_eq, List.map_cons, List.map_map]; rfl
def endL (c : Int) : List UInt8 := [101, 110, 100, 32] ++ digs3 c
theorem end_not {c : Int} (h : 0 ≤ c ∧ c ≤ 999) : (10 : UInt8) ∉ endL c := by
  have a1 := itoa_not (n := c / 100) (by omega) (c := 10) (by decide)
  have a2 := itoa_not (n := c / 10 % 10) (by omega) (c := 10) (by decide)
  have a3 := itoa_not (n := c % 10) (by omega) (c := 10) (by decide)
  unfold endL digs3
  simp [a1, a2, a3]
theorem seal_cut {ls : List (List UInt8)} (h : ∀ l ∈ ls, (10 : UInt8) ∉ l) : cut 10 (sealB ls) = ls ++ [endL (ctT ls ls.length % 173), []] := by
  have e : sealB ls = (ls.map fun l => l ++ [10]).flatten ++ (endL (ctT ls ls.length % 173) ++ 10 :: []) := by
    unfold sealB outT endL; rw [List.take_length]; simp
  rw [e, cut_out h, cut_app (end_not (by omega))]; rfl
/-- **A text is read as its book.** -/
theorem parse_text {b : Bk} (td : TdB b) : parseB (textB b) = some b := by
  have hc : cut 10 (textB b) = lineO b.s none :: ((b.l.map fun f => lineO b.s (some f)) ++ [endL (ctT (linesB b) (linesB b).length % 173), []]) := by
    unfold textB; rw [seal_cut (lines_not td), linesB_eq]; rfl
  have hw : cut 32 (lineO b.s none) = wStage :: (stL b.s).map Lib.itoa := line_cut td (r := none) (by rw [rowsB_eq]; simp)
  have hr : rowsO ((((b.l.map fun f => lineO b.s (some f)) ++ [endL (ctT (linesB b) (linesB b).length % 173), []])).take ((((b.l.map fun f => lineO b.s (some f)) ++ [endL (ctT (linesB b) (linesB b).length % 173), []])).length - 2)) = some b.l := by
    rw [List.length_append, show ([endL (ctT (linesB b) (linesB b).length % 173), ([] : List UInt8)]).length = 2 from rfl, Nat.add_sub_cancel, List.take_left']
    · exact rows_read td (fun x h => h)
    · rfl
  have h0 := parse_all hc (by simp) hw rfl (numsO_itoa td.head) hr
  unfold parseB
  rw [h0]
  have e : (⟨sgOf (stL b.s), b.l⟩ : Bk) = b := rfl
  rw [e]; simp only [if_true]
theorem prelen {B : Nat} {ws : List (List UInt8)} (h : ∀ w ∈ ws, w.length ≤ B) : ((ws.map fun w => (32 : UInt8) :: w).flatten).length ≤ (B + 1) * ws.length := by
  induction ws with
  | nil => simp
  | cons w ws ih =>
    have h1 := h w (by simp)
    have h2 := ih (fun x hx => h x (List.mem_cons_of_mem _ hx))
    simp only [List.map_cons, List.flatten_cons, List.length_append, List.length_cons, Nat.mul_add]
    omega
theorem outlen {ls : List (List UInt8)} {B : Nat} (h : ∀ l ∈ ls, l.length ≤ B) : ((ls.map fun l => l ++ [10]).flatten).length ≤ (B + 1) * ls.length := by
  induction ls with
  | nil => simp
  | cons w ws ih =>
    have h1 := h w (by simp)
    have h2 := ih (fun x hx => h x (List.mem_cons_of_mem _ hx))
    simp only [List.map_cons, List.flatten_cons, List.length_append, List.length_cons, Nat.mul_add]
    simp only [List.length_nil]
    omega
theorem ok_lines {b : Bk} (h : bkOK b = true) : (linesB b).length ≤ 7 ∧ ∀ l ∈ linesB b, l.length ≤ 48 := by
  have td := ok_td h
  unfold bkOK at h
  rw [Bool.and_eq_true] at h
  obtain ⟨h1, h2⟩ := coOK_facts h.2
  constructor
  · rw [linesB_eq]; simp; omega
  · intro l hl
    obtain ⟨r, hr, rfl⟩ := List.mem_map.1 hl
    rw [line_pre, List.length_append]
    rcases rowsB_mem hr with rfl | ⟨f, hf, rfl⟩
    · have := prelen (B := 2) (ws := rowW b.s none) (fun w hw => by obtain ⟨n, hn, rfl⟩ := List.mem_map.1 hw; exact (itoa_two (td.head n hn)).2.2)
      have e : (rowW b.s none).length = 6 := rfl
      have e2 : (nameW none).length = 5 := rfl
      omega
    · obtain ⟨i, hi, rfl⟩ := List.getElem_of_mem hf
      obtain ⟨a, w, c⟩ := fgOK_facts (h2 i hi)
      have := prelen (B := 6) (ws := rowW b.s (some b.l[i])) (fun r hr => by obtain ⟨j, hj, rfl⟩ := List.getElem_of_mem (show r ∈ b.l[i] from hr); rw [c j hj]; omega)
      have e : (rowW b.s (some b.l[i])).length = b.l[i].length := rfl
      have e2 : (nameW (some b.l[i])).length = 6 := rfl
      have : 7 * b.l[i].length ≤ 42 := by omega
      omega
theorem text_len {b : Bk} (h : bkOK b = true) : (textB b).length ≤ 400 := by
  obtain ⟨h1, h2⟩ := ok_lines h
  have e : textB b = ((linesB b).map fun l => l ++ [10]).flatten ++ [101, 110, 100, 32] ++ digs3 (ctT (linesB b) (linesB b).length % 173) ++ [10] := by
    unfold textB sealB outT; rw [List.take_length]
  have h3 := outlen h2
  have h4 : (digs3 (ctT (linesB b) (linesB b).length % 173)).length ≤ 6 := by
    unfold digs3; simp only [List.length_append]
    have a1 := (itoa_two (n := ctT (linesB b) (linesB b).length % 173 / 100) (by omega)).2.2
    have a2 := (itoa_two (n := ctT (linesB b) (linesB b).length % 173 / 10 % 10) (by omega)).2.2
    have a3 := (itoa_two (n := ctT (linesB b) (linesB b).length % 173 % 10) (by omega)).2.2
    omega
  rw [e]
  simp only [List.length_append, List.length_cons, List.length_nil] at h3 ⊢
  have : (48 + 1) * (linesB b).length ≤ 343 := by omega
  omega
end Go.Proofs.YtmbknoaneglilaaGreatDoor
namespace Go.Proofs.YtmbknoaneglilaaGreatDoor
open Go Go.Ab Ni Ol
theorem en58 : Ent Tryz.prog 58 := Ent.of Tryz.func58 (by kernel_rfl) rfl
theorem fieldsOf_st {P : Program} {t : TypeId} {fs : Array Field} (h : P.underlying t = some (.struct fs)) : P.fieldsOf t = fs := by unfold Program.fieldsOf; rw [h]
abbrev stVals (x : Sg) : Array Value := #[.int .i64 x.wide, .int .i64 x.high, .int .i64 x.far, .int .i64 x.flame, .int .i64 x.x, .int .i64 x.y]
theorem stEq (a b : Sg) (w : World) : (Op.equalIn 10000 23 (.agg (stVals a)) (.agg (stVals b))).run Tryz.prog w = .ok (decide (a = b)) w := by
  have h3 : Tryz.prog.underlying 3 = some (.int .i64) := Tryz.underlying3
  rw [run_equalIn_struct w 9999 23 _ _ (by rw [fieldsOf_st Tryz.underlying23]; exact Tryz.underlying23) (by kernel_rfl), fieldsOf_st Tryz.underlying23]
  have q0 : ∀ (x : Sg) (w : World), (part 3 (stVals x) 0).run Tryz.prog w = .ok (.int .i64 x.wide) w := fun x w => by simp [part, Tryz.isAgg3]
  have q1 : ∀ (x : Sg) (w : World), (part 3 (stVals x) 1).run Tryz.prog w = .ok (.int .i64 x.high) w := fun x w => by simp [part, Tryz.isAgg3]
  have q2 : ∀ (x : Sg) (w : World), (part 3 (stVals x) 2).run Tryz.prog w = .ok (.int .i64 x.far) w := fun x w => by simp [part, Tryz.isAgg3]
  have q3 : ∀ (x : Sg) (w : World), (part 3 (stVals x) 3).run Tryz.prog w = .ok (.int .i64 x.flame) w := fun x w => by simp [part, Tryz.isAgg3]
  have q4 : ∀ (x : Sg) (w : World), (part 3 (stVals x) 4).run Tryz.prog w = .ok (.int .i64 x.x) w := fun x w => by simp [part, Tryz.isAgg3]
  have q5 : ∀ (x : Sg) (w : World), (part 3 (stVals x) 5).run Tryz.prog w = .ok (.int .i64 x.y) w := fun x w => by simp [part, Tryz.isAgg3]
  simp [Op.eqFields, q0, q1, q2, q3, q4, q5, run_equalIn_int _ _ _ _ _ _ _ h3]
  obtain ⟨a1, a2, a3, a4, a5, a6⟩ := a
  obtain ⟨b1, b2, b3, b4, b5, b6⟩ := b
  simp only [Sg.mk.injEq]
  by_cases e1 : a1 = b1 <;> by_cases e2 : a2 = b2 <;> by_cases e3 : a3 = b3 <;> by_cases e4 : a4 = b4 <;> by_cases e5 : a5 = b5 <;> by_cases e6 : a6 = b6 <;> simp [e1, e2, e3, e4, e5, e6]
structure Rz where
  fig : Int
  p : Pc
  deriving DecidableEq
section
variable {r : Option Nat} {H : List AObj} {ρ : Operand → AV} {d : Option Tmp} {t : TypeId} {p : String} {af : Array Edge} {g : Option (Nat × Bool)} {x y : Operand} {yt : TypeId}
theorem ev_st_neq {a b : Sg} (hx : Less (ρ x) (stA a)) (hy : Less (ρ y) (stA b)) : Ev Tryz.prog r ⟨d, .binOp .neq 23 x y yt, t, p, af, g⟩ H ρ (B (!decide (a = b))) :=
  ev_neq_agg (by kernel_rfl) (stEq a b) (Less.trans hx (less_agg_raw (vs := [.int .i64 a.wide, .int .i64 a.high, .int .i64 a.far, .int .i64 a.flame, .int .i64 a.x, .int .i64 a.y]) rfl)) (Less.trans hy (less_agg_raw (vs := [.int .i64 b.wide, .int .i64 b.high, .int .i64 b.far, .int .i64 b.flame, .int .i64 b.x, .int .i64 b.y]) rfl))
end
theorem bk_eq {a b : Bk} : a = b ↔ a.s = b.s ∧ a.l = b.l := by cases a; cases b; simp only [Bk.mk.injEq]
theorem rbooks_pure (a b : Bk) (ha : a.l.length ≤ 1000000 ∧ ∀ f ∈ a.l, f.length ≤ 1000000) (hb : b.l.length ≤ 1000000 ∧ ∀ f ∈ b.l, f.length ≤ 1000000) : APure Tryz.prog 58 [bkA a, bkA b] (B (decide (a = b))) := by
 refine apure_of (rs := [.tmp 4]) Tryz.func58 rfl rfl (Nat.le_of_ble_eq_true rfl) (by simp [AV.pureL, AV.pureB, AV.pureE, pureE_map]) (by first | rfl | (simp [AV.pureL, AV.pureB, AV.pureE, pureE_map])) fun e0 he0 => ?_
 refine aw_seq (aw_region (sq_box rfl J rfl ?_))
 refine sq_box rfl J rfl (asr J rfl (sq_nil (aw_seq (aw_seq (aw_region (sq_ev rfl (ev_fieldAddr fo81_0 J) ?_))))))
 refine sq_ev rfl (ev_load_agg J rfl ty23 rfl) ?_
 refine sq_ev rfl (ev_fieldAddr fo81_0 J) ?_
 refine sq_ev rfl (ev_load_agg J rfl ty23 rfl) ?_
 refine sq_ev rfl (ev_st_neq (a := a.s) (b := b.s) J J) ?_
 refine mvr J rfl ?_
 refine sq_split 11 J (fun g1_5 => ?_) (fun g1_5 => ?_)
 ·
  have g1_5' := g1_5
  try simp only [qq] at g1_5'
  refine sq_no rfl rfl (less_b g1_5) rfl rfl ?_
  refine sq_no rfl rfl (less_b g1_5) rfl rfl ?_
  refine sq_no rfl rfl (less_b g1_5) rfl rfl ?_
  refine sq_no rfl rfl (less_b g1_5) rfl rfl ?_
  refine sq_no rfl rfl (less_b g1_5) rfl rfl ?_
  refine sq_no rfl rfl (less_b g1_5) rfl rfl ?_
  refine sq_no rfl rfl (less_b g1_5) rfl rfl ?_
  refine sq_ev rfl (ev_pickT (v := .raw _) (less_b g1_5) J) ?_
  refine sq_nil ?_
  refine aw_true J ?_
  refine aw_seq (aw_region (asr J rfl (sq_nil (aw_ret ?_))))
  exact retQ_pure (v := .raw _) rfl rfl (Less.eq (by rw [decide_eq_false (fun h => by subst h; simp at g1_5')]))
 have g1_5' := g1_5
 try simp only [qq] at g1_5'
 have hst : a.s = b.s := by first | exact g1_5' | simpa using g1_5
 refine sq_yes rfl rfl (less_b g1_5) rfl (ev_fieldAddr fo81_1 J) ?_
 refine sq_yes rfl rfl (less_b g1_5) rfl (ev_load J rfl ty45 rfl) ?_
 refine sq_yes rfl rfl (less_b g1_5) rfl (ev_len_map sl45 J) ?_
 refine sq_yes rfl rfl (less_b g1_5) rfl (ev_fieldAddr fo81_1 J) ?_
 refine sq_yes rfl rfl (less_b g1_5) rfl (ev_load J rfl ty45 rfl) ?_
 refine sq_yes rfl rfl (less_b g1_5) rfl (ev_len_map sl45 J) ?_
 refine sq_yes rfl rfl (less_b g1_5) rfl (ev_neq J J) ?_
 refine sq_ev rfl (ev_pickF (v := .raw _) (less_b g1_5) J) ?_
 refine sq_nil ?_
 refine aw_cond J (fun c_19 => ?_) (fun c_19 => ?_)
 ·
  have c_19' := c_19
  try simp only [qq] at c_19'
  refine aw_seq (aw_region (asr J rfl (sq_nil (aw_ret ?_))))
  exact retQ_pure (v := .raw _) rfl rfl (Less.eq (by rw [decide_eq_false (fun h => by subst h; simp at c_19')]))
 have c_19' := c_19
 try simp only [qq] at c_19'
 have hlen : a.l.length = b.l.length := by omega
 refine aw_skip (aw_seq (aw_seq (aw_region (asr J rfl (sq_nil (aw_block ?_))))))
 refine aw_loopk (ι := { k : Nat // k ≤ a.l.length ∧ ∀ i, (h1 : i < a.l.length) → (h2 : i < b.l.length) → i < k → a.l[i] = b.l[i] }) [2, 3] (fun g => [(5, I g.1)]) (fun H g => H) (fun g => a.l.length - g.1) (⟨0, Nat.zero_le _, by omega⟩) ⟨J, J, J, trivial⟩ rfl ?_
 rintro ⟨k, hk, hok⟩
 dsimp only [keepS, St.put, sget, slotsOf, nn1, nn2, nn3, nn4, nn5, nn6, Nat.reduceBEq, Nat.reduceAdd, nn7, nn8]
 refine aw_seq (aw_seq (aw_region (mvr J rfl (sq_ev rfl (ev_fieldAddr fo81_1 J) ?_))))
 refine sq_ev rfl (ev_load J rfl ty45 rfl) ?_
 refine sq_ev rfl (ev_len_map sl45 J) ?_
 refine sq_ev rfl (ev_lss J J) ?_
 refine sq_nil ?_
 refine aw_cond J (fun c_24 => ?_) (fun c_24 => ?_)
 ·
  have c_24' := c_24
  try simp only [qq] at c_24'
  have hkL : k < a.l.length := by omega
  refine aw_skip (aw_seq (aw_block (aw_seq ?_)))
  refine aw_draw 14 mo (by kernel_rfl) ?_
  refine dr_ev rfl (ev_fieldAddr fo81_1 J) ?_
  refine dr_ev rfl (ev_load J rfl ty45 rfl) ?_
  refine dr_ev rfl (ev_mv (v := .raw _) J) ?_
  refine dr_ev rfl (ev_index_map sl45 J J rfl (by omega)) ?_
  refine dr_ev rfl (ev_fieldAddr_i fo26_0 J) ?_
  refine dr_ev rfl (ev_load_i J ty24 rfl) ?_
  refine dr_ev rfl (ev_fieldAddr fo81_1 J) ?_
  refine dr_ev rfl (ev_load J rfl ty45 rfl) ?_
  refine dr_ev rfl (ev_mv (v := .raw _) J) ?_
  refine dr_ev rfl (ev_index_map sl45 J J rfl (by omega)) ?_
  refine dr_ev rfl (ev_fieldAddr_i fo26_0 J) ?_
  refine dr_ev rfl (ev_load_i J ty24 rfl) ?_
  refine dr_ev rfl (ev_call en77 J (samec_pure _ _ (ha.2 _ (List.getElem_mem hkL)) (hb.2 _ (List.getElem_mem (by omega)))) ⟨J, J, trivial⟩) ?_
  refine dr_ev rfl (ev_not J) ?_
  refine dr_end (sq_nil ?_)
  refine aw_cond J (fun c_40 => ?_) (fun c_40 => ?_)
  ·
   have c_40' := c_40
   try simp only [qq] at c_40'
   refine aw_seq (aw_region (asr J rfl (sq_nil (aw_ret ?_))))
   exact retQ_pure (v := .raw _) rfl rfl (Less.eq (by rw [decide_eq_false (fun h => by subst h; simp at c_40')]))
  have c_40' := c_40
  try simp only [qq] at c_40'
  refine aw_skip (aw_region (mvr J rfl (sq_ev rfl (ev_add J J (wr (by omega) (by omega))) ?_)))
  refine asr J rfl (sq_nil ?_)
  exact ⟨⟨k + 1, by omega, fun i h1 h2 h => (by by_cases e : i = k; (subst e; simpa using c_40'); exact hok i h1 h2 (by omega))⟩, by simp only; omega, Sub.slots ⟨J, J, J, trivial⟩⟩
 have c_24' := c_24
 try simp only [qq] at c_24'
 have heq : a = b := bk_eq.2 ⟨hst, same_ext hlen fun i h1 h2 => hok i h1 h2 (by omega)⟩
 refine aw_exit (aw_seq (aw_region (asr J rfl (sq_nil (aw_ret ?_)))))
 exact retQ_pure (v := .raw _) rfl rfl (Less.eq (by rw [decide_eq_true heq]))
end Go.Proofs.YtmbknoaneglilaaGreatDoor
namespace Go.Proofs.YtmbknoaneglilaaGreatDoor
open Go Go.Ab Ni Ol
theorem en54 : Ent Tryz.prog 54 := Ent.of Tryz.func54 (by kernel_rfl) rfl
theorem en55 : Ent Tryz.prog 55 := Ent.of Tryz.func55 (by kernel_rfl) rfl
section
variable [Tabs]
section seq
variable {c : Ctx} {ops : Array Oper} {Q : AExit → St → Prop} {rest : List Oper} {s : St} {i : Nat}
variable {d : Option Tmp} {t : TypeId} {p : String} {af : Array Edge}
end seq
section ev
variable {P : Program} {r : Option Nat} {H : List AObj} {ρ : Operand → AV}
variable {d : Option Tmp} {t : TypeId} {p : String} {af : Array Edge} {g : Option (Nat × Bool)}
end ev
end
theorem ok_bk {b : Bk} (h : bkOK b = true) : b.l.length ≤ 1000000 ∧ ∀ f ∈ b.l, f.length ≤ 1000000 := by
  unfold bkOK at h
  rw [Bool.and_eq_true] at h
  obtain ⟨h1, h2⟩ := coOK_small h.2
  exact ⟨by omega, fun f hf => by have := (h2 f hf).1; omega⟩
theorem ok_nn {b : Bk} (h : bkOK b = true) : ∀ n ∈ stL b.s, 0 ≤ n := fun n hn => ((ok_td h).head n hn).1
theorem readE_text {b : Bk} (h : bkOK b = true) : readE (textB b) = (b, 0) := readE_ok (by have := text_len h; omega) (parse_text (ok_td h)) h
set_option maxRecDepth 20000 in
theorem prints_long (b : Bk) (k34 : APure Tryz.prog 34 [figs b.l] (B false)) : APure Tryz.prog 10 [bkA b] (B true) := by
  refine apure_of (rs := [.tmp 2]) Tryz.func10 rfl rfl (Nat.le_of_ble_eq_true rfl) (by simp [AV.pureL, AV.pureB, AV.pureE, pureE_map]) (by first | rfl | (simp [AV.pureL, AV.pureB, AV.pureE, pureE_map])) fun e0 he0 => ?_
  refine aw_seq (aw_region ?_)
  refine sq_box rfl J rfl (asr J rfl (sq_nil (aw_seq (aw_seq (aw_region (sq_ev rfl (ev_fieldAddr fo81_1 J) ?_))))))
  refine sq_ev rfl (ev_load J rfl ty45 rfl) ?_
  refine sq_ev rfl (ev_call en34 J (k34) ⟨J, trivial⟩) ?_
  refine sq_ev rfl (ev_not J) ?_
  refine sq_nil ?_
  refine aw_cond J (fun c_10 => ?_) (fun c_10 => ?_)
  · skip
    have c_10' := c_10
    try simp only [qq] at c_10'
    refine aw_seq (aw_region (sq_ev rfl (ev_call en27 J (known_pure) trivial) ?_))
    refine asr J rfl (sq_nil (aw_ret ?_))
    exact retQ_pure (v := .raw _) rfl rfl J
  · skip
    have c_10' := c_10
    try simp only [qq] at c_10'
    first | exact absurd c_10 (by decide) | (exfalso; simp at c_10; done) | (exfalso; simp at c_10; omega) | (exfalso; simp_all; done) | (exfalso; simp_all; omega)
set_option maxRecDepth 20000 in
theorem prints_bad (b : Bk) (k34 : APure Tryz.prog 34 [figs b.l] (B true)) (k54 : APure Tryz.prog 54 [bkA b] (.tup [S [], I 2])) (k55 : APure Tryz.prog 55 [bkA b] (B false)) : APure Tryz.prog 10 [bkA b] (B true) := by
  refine apure_of (rs := [.tmp 2]) Tryz.func10 rfl rfl (Nat.le_of_ble_eq_true rfl) (by simp [AV.pureL, AV.pureB, AV.pureE, pureE_map]) (by first | rfl | (simp [AV.pureL, AV.pureB, AV.pureE, pureE_map])) fun e0 he0 => ?_
  refine aw_seq (aw_region ?_)
  refine sq_box rfl J rfl (asr J rfl (sq_nil (aw_seq (aw_seq (aw_region (sq_ev rfl (ev_fieldAddr fo81_1 J) ?_))))))
  refine sq_ev rfl (ev_load J rfl ty45 rfl) ?_
  refine sq_ev rfl (ev_call en34 J (k34) ⟨J, trivial⟩) ?_
  refine sq_ev rfl (ev_not J) ?_
  refine sq_nil ?_
  refine aw_cond J (fun c_10 => ?_) (fun c_10 => ?_)
  · skip
    have c_10' := c_10
    try simp only [qq] at c_10'
    first | exact absurd c_10 (by decide) | (exfalso; simp at c_10; done) | (exfalso; simp at c_10; omega) | (exfalso; simp_all; done) | (exfalso; simp_all; omega)
  · skip
    have c_10' := c_10
    try simp only [qq] at c_10'
    refine aw_skip (aw_seq (aw_region (sq_ev rfl (ev_load_agg J rfl ty81 rfl) ?_)))
    refine sq_ev rfl (ev_call en54 J (k54) ⟨J, trivial⟩) ?_
    refine sq_ev rfl (ev_mv (v := .tup _) J) ?_
    refine xtr rfl J rfl (xtr rfl J rfl ?_)
    refine asr J rfl (asr J rfl (sq_nil (aw_seq (aw_seq (aw_region (sq_ev rfl (ev_load_agg J rfl ty81 rfl) ?_))))))
    refine sq_ev rfl (ev_call en55 J (k55) ⟨J, trivial⟩) ?_
    refine sq_ev rfl (ev_not J) ?_
    refine sq_nil ?_
    refine aw_cond J (fun c_19 => ?_) (fun c_19 => ?_)
    · skip
      have c_19' := c_19
      try simp only [qq] at c_19'
      refine aw_seq (aw_region (mvr J rfl (sq_ev rfl (ev_eql J J) ?_)))
      refine mvr J rfl (ymr rfl rfl J rfl J (sq_yes rfl rfl J rfl (ev_seqS J J) ?_))
      refine sq_ev rfl (ev_pickT (v := .raw _) J J) ?_
      refine mvr J rfl (sq_yes rfl rfl J rfl (ev_call en27 J (known_pure) trivial) ?_)
      refine sq_ev rfl (ev_pickT (v := .raw _) J J) ?_
      refine asr J rfl (sq_nil (aw_ret ?_))
      exact retQ_pure (v := .raw _) rfl rfl J
    · skip
      have c_19' := c_19
      try simp only [qq] at c_19'
      first | exact absurd c_19 (by decide) | (exfalso; simp at c_19; done) | (exfalso; simp at c_19; omega) | (exfalso; simp_all; done) | (exfalso; simp_all; omega)
set_option maxRecDepth 20000 in
theorem prints_yes (b : Bk) (k34 : APure Tryz.prog 34 [figs b.l] (B true)) (k54 : APure Tryz.prog 54 [bkA b] (.tup [S (textB b), I 0])) (k55 : APure Tryz.prog 55 [bkA b] (B true)) (k56 : APure Tryz.prog 56 [S (textB b)] (.tup [bkA b, I 0])) (k57 : APure Tryz.prog 57 [bkA b] (S (textB b))) (k58 : APure Tryz.prog 58 [bkA b, bkA b] (B true)) : APure Tryz.prog 10 [bkA b] (B true) := by
  refine apure_of (rs := [.tmp 2]) Tryz.func10 rfl rfl (Nat.le_of_ble_eq_true rfl) (by simp [AV.pureL, AV.pureB, AV.pureE, pureE_map]) (by first | rfl | (simp [AV.pureL, AV.pureB, AV.pureE, pureE_map])) fun e0 he0 => ?_
  refine aw_seq (aw_region ?_)
  refine sq_box rfl J rfl (asr J rfl (sq_nil (aw_seq (aw_seq (aw_region (sq_ev rfl (ev_fieldAddr fo81_1 J) ?_))))))
  refine sq_ev rfl (ev_load J rfl ty45 rfl) ?_
  refine sq_ev rfl (ev_call en34 J (k34) ⟨J, trivial⟩) ?_
  refine sq_ev rfl (ev_not J) ?_
  refine sq_nil ?_
  refine aw_cond J (fun c_10 => ?_) (fun c_10 => ?_)
  · skip
    have c_10' := c_10
    try simp only [qq] at c_10'
    first | exact absurd c_10 (by decide) | (exfalso; simp at c_10; done) | (exfalso; simp at c_10; omega) | (exfalso; simp_all; done) | (exfalso; simp_all; omega)
  · skip
    have c_10' := c_10
    try simp only [qq] at c_10'
    refine aw_skip (aw_seq (aw_region (sq_ev rfl (ev_load_agg J rfl ty81 rfl) ?_)))
    refine sq_ev rfl (ev_call en54 J (k54) ⟨J, trivial⟩) ?_
    refine sq_ev rfl (ev_mv (v := .tup _) J) ?_
    refine xtr rfl J rfl (xtr rfl J rfl ?_)
    refine asr J rfl (asr J rfl (sq_nil (aw_seq (aw_seq (aw_region (sq_ev rfl (ev_load_agg J rfl ty81 rfl) ?_))))))
    refine sq_ev rfl (ev_call en55 J (k55) ⟨J, trivial⟩) ?_
    refine sq_ev rfl (ev_not J) ?_
    refine sq_nil ?_
    refine aw_cond J (fun c_19 => ?_) (fun c_19 => ?_)
    · skip
      have c_19' := c_19
      try simp only [qq] at c_19'
      first | exact absurd c_19 (by decide) | (exfalso; simp at c_19; done) | (exfalso; simp at c_19; omega) | (exfalso; simp_all; done) | (exfalso; simp_all; omega)
    · skip
      have c_19' := c_19
      try simp only [qq] at c_19'
      refine aw_skip (aw_seq (aw_region (mvr J rfl (sq_ev rfl (ev_call en56 J (k56) ⟨J, trivial⟩) ?_))))
      refine sq_ev rfl (ev_mv (v := .tup _) J) ?_
      refine xtr rfl J rfl (xtr rfl J rfl ?_)
      refine sq_alloc rfl z81 ?_
      refine sq_store rfl J J rfl rfl ty81 rfl rfl ?_
      refine asr J rfl (sq_nil (aw_seq (aw_region (mvr J rfl (sq_ev rfl (ev_eql J J) ?_)))))
      refine mvr J rfl (ymr rfl rfl J rfl J (sq_yes rfl rfl J rfl (ev_load_agg J rfl ty81 rfl) ?_))
      refine sq_yes rfl rfl J rfl (ev_call en57 J (k57) ⟨J, trivial⟩) ?_
      refine sq_yes rfl rfl J rfl (ev_seqS J J) ?_
      refine sq_ev rfl (ev_pickT (v := .raw _) J J) ?_
      refine mvr J rfl ?_
      refine sq_split 42 J (fun g7_8 => ?_) (fun g7_8 => ?_)
      · skip
        have g7_8' := g7_8
        try simp only [qq] at g7_8'
        refine sq_yes rfl rfl (less_b g7_8) rfl (ev_mv (v := .raw _) J) ?_
        refine sq_yes rfl rfl (less_b g7_8) rfl (ev_eql J J) ?_
        refine sq_ev rfl (ev_pickT (v := .raw _) (less_b g7_8) J) ?_
        refine mvr J rfl (sq_yes rfl rfl J rfl (ev_load_agg J rfl ty81 rfl) ?_)
        refine sq_yes rfl rfl J rfl (ev_load_agg J rfl ty81 rfl) ?_
        refine sq_yes rfl rfl J rfl (ev_call en58 J (k58) ⟨J, J, trivial⟩) ?_
        refine sq_ev rfl (ev_pickT (v := .raw _) J J) ?_
        refine mvr J rfl (sq_yes rfl rfl J rfl (ev_call en27 J (known_pure) trivial) ?_)
        refine sq_ev rfl (ev_pickT (v := .raw _) J J) ?_
        refine asr J rfl (sq_nil (aw_ret ?_))
        exact retQ_pure (v := .raw _) rfl rfl J
      · skip
        have g7_8' := g7_8
        try simp only [qq] at g7_8'
        first | exact absurd g7_8 (by decide) | (exfalso; simp at g7_8; done) | (exfalso; simp at g7_8; omega) | (exfalso; simp_all; done) | (exfalso; simp_all; omega)
/-- **OutlinePrints.** -/
theorem law10 (b : Bk) : APure Tryz.prog 10 [bkA b] (B true) := by
  cases hf : fewB b.l with
  | false => exact prints_long b (by have := few_pure b.l; rwa [hf] at this)
  | true =>
    have k34 : APure Tryz.prog 34 [figs b.l] (B true) := by have := few_pure b.l; rwa [hf] at this
    have hsz := fewB_sz hf
    have k54 := print_pure b (by omega)
    have k55 := rbook_pure b
    cases hk : bkOK b with
    | false => rw [hk] at k54 k55; exact prints_bad b k34 k54 k55
    | true =>
      rw [hk] at k54 k55
      have k56 := read_pure (textB b)
      unfold readAV at k56
      rw [readE_text hk] at k56
      have k58 := rbooks_pure b b (ok_bk hk) (ok_bk hk)
      rw [decide_eq_true rfl] at k58
      exact prints_yes b k34 k54 k55 k56 (rprint_pure b (smb_ok hk) (ok_nn hk)) k58
end Go.Proofs.YtmbknoaneglilaaGreatDoor
