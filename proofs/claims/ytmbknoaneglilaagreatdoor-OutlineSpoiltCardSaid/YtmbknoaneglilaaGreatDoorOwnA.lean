/-
  A part of the proof: conditions: none beyond each theorem's own.
-/
import Derived.Test.YtmbknoaneglilaaGreatDoorSpecA
import Derived.Test.YtmbknoaneglilaaGreatDoorLogicD
import Derived.KernelRfl
import Derived.Lib.LaidTab
import Derived.Lib.ItoaNum
import Derived.Test.YtmbknoaneglilaaGreatDoorProg
import Derived.Test.YtmbknoaneglilaaGreatDoorWalkF
import Derived.Test.YtmbknoaneglilaaGreatDoorWalkG
import Derived.ChangeKeysEq
import Derived.Laws.IdiomStrings
import Derived.Laws.IdiomCopy
import Derived.Test.YtmbknoaneglilaaGreatDoorLogicA
import Derived.Test.YtmbknoaneglilaaGreatDoorLogicB
import Derived.Test.YtmbknoaneglilaaGreatDoorLogicC
import Derived.Test.YtmbknoaneglilaaGreatDoorShelf
import Derived.Test.YtmbknoaneglilaaGreatDoorWalkA
import Derived.Test.YtmbknoaneglilaaGreatDoorWalkB
import Derived.Test.YtmbknoaneglilaaGreatDoorWalkC
import Derived.Test.YtmbknoaneglilaaGreatDoorWalkD
import Derived.Test.YtmbknoaneglilaaGreatDoorWalkE
import Derived.Test.YtmbknoaneglilaaGreatDoorRow
set_option linter.all false
set_option maxHeartbeats 8000000
namespace Ol
open Ni (inn)
theorem mists_iff {a b : List Th} : mists a b = true ↔ ∃ t ∈ a, ∃ u ∈ b, agree t.sh u.sh = true := by
  unfold mists mist; simp only [List.any_eq_true]
theorem pairI_inv {L : List (List Th)} {i : Nat} (h : pairI L i = none) : ∀ k, i < k → k < L.length → mists (L.getD i []) (L.getD k []) = false := by
  intro k hik hk
  unfold pairI at h
  cases hf : (List.range L.length).find? (fun k => decide (i < k) && mists (L.getD i []) (L.getD k [])) with
  | some q => rw [hf] at h; cases h
  | none =>
    rw [List.find?_eq_none] at hf
    have := hf k (List.mem_range.2 hk)
    simpa [hik] using this
theorem pair_none_inv {L : List (List Th)} (h : pairOf L = none) : ∀ i k, i < k → k < L.length → mists (L.getD i []) (L.getD k []) = false := by
  intro i k hik hk
  unfold pairOf at h
  rw [List.findSome?_eq_none_iff] at h
  exact pairI_inv (h i (List.mem_range.2 (by omega))) k hik hk
theorem findSome_inv {α : Type} {f : Nat → Option α} : ∀ {n : Nat} {a : α}, (List.range n).findSome? f = some a → ∃ i, i < n ∧ f i = some a ∧ ∀ j, j < i → f j = none
  | 0, a, h => by simp at h
  | n + 1, a, h => by
    rw [List.range_succ, List.findSome?_append] at h
    cases hp : (List.range n).findSome? f with
    | some b =>
      rw [hp] at h; simp only [Option.some_or, Option.some.injEq] at h; subst h
      obtain ⟨i, h1, h2, h3⟩ := findSome_inv hp
      exact ⟨i, by omega, h2, h3⟩
    | none =>
      rw [hp] at h
      rw [List.findSome?_eq_none_iff] at hp
      refine ⟨n, by omega, by simpa using h, fun j hj => hp j (List.mem_range.2 hj)⟩
theorem pair_some_inv {L : List (List Th)} {a b : Nat} (h : pairOf L = some (a, b)) : (a < b ∧ b < L.length) ∧ ∀ i k, i < k → k < L.length → mists (L.getD i []) (L.getD k []) = true → a < i ∨ (a = i ∧ b ≤ k) := by
  obtain ⟨i0, hi0, hp, hno⟩ := findSome_inv h
  have hp' := hp
  unfold pairI at hp'
  cases hf : (List.range L.length).find? (fun k => decide (i0 < k) && mists (L.getD i0 []) (L.getD k [])) with
  | none => rw [hf] at hp'; cases hp'
  | some q =>
    rw [hf] at hp'
    simp only [Option.map_some, Option.some.injEq, Prod.mk.injEq] at hp'
    obtain ⟨rfl, rfl⟩ := hp'
    rw [List.find?_range_eq_some] at hf
    obtain ⟨h1, h2, h3⟩ := hf
    simp only [Bool.and_eq_true, decide_eq_true_eq] at h1
    refine ⟨⟨h1.1, List.mem_range.1 h2⟩, fun i k hik hk hm => ?_⟩
    rcases Nat.lt_trichotomy i0 i with h | h | h
    · exact .inl h
    · subst h
      refine .inr ⟨rfl, ?_⟩
      rcases Nat.lt_or_ge k q with hq | hq
      · have := h3 k hq
        simp only [hik, decide_true, Bool.true_and, hm, Bool.not_true] at this
        cases this
      · exact hq
    · have := pairI_inv (hno i h) k hik hk
      rw [hm] at this; cases this
end Ol
namespace Ol
open Ni (inn)
theorem mem_rdgs {x : Sn} {t : Th} : t ∈ rdgs x ↔ t.rd.fig < x.l.length ∧ t ∈ rdN x t.rd.fig := by
  unfold rdgs
  rw [List.mem_flatMap]
  constructor
  · rintro ⟨i, hi, h⟩
    have := rdN_fig h
    subst this
    exact ⟨List.mem_range.1 hi, h⟩
  · rintro ⟨h1, h2⟩; exact ⟨_, List.mem_range.2 h1, h2⟩
theorem good_mists {x : Sn} {t u : Th} (ht : t ∈ rdgs x) (hu : u ∈ rdgs x) (h : goodP t u) : mists ((byF x).getD t.rd.fig []) ((byF x).getD u.rd.fig []) = true := by
  obtain ⟨a1, a2⟩ := mem_rdgs.1 ht
  obtain ⟨b1, b2⟩ := mem_rdgs.1 hu
  have g : ∀ {i : Nat}, i < x.l.length → (byF x).getD i [] = rdN x i := fun {i} hi => by
    unfold byF; rw [getD_get (by simpa using hi)]; simp
  rw [g a1, g b1]
  exact mists_iff.2 ⟨t, a2, u, b2, h.2⟩
theorem MInv.done {x : Sn} {M : Option (Nat × Nat)} (h : MInv (rdgs x) M (rdgs x).length 0) : misOf x = M := by
  have g : ∀ {i : Nat}, i < x.l.length → (byF x).getD i [] = rdN x i := fun {i} hi => by
    unfold byF; rw [getD_get (by simpa using hi)]; simp
  have hl : (byF x).length = x.l.length := by simp [byF]
  have real : ∀ {a b : Nat}, a < b → b < x.l.length → mists ((byF x).getD a []) ((byF x).getD b []) = true → leM M a b := fun {a b} hab hb hm => by
    rw [g (by omega), g hb] at hm
    obtain ⟨t, ht, u, hu, hag⟩ := mists_iff.1 hm
    have ft := rdN_fig ht
    have fu := rdN_fig hu
    have mt : t ∈ rdgs x := mem_rdgs.2 ⟨by omega, by rw [ft]; exact ht⟩
    have mu : u ∈ rdgs x := mem_rdgs.2 ⟨by omega, by rw [fu]; exact hu⟩
    obtain ⟨p, hp, rfl⟩ := List.getElem_of_mem mt
    obtain ⟨q, hq, rfl⟩ := List.getElem_of_mem mu
    have := h.least p q hp hq (.inl hp) ⟨by omega, hag⟩
    rw [ft, fu] at this; exact this
  cases hm : misOf x with
  | none =>
    cases M with
    | none => rfl
    | some m =>
      obtain ⟨t, ht, u, hu, hg, e1, e2⟩ := h.real m rfl
      have h1 := good_mists ht hu hg
      have h2 := pair_none_inv hm _ _ hg.1 (by rw [hl]; exact (mem_rdgs.1 hu).1)
      rw [h1] at h2; cases h2
  | some m' =>
    obtain ⟨a, b⟩ := m'
    obtain ⟨⟨hab, hbl⟩, hmin⟩ := pair_some_inv hm
    rw [hl] at hbl hmin
    obtain ⟨i, hi, e, _⟩ := findSome_inv (show (List.range (byF x).length).findSome? (pairI (byF x)) = some (a, b) from hm)
    have hmm : mists ((byF x).getD a []) ((byF x).getD b []) = true := by
      unfold pairI at e
      cases hf : (List.range (byF x).length).find? (fun k => decide (i < k) && mists ((byF x).getD i []) ((byF x).getD k [])) with
      | none => rw [hf] at e; cases e
      | some k =>
        rw [hf] at e
        simp only [Option.map_some, Option.some.injEq, Prod.mk.injEq] at e
        have h1 := List.find?_some hf
        simp only [Bool.and_eq_true] at h1
        rw [← e.1, ← e.2]; exact h1.2
    have hle := real hab hbl hmm
    cases M with
    | none => unfold leM at hle; simp only [mA] at hle; omega
    | some m =>
      obtain ⟨t, ht, u, hu, hg, e1, e2⟩ := h.real m rfl
      have h1 := good_mists ht hu hg
      have h2 := hmin _ _ hg.1 (mem_rdgs.1 hu).1 h1
      unfold leM at hle
      simp only [mA, mB] at hle
      obtain ⟨m1, m2⟩ := m
      simp only at *
      congr 1
      refine Prod.ext ?_ ?_ <;> simp only <;> omega
end Ol
namespace Go.Proofs.YtmbknoaneglilaaGreatDoor
open Go Go.Ab Ni Ol
theorem en89 : Ent Tryz.prog 89 := Ent.of Tryz.func89 (by kernel_rfl) rfl
theorem rin_pure (n lo hi : Int) : APure Tryz.prog 89 [I n, I lo, I hi] (B (inn n lo hi)) := by
 refine apure_of (rs := [.tmp 6]) Tryz.func89 rfl rfl (Nat.le_of_ble_eq_true rfl) (by simp [AV.pureL, AV.pureB, AV.pureE, pureE_map]) (by first | rfl | (simp [AV.pureL, AV.pureB, AV.pureE, pureE_map])) fun e0 he0 => ?_
 refine aw_seq (aw_region ?_)
 refine asr J rfl (sq_nil (aw_seq (aw_region (mvr J rfl (mvr J rfl (sq_ev rfl (ev_geq J J) ?_))))))
 refine mvr J rfl ?_
 refine sq_split 10 J (fun g1 => ?_) (fun g1 => ?_)
 ·
  have g1' := g1
  try simp only [qq] at g1'
  refine sq_yes rfl rfl (less_b g1) rfl (ev_mv (v := .raw _) J) ?_
  refine sq_yes rfl rfl (less_b g1) rfl (ev_mv (v := .raw _) J) ?_
  refine sq_yes rfl rfl (less_b g1) rfl (ev_leq J J) ?_
  refine sq_ev rfl (ev_pickT (v := .raw _) (less_b g1) J) ?_
  refine asr J rfl (sq_nil (aw_ret ?_))
  exact retQ_pure (v := .raw _) rfl rfl (Less.eq (by simp [inn, *]))
 have g1' := g1
 try simp only [qq] at g1'
 refine sq_no rfl rfl (less_b g1) rfl rfl ?_
 refine sq_no rfl rfl (less_b g1) rfl rfl ?_
 refine sq_no rfl rfl (less_b g1) rfl rfl ?_
 refine sq_ev rfl (ev_pickF (v := .raw _) (less_b g1) J) ?_
 refine asr J rfl (sq_nil (aw_ret ?_))
 exact retQ_pure (v := .raw _) rfl rfl (Less.eq (by simp [inn, *]))
theorem rstage_pure (s : Sg) : APure Tryz.prog 24 [stA s] (B (stOK s)) := by
 refine apure_of (rs := [.tmp 2]) Tryz.func24 rfl rfl (Nat.le_of_ble_eq_true rfl) (by simp [AV.pureL, AV.pureB, AV.pureE, pureE_map]) (by first | rfl | (simp [AV.pureL, AV.pureB, AV.pureE, pureE_map])) fun e0 he0 => ?_
 refine aw_seq (aw_region (sq_box rfl J rfl (asr J rfl (sq_nil (aw_seq (aw_region (sq_ev rfl (ev_fieldAddr fo23_0 J) ?_)))))))
 refine sq_ev rfl (ev_load J rfl ty3 rfl) ?_
 refine sq_ev rfl (ev_call en89 J (rin_pure _ _ _) ⟨J, J, J, trivial⟩) ?_
 refine mvr J rfl ?_
 refine sq_split 6 J (fun g1 => ?_) (fun g1 => ?_)
 ·
  have g1' := g1
  try simp only [qq] at g1'
  refine sq_yes rfl rfl (less_b g1) rfl (ev_fieldAddr fo23_1 J) ?_
  refine sq_yes rfl rfl (less_b g1) rfl (ev_load J rfl ty3 rfl) ?_
  refine sq_yes rfl rfl (less_b g1) rfl (ev_call en89 J (rin_pure _ _ _) ⟨J, J, J, trivial⟩) ?_
  refine sq_ev rfl (ev_pickT (v := .raw _) (less_b g1) J) ?_
  refine mvr J rfl ?_
  refine sq_split 11 J (fun g2 => ?_) (fun g2 => ?_)
  ·
   have g2' := g2
   try simp only [qq] at g2'
   refine sq_yes rfl rfl (less_b g2) rfl (ev_fieldAddr fo23_2 J) ?_
   refine sq_yes rfl rfl (less_b g2) rfl (ev_load J rfl ty3 rfl) ?_
   refine sq_yes rfl rfl (less_b g2) rfl (ev_call en89 J (rin_pure _ _ _) ⟨J, J, J, trivial⟩) ?_
   refine sq_ev rfl (ev_pickT (v := .raw _) (less_b g2) J) ?_
   refine mvr J rfl ?_
   refine sq_split 16 J (fun g3 => ?_) (fun g3 => ?_)
   ·
    have g3' := g3
    try simp only [qq] at g3'
    refine sq_yes rfl rfl (less_b g3) rfl (ev_fieldAddr fo23_3 J) ?_
    refine sq_yes rfl rfl (less_b g3) rfl (ev_load J rfl ty3 rfl) ?_
    refine sq_yes rfl rfl (less_b g3) rfl (ev_call en89 J (rin_pure _ _ _) ⟨J, J, J, trivial⟩) ?_
    refine sq_ev rfl (ev_pickT (v := .raw _) (less_b g3) J) ?_
    refine mvr J rfl ?_
    refine sq_split 21 J (fun g4 => ?_) (fun g4 => ?_)
    ·
     have g4' := g4
     try simp only [qq] at g4'
     refine sq_yes rfl rfl (less_b g4) rfl (ev_fieldAddr fo23_4 J) ?_
     refine sq_yes rfl rfl (less_b g4) rfl (ev_load J rfl ty3 rfl) ?_
     refine sq_yes rfl rfl (less_b g4) rfl (ev_fieldAddr fo23_0 J) ?_
     refine sq_yes rfl rfl (less_b g4) rfl (ev_load J rfl ty3 rfl) ?_
     refine sq_yes rfl rfl (less_b g4) rfl (ev_call en89 J (rin_pure _ _ _) ⟨J, J, J, trivial⟩) ?_
     refine sq_ev rfl (ev_pickT (v := .raw _) (less_b g4) J) ?_
     refine mvr J rfl ?_
     refine sq_split 28 J (fun g5 => ?_) (fun g5 => ?_)
     ·
      have g5' := g5
      try simp only [qq] at g5'
      refine sq_yes rfl rfl (less_b g5) rfl (ev_fieldAddr fo23_5 J) ?_
      refine sq_yes rfl rfl (less_b g5) rfl (ev_load J rfl ty3 rfl) ?_
      refine sq_yes rfl rfl (less_b g5) rfl (ev_fieldAddr fo23_1 J) ?_
      refine sq_yes rfl rfl (less_b g5) rfl (ev_load J rfl ty3 rfl) ?_
      refine sq_yes rfl rfl (less_b g5) rfl (ev_call en89 J (rin_pure _ _ _) ⟨J, J, J, trivial⟩) ?_
      refine sq_ev rfl (ev_pickT (v := .raw _) (less_b g5) J) ?_
      refine asr J rfl (sq_nil (aw_ret ?_))
      exact retQ_pure (v := .raw _) rfl rfl (Less.eq (by simp [stOK, *]))
     have g5' := g5
     try simp only [qq] at g5'
     refine sq_no rfl rfl (less_b g5) rfl rfl ?_
     refine sq_no rfl rfl (less_b g5) rfl rfl ?_
     refine sq_no rfl rfl (less_b g5) rfl rfl ?_
     refine sq_no rfl rfl (less_b g5) rfl rfl ?_
     refine sq_no rfl rfl (less_b g5) rfl rfl ?_
     refine sq_ev rfl (ev_pickF (v := .raw _) (less_b g5) J) ?_
     refine asr J rfl (sq_nil (aw_ret ?_))
     exact retQ_pure (v := .raw _) rfl rfl (Less.eq (by simp [stOK, *]))
    have g4' := g4
    try simp only [qq] at g4'
    refine sq_no rfl rfl (less_b g4) rfl rfl ?_
    refine sq_no rfl rfl (less_b g4) rfl rfl ?_
    refine sq_no rfl rfl (less_b g4) rfl rfl ?_
    refine sq_no rfl rfl (less_b g4) rfl rfl ?_
    refine sq_no rfl rfl (less_b g4) rfl rfl ?_
    refine sq_ev rfl (ev_pickF (v := .raw _) (less_b g4) J) ?_
    refine mvr J rfl (sq_no rfl rfl J rfl rfl (sq_no rfl rfl J rfl rfl ?_))
    refine sq_no rfl rfl J rfl rfl (sq_no rfl rfl J rfl rfl (sq_no rfl rfl J rfl rfl (pf rfl J J (asr J rfl (sq_nil (aw_ret ?_))))))
    exact retQ_pure (v := .raw _) rfl rfl (Less.eq (by simp [stOK, *]))
   have g3' := g3
   try simp only [qq] at g3'
   refine sq_no rfl rfl (less_b g3) rfl rfl ?_
   refine sq_no rfl rfl (less_b g3) rfl rfl ?_
   refine sq_no rfl rfl (less_b g3) rfl rfl ?_
   refine sq_ev rfl (ev_pickF (v := .raw _) (less_b g3) J) ?_
   refine mvr J rfl (sq_no rfl rfl J rfl rfl (sq_no rfl rfl J rfl rfl ?_))
   refine sq_no rfl rfl J rfl rfl (sq_no rfl rfl J rfl rfl (sq_no rfl rfl J rfl rfl (pf rfl J J (mvr J rfl (sq_no rfl rfl J rfl rfl (sq_no rfl rfl J rfl rfl ?_))))))
   refine sq_no rfl rfl J rfl rfl (sq_no rfl rfl J rfl rfl (sq_no rfl rfl J rfl rfl (pf rfl J J (asr J rfl (sq_nil (aw_ret ?_))))))
   exact retQ_pure (v := .raw _) rfl rfl (Less.eq (by simp [stOK, *]))
  have g2' := g2
  try simp only [qq] at g2'
  refine sq_no rfl rfl (less_b g2) rfl rfl ?_
  refine sq_no rfl rfl (less_b g2) rfl rfl ?_
  refine sq_no rfl rfl (less_b g2) rfl rfl ?_
  refine sq_ev rfl (ev_pickF (v := .raw _) (less_b g2) J) ?_
  refine mvr J rfl ?_
  refine sq_no rfl rfl J rfl rfl (sq_no rfl rfl J rfl rfl (sq_no rfl rfl J rfl rfl (pf rfl J J (mvr J rfl (sq_no rfl rfl J rfl rfl (sq_no rfl rfl J rfl rfl ?_))))))
  refine sq_no rfl rfl J rfl rfl (sq_no rfl rfl J rfl rfl (sq_no rfl rfl J rfl rfl (pf rfl J J (mvr J rfl (sq_no rfl rfl J rfl rfl (sq_no rfl rfl J rfl rfl ?_))))))
  refine sq_no rfl rfl J rfl rfl (sq_no rfl rfl J rfl rfl (sq_no rfl rfl J rfl rfl (pf rfl J J (asr J rfl (sq_nil (aw_ret ?_))))))
  exact retQ_pure (v := .raw _) rfl rfl (Less.eq (by simp [stOK, *]))
 have g1' := g1
 try simp only [qq] at g1'
 refine sq_no rfl rfl (less_b g1) rfl rfl ?_
 refine sq_no rfl rfl (less_b g1) rfl rfl ?_
 refine sq_no rfl rfl (less_b g1) rfl rfl ?_
 refine sq_ev rfl (ev_pickF (v := .raw _) (less_b g1) J) ?_
 refine mvr J rfl (sq_no rfl rfl J rfl rfl (sq_no rfl rfl J rfl rfl (sq_no rfl rfl J rfl rfl (pf rfl J J (mvr J rfl ?_)))))
 refine sq_no rfl rfl J rfl rfl (sq_no rfl rfl J rfl rfl (sq_no rfl rfl J rfl rfl (pf rfl J J (mvr J rfl (sq_no rfl rfl J rfl rfl (sq_no rfl rfl J rfl rfl ?_))))))
 refine sq_no rfl rfl J rfl rfl (sq_no rfl rfl J rfl rfl (sq_no rfl rfl J rfl rfl (pf rfl J J (mvr J rfl (sq_no rfl rfl J rfl rfl (sq_no rfl rfl J rfl rfl ?_))))))
 refine sq_no rfl rfl J rfl rfl (sq_no rfl rfl J rfl rfl (sq_no rfl rfl J rfl rfl (pf rfl J J (asr J rfl (sq_nil (aw_ret ?_))))))
 exact retQ_pure (v := .raw _) rfl rfl (Less.eq (by simp [stOK, *]))
end Go.Proofs.YtmbknoaneglilaaGreatDoor
namespace Go.Proofs.YtmbknoaneglilaaGreatDoor
open Go Go.Ab Ni Ol
theorem ch_ok {c : UInt8} (h : (c.toNat : Int) = 35 ∨ (c.toNat : Int) = 46) : chOK c = true := by
  unfold chOK; simp only [decide_eq_true_eq]
  exact h.imp (fun h => UInt8.toNat_inj.1 (by show c.toNat = 35; omega)) (fun h => UInt8.toNat_inj.1 (by show c.toNat = 46; omega))
theorem ch_no {c : UInt8} (h : (c.toNat : Int) ≠ 35) (k : (c.toNat : Int) ≠ 46) : chOK c = false := by
  rw [Bool.eq_false_iff]; intro ho; unfold chOK at ho; simp only [decide_eq_true_eq] at ho
  rcases ho with e | e <;> (subst e; first | exact h rfl | exact k rfl)
theorem rfigure_pure (f : Fg) : APure Tryz.prog 25 [fgA f] (B (fgOK f)) := by
  refine apure_of (rs := [.tmp 2]) Tryz.func25 rfl rfl (Nat.le_of_ble_eq_true rfl) (by simp [AV.pureL, AV.pureB, AV.pureE, pureE_map]) (by first | rfl | (simp [AV.pureL, AV.pureB, AV.pureE, pureE_map])) fun e0 he0 => ?_
  refine aw_seq (aw_region ?_)
  refine sq_box rfl J rfl (asr J rfl (sq_nil (aw_seq (aw_seq (aw_region (sq_ev rfl (ev_fieldAddr fo26_0 J) ?_))))))
  refine sq_ev rfl (ev_load J rfl ty24 rfl) ?_
  refine sq_ev rfl (ev_len_map sl24 J) ?_
  refine sq_ev rfl (ev_call en89 J (rin_pure _ _ _) ⟨J, J, J, trivial⟩) ?_
  refine sq_ev rfl (ev_not J) ?_
  refine mvr J rfl ?_
  refine sq_split 11 J (fun g1_5 => ?_) (fun g1_5 => ?_)
  · skip
    have g1_5' := g1_5
    try simp only [qq] at g1_5'
    refine sq_no rfl rfl (less_b g1_5) rfl rfl ?_
    refine sq_no rfl rfl (less_b g1_5) rfl rfl ?_
    refine sq_no rfl rfl (less_b g1_5) rfl rfl ?_
    refine sq_no rfl rfl (less_b g1_5) rfl rfl ?_
    refine sq_no rfl rfl (less_b g1_5) rfl rfl ?_
    refine sq_no rfl rfl (less_b g1_5) rfl rfl ?_
    refine sq_no rfl rfl (less_b g1_5) rfl rfl ?_
    refine sq_ev rfl (ev_pickT (v := .raw _) (less_b g1_5) J) ?_
    refine sq_nil ?_
    refine aw_true J ?_
    refine aw_seq (aw_region (asr J rfl (sq_nil (aw_ret ?_))))
    exact retQ_pure (v := .raw _) rfl rfl (Less.eq (by unfold fgOK; simp_all))
  · skip
    have g1_5' := g1_5
    try simp only [qq] at g1_5'
    have h1 : inn f.length 1 6 = true := by simpa using g1_5
    have hlen : 1 ≤ f.length ∧ f.length ≤ 6 := by simp only [inn, Bool.and_eq_true, decide_eq_true_eq] at h1; omega
    have hw0 := w0_eq (f := f) (by omega)
    refine sq_yes rfl rfl (less_b g1_5) rfl (ev_fieldAddr fo26_0 J) ?_
    refine sq_yes rfl rfl (less_b g1_5) rfl (ev_load J rfl ty24 rfl) ?_
    refine sq_yes rfl rfl (less_b g1_5) rfl (ev_index_map (k := 0) sl24 J J rfl (by omega)) ?_
    refine sq_yes rfl rfl (less_b g1_5) rfl (ev_load_i J ty9 rfl) ?_
    refine sq_yes rfl rfl (less_b g1_5) rfl (ev_lenS Tryz.underlying9 J) ?_
    refine sq_yes rfl rfl (less_b g1_5) rfl (ev_call en89 J (rin_pure _ _ _) ⟨J, J, J, trivial⟩) ?_
    refine sq_yes rfl rfl (less_b g1_5) rfl (ev_not J) ?_
    refine sq_ev rfl (ev_pickF (v := .raw _) (less_b g1_5) J) ?_
    refine sq_nil ?_
    refine aw_cond J (fun c_19 => ?_) (fun c_19 => ?_)
    · skip
      have c_19' := c_19
      try simp only [qq] at c_19'
      refine aw_seq (aw_region (asr J rfl (sq_nil (aw_ret ?_))))
      exact retQ_pure (v := .raw _) rfl rfl (Less.eq (by unfold fgOK; rw [hw0]; simp_all))
    · skip
      have c_19' := c_19
      try simp only [qq] at c_19'
      have h2 : inn (w0 f) 1 6 = true := by rw [hw0]; simpa using c_19
      refine aw_skip (aw_seq (aw_region (asr J rfl ?_)))
      refine sq_nil (aw_seq (aw_seq (aw_region (asr J rfl (sq_nil (aw_block ?_))))))
      refine aw_loopk (ι := { k : Nat // k ≤ f.length ∧ ∀ i, (h : i < f.length) → i < k → fgRow (w0 f) f[i] = true }) [1] (fun i => [(3, B ((f.take i.1).any hasH)), (4, I i.1)]) (fun H i => H) (fun i => f.length - i.1) (⟨0, Nat.zero_le _, by omega⟩) ⟨J, J, J, trivial⟩ rfl ?_
      rintro ⟨k, hk, hok⟩
      dsimp only [keepS, St.put, sget, slotsOf, nn1, nn2, nn3, nn4, nn5, nn6, Nat.reduceBEq, Nat.reduceAdd, nn7, nn8]
      refine aw_seq (aw_seq (aw_region (mvr J rfl (sq_ev rfl (ev_fieldAddr fo26_0 J) ?_))))
      refine sq_ev rfl (ev_load J rfl ty24 rfl) ?_
      refine sq_ev rfl (ev_len_map sl24 J) ?_
      refine sq_ev rfl (ev_lss J J) ?_
      refine sq_nil ?_
      refine aw_cond J (fun c_24 => ?_) (fun c_24 => ?_)
      · skip
        have c_24' := c_24
        try simp only [qq] at c_24'
        refine aw_skip (aw_seq (aw_block (aw_seq (aw_seq ?_))))
        refine aw_draw 12 mo (by kernel_rfl) ?_
        refine dr_ev rfl (ev_fieldAddr fo26_0 J) ?_
        refine dr_ev rfl (ev_load J rfl ty24 rfl) ?_
        refine dr_ev rfl (ev_mv (v := .raw _) J) ?_
        refine dr_ev rfl (ev_index_map sl24 J J rfl (by omega)) ?_
        refine dr_ev rfl (ev_load_i J ty9 rfl) ?_
        refine dr_ev rfl (ev_lenS Tryz.underlying9 J) ?_
        refine dr_ev rfl (ev_fieldAddr fo26_0 J) ?_
        refine dr_ev rfl (ev_load J rfl ty24 rfl) ?_
        refine dr_ev rfl (ev_index_map (k := 0) sl24 J J rfl (by omega)) ?_
        refine dr_ev rfl (ev_load_i J ty9 rfl) ?_
        refine dr_ev rfl (ev_lenS Tryz.underlying9 J) ?_
        refine dr_ev rfl (ev_neq J J) ?_
        refine dr_end (sq_nil ?_)
        refine aw_cond J (fun c_38 => ?_) (fun c_38 => ?_)
        · skip
          have c_38' := c_38
          try simp only [qq] at c_38'
          refine aw_seq (aw_region (asr J rfl (sq_nil (aw_ret ?_))))
          exact retQ_pure (v := .raw _) rfl rfl (Less.eq (by rw [fg_row_bad (k := k) (by omega) (fgRow_len (by rw [hw0]; omega))]))
        · skip
          have c_38' := c_38
          try simp only [qq] at c_38'
          have hlk : f[k].length ≤ 6 := by simp only [inn, Bool.and_eq_true, decide_eq_true_eq] at h2; omega
          refine aw_skip (aw_seq (aw_region (asr J rfl (sq_nil (aw_block ?_)))))
          refine aw_loopk (ι := { j : Nat // j ≤ f[k].length ∧ ∀ i, (h : i < f[k].length) → i < j → chOK f[k][i] = true }) [1, 4] (fun q => [(3, B ((f.take k).any hasH || (f[k].take q.1).any fun c => decide (c = 35))), (5, I q.1)]) (fun H q => H) (fun q => f[k].length - q.1) (⟨0, Nat.zero_le _, by omega⟩) ⟨(Less.eq (by show B ((f.take k).any hasH) = _; simp)), J, J, J, trivial⟩ rfl ?_
          rintro ⟨j, hj, hoj⟩
          dsimp only [keepS, St.put, sget, slotsOf, nn1, nn2, nn3, nn4, nn5, nn6, Nat.reduceBEq, Nat.reduceAdd, nn7, nn8]
          refine aw_seq (aw_seq (aw_region (mvr J rfl (sq_ev rfl (ev_fieldAddr fo26_0 J) ?_))))
          refine sq_ev rfl (ev_load J rfl ty24 rfl) ?_
          refine mvr J rfl (sq_ev rfl (ev_index_map sl24 J J rfl (by omega)) ?_)
          refine sq_ev rfl (ev_load_i J ty9 rfl) ?_
          refine sq_ev rfl (ev_lenS Tryz.underlying9 J) ?_
          refine sq_ev rfl (ev_lss J J) ?_
          refine sq_nil ?_
          refine aw_cond J (fun c_46 => ?_) (fun c_46 => ?_)
          · skip
            have c_46' := c_46
            try simp only [qq] at c_46'
            have hk' : j < f[k].length := by omega
            have eC := any_take (q := fun c => decide (c = 35)) (l := f[k]) (k := j) hk'
            refine aw_skip (aw_seq (aw_block (aw_seq (aw_seq (aw_region (sq_ev rfl (ev_fieldAddr fo26_0 J) ?_))))))
            refine sq_ev rfl (ev_load J rfl ty24 rfl) ?_
            refine mvr J rfl (sq_ev rfl (ev_index_map sl24 J J rfl (by omega)) ?_)
            refine sq_ev rfl (ev_load_i J ty9 rfl) ?_
            refine mvr J rfl (sq_ev rfl (ev_idxS Tryz.underlying9 J J rfl (by omega)) ?_)
            refine sq_ev rfl (ev_neq J J) ?_
            refine mvr J rfl ?_
            refine sq_split 57 J (fun g12_8 => ?_) (fun g12_8 => ?_)
            · skip
              have g12_8' := g12_8
              try simp only [qq] at g12_8'
              refine sq_yes rfl rfl (less_b g12_8) rfl (ev_fieldAddr fo26_0 J) ?_
              refine sq_yes rfl rfl (less_b g12_8) rfl (ev_load J rfl ty24 rfl) ?_
              refine sq_yes rfl rfl (less_b g12_8) rfl (ev_mv (v := .raw _) J) ?_
              refine sq_yes rfl rfl (less_b g12_8) rfl (ev_index_map sl24 J J rfl (by omega)) ?_
              refine sq_yes rfl rfl (less_b g12_8) rfl (ev_load_i J ty9 rfl) ?_
              refine sq_yes rfl rfl (less_b g12_8) rfl (ev_mv (v := .raw _) J) ?_
              refine sq_yes rfl rfl (less_b g12_8) rfl (ev_idxS Tryz.underlying9 J J rfl (by omega)) ?_
              refine sq_yes rfl rfl (less_b g12_8) rfl (ev_neq J J) ?_
              refine sq_ev rfl (ev_pickT (v := .raw _) (less_b g12_8) J) ?_
              refine sq_nil ?_
              refine aw_cond J (fun c_66 => ?_) (fun c_66 => ?_)
              · skip
                have c_66' := c_66
                try simp only [qq] at c_66'
                refine aw_seq (aw_region (asr J rfl (sq_nil (aw_ret ?_))))
                exact retQ_pure (v := .raw _) rfl rfl (Less.eq (by rw [fg_row_bad (k := k) (by omega) (fgRow_ch (j := j) hk' (ch_no g12_8' c_66'))]))
              · skip
                have c_66' := c_66
                try simp only [qq] at c_66'
                have hch : chOK f[k][j] = true := ch_ok (.inr (by simpa using c_66))
                refine aw_skip (aw_region (mvr J rfl (mvr J rfl ?_)))
                refine sq_split 68 J (fun g14_1 => ?_) (fun g14_1 => ?_)
                · skip
                  have g14_1' := g14_1
                  try simp only [qq] at g14_1'
                  have eF : B true = B ((f.take k).any hasH || (f[k].take (j + 1)).any fun c => decide (c = 35)) := by rw [eC, ← Bool.or_assoc, g14_1]; rfl
                  refine sq_no rfl rfl (less_b g14_1) rfl rfl ?_
                  refine sq_no rfl rfl (less_b g14_1) rfl rfl ?_
                  refine sq_no rfl rfl (less_b g14_1) rfl rfl ?_
                  refine sq_no rfl rfl (less_b g14_1) rfl rfl ?_
                  refine sq_no rfl rfl (less_b g14_1) rfl rfl ?_
                  refine sq_no rfl rfl (less_b g14_1) rfl rfl ?_
                  refine sq_no rfl rfl (less_b g14_1) rfl rfl ?_
                  refine sq_no rfl rfl (less_b g14_1) rfl rfl ?_
                  refine sq_ev rfl (ev_pickT (v := .raw _) (less_b g14_1) J) ?_
                  refine asr J rfl (sq_nil (aw_region (mvr J rfl (sq_ev rfl (ev_add J J (wr (by omega) (by omega))) ?_))))
                  refine asr J rfl (sq_nil ?_)
                  exact ⟨⟨j + 1, by omega, fun i h hi => (by by_cases e : i = j; (subst e; exact hch); exact hoj i h (by omega))⟩, by simp only; omega, Sub.slots ⟨(Less.eq eF), J, J, J, trivial⟩⟩
                · skip
                  have g14_1' := g14_1
                  try simp only [qq] at g14_1'
                  have eF : B (decide (((f[k][j]).toNat : Int) = 35)) = B ((f.take k).any hasH || (f[k].take (j + 1)).any fun c => decide (c = 35)) := by rw [eC, ← Bool.or_assoc, g14_1, dec35]; rfl
                  refine sq_yes rfl rfl (less_b g14_1) rfl (ev_fieldAddr fo26_0 J) ?_
                  refine sq_yes rfl rfl (less_b g14_1) rfl (ev_load J rfl ty24 rfl) ?_
                  refine sq_yes rfl rfl (less_b g14_1) rfl (ev_mv (v := .raw _) J) ?_
                  refine sq_yes rfl rfl (less_b g14_1) rfl (ev_index_map sl24 J J rfl (by omega)) ?_
                  refine sq_yes rfl rfl (less_b g14_1) rfl (ev_load_i J ty9 rfl) ?_
                  refine sq_yes rfl rfl (less_b g14_1) rfl (ev_mv (v := .raw _) J) ?_
                  refine sq_yes rfl rfl (less_b g14_1) rfl (ev_idxS Tryz.underlying9 J J rfl (by omega)) ?_
                  refine sq_yes rfl rfl (less_b g14_1) rfl (ev_eql J J) ?_
                  refine sq_ev rfl (ev_pickF (v := .raw _) (less_b g14_1) J) ?_
                  refine asr J rfl (sq_nil (aw_region (mvr J rfl (sq_ev rfl (ev_add J J (wr (by omega) (by omega))) ?_))))
                  refine asr J rfl (sq_nil ?_)
                  exact ⟨⟨j + 1, by omega, fun i h hi => (by by_cases e : i = j; (subst e; exact hch); exact hoj i h (by omega))⟩, by simp only; omega, Sub.slots ⟨(Less.eq eF), J, J, J, trivial⟩⟩
            · skip
              have g12_8' := g12_8
              try simp only [qq] at g12_8'
              have hch : chOK f[k][j] = true := ch_ok (.inl (by simpa using g12_8))
              refine sq_no rfl rfl (less_b g12_8) rfl rfl ?_
              refine sq_no rfl rfl (less_b g12_8) rfl rfl ?_
              refine sq_no rfl rfl (less_b g12_8) rfl rfl ?_
              refine sq_no rfl rfl (less_b g12_8) rfl rfl ?_
              refine sq_no rfl rfl (less_b g12_8) rfl rfl ?_
              refine sq_no rfl rfl (less_b g12_8) rfl rfl ?_
              refine sq_no rfl rfl (less_b g12_8) rfl rfl ?_
              refine sq_no rfl rfl (less_b g12_8) rfl rfl ?_
              refine sq_ev rfl (ev_pickF (v := .raw _) (less_b g12_8) J) ?_
              refine sq_nil ?_
              refine aw_false J ?_
              refine aw_skip (aw_region (mvr J rfl (mvr J rfl ?_)))
              refine sq_split 68 J (fun g14_1 => ?_) (fun g14_1 => ?_)
              · skip
                have g14_1' := g14_1
                try simp only [qq] at g14_1'
                have eF : B true = B ((f.take k).any hasH || (f[k].take (j + 1)).any fun c => decide (c = 35)) := by rw [eC, ← Bool.or_assoc, g14_1]; rfl
                refine sq_no rfl rfl (less_b g14_1) rfl rfl ?_
                refine sq_no rfl rfl (less_b g14_1) rfl rfl ?_
                refine sq_no rfl rfl (less_b g14_1) rfl rfl ?_
                refine sq_no rfl rfl (less_b g14_1) rfl rfl ?_
                refine sq_no rfl rfl (less_b g14_1) rfl rfl ?_
                refine sq_no rfl rfl (less_b g14_1) rfl rfl ?_
                refine sq_no rfl rfl (less_b g14_1) rfl rfl ?_
                refine sq_no rfl rfl (less_b g14_1) rfl rfl ?_
                refine sq_ev rfl (ev_pickT (v := .raw _) (less_b g14_1) J) ?_
                refine asr J rfl (sq_nil (aw_region (mvr J rfl (sq_ev rfl (ev_add J J (wr (by omega) (by omega))) ?_))))
                refine asr J rfl (sq_nil ?_)
                exact ⟨⟨j + 1, by omega, fun i h hi => (by by_cases e : i = j; (subst e; exact hch); exact hoj i h (by omega))⟩, by simp only; omega, Sub.slots ⟨(Less.eq eF), J, J, J, trivial⟩⟩
              · skip
                have g14_1' := g14_1
                try simp only [qq] at g14_1'
                have eF : B (decide (((f[k][j]).toNat : Int) = 35)) = B ((f.take k).any hasH || (f[k].take (j + 1)).any fun c => decide (c = 35)) := by rw [eC, ← Bool.or_assoc, g14_1, dec35]; rfl
                refine sq_yes rfl rfl (less_b g14_1) rfl (ev_fieldAddr fo26_0 J) ?_
                refine sq_yes rfl rfl (less_b g14_1) rfl (ev_load J rfl ty24 rfl) ?_
                refine sq_yes rfl rfl (less_b g14_1) rfl (ev_mv (v := .raw _) J) ?_
                refine sq_yes rfl rfl (less_b g14_1) rfl (ev_index_map sl24 J J rfl (by omega)) ?_
                refine sq_yes rfl rfl (less_b g14_1) rfl (ev_load_i J ty9 rfl) ?_
                refine sq_yes rfl rfl (less_b g14_1) rfl (ev_mv (v := .raw _) J) ?_
                refine sq_yes rfl rfl (less_b g14_1) rfl (ev_idxS Tryz.underlying9 J J rfl (by omega)) ?_
                refine sq_yes rfl rfl (less_b g14_1) rfl (ev_eql J J) ?_
                refine sq_ev rfl (ev_pickF (v := .raw _) (less_b g14_1) J) ?_
                refine asr J rfl (sq_nil (aw_region (mvr J rfl (sq_ev rfl (ev_add J J (wr (by omega) (by omega))) ?_))))
                refine asr J rfl (sq_nil ?_)
                exact ⟨⟨j + 1, by omega, fun i h hi => (by by_cases e : i = j; (subst e; exact hch); exact hoj i h (by omega))⟩, by simp only; omega, Sub.slots ⟨(Less.eq eF), J, J, J, trivial⟩⟩
          · skip
            have c_46' := c_46
            try simp only [qq] at c_46'
            refine aw_exit (aw_region (mvr J rfl (sq_ev rfl (ev_add J J (wr (by omega) (by omega))) ?_)))
            refine asr J rfl (sq_nil ?_)
            have hgood : fgRow (w0 f) f[k] = true := fgRow_ok (by omega) (fun i h => hoj i h (by omega))
            have eA := any_take (q := hasH) (l := f) (k := k) (by omega)
            have eB : hasH f[k] = (f[k].take j).any (fun c => decide (c = 35)) := by unfold hasH; rw [List.take_of_length_le (by omega)]
            exact ⟨⟨k + 1, by omega, fun i h hi => (by by_cases e : i = k; (subst e; exact hgood); exact hok i h (by omega))⟩, by simp only; omega, Sub.slots ⟨(Less.eq (show B ((f.take k).any hasH || (f[k].take j).any fun c => decide (c = 35)) = _ by rw [eA, eB])), J, J, trivial⟩⟩
      · skip
        have c_24' := c_24
        try simp only [qq] at c_24'
        refine aw_exit (aw_seq (aw_region (mvr J rfl (asr J rfl (sq_nil (aw_ret ?_))))))
        exact retQ_pure (v := .raw _) rfl rfl (Less.eq (by rw [fg_end h1 h2 (fun i h => hok i h (by omega)), show k = f.length by omega, List.take_length]))
end Go.Proofs.YtmbknoaneglilaaGreatDoor
namespace Go.Proofs.YtmbknoaneglilaaGreatDoor
open Go Go.Ab Ni Ol
theorem print_pure (b : Bk) (hl : b.l.length ≤ 1000000) : APure Tryz.prog 54 [bkA b] (.tup [S (if bkOK b = true then textB b else []), I (er (bkOK b))]) := by
 refine apure_of (rs := [.tmp 2, .tmp 3]) Tryz.func54 rfl rfl (Nat.le_of_ble_eq_true rfl) (by simp [AV.pureL, AV.pureB, AV.pureE, pureE_map]) (by first | rfl | (simp [AV.pureL, AV.pureB, AV.pureE, pureE_map])) fun e0 he0 => ?_
 refine aw_seq (aw_region (sq_box rfl J rfl ?_))
 refine asr J rfl (asr J rfl (sq_nil (aw_seq (aw_seq (aw_region (sq_ev rfl (ev_load_agg J rfl ty81 rfl) ?_))))))
 refine sq_ev rfl (ev_call en121 J (isbook_pure b hl) ⟨J, trivial⟩) ?_
 refine sq_ev rfl (ev_not J) ?_
 refine sq_nil ?_
 refine aw_cond J (fun c_6 => ?_) (fun c_6 => ?_)
 ·
  have c_6' := c_6
  try simp only [qq] at c_6'
  refine aw_seq (aw_region (asr J rfl (asr J rfl (sq_nil (aw_ret ?_)))))
  exact retQ_pure (v := .tup [.raw _, .raw _]) rfl rfl (less_tup ⟨Less.eq (by rw [show bkOK b = false by simpa using c_6]; rfl), Less.eq (by rw [show bkOK b = false by simpa using c_6]; rfl), trivial⟩)
 have c_6' := c_6
 try simp only [qq] at c_6'
 refine aw_skip (aw_seq (aw_region (sq_ev rfl (ev_load_agg J rfl ty81 rfl) ?_)))
 refine sq_ev rfl (ev_call en122 J (text_pure b (smb_ok (by simpa using c_6))) ⟨J, trivial⟩) ?_
 refine asr J rfl (asr J rfl (sq_nil (aw_ret ?_)))
 exact retQ_pure (v := .tup [.raw _, .raw _]) rfl rfl (less_tup ⟨Less.eq (by rw [if_pos (show bkOK b = true by simpa using c_6)]), Less.eq (by rw [show bkOK b = true by simpa using c_6]; rfl), trivial⟩)
end Go.Proofs.YtmbknoaneglilaaGreatDoor
namespace Go.Proofs.YtmbknoaneglilaaGreatDoor
open Go Go.Ab Ni Ol
theorem en111 : Ent Tryz.prog 111 := Ent.of Tryz.func111 (by kernel_rfl) rfl
theorem en23 : Ent Tryz.prog 23 := Ent.of Tryz.func23 (by kernel_rfl) rfl
theorem en24 : Ent Tryz.prog 24 := Ent.of Tryz.func24 (by kernel_rfl) rfl
theorem en25 : Ent Tryz.prog 25 := Ent.of Tryz.func25 (by kernel_rfl) rfl
theorem en34 : Ent Tryz.prog 34 := Ent.of Tryz.func34 (by kernel_rfl) rfl
theorem en77 : Ent Tryz.prog 77 := Ent.of Tryz.func77 (by kernel_rfl) rfl
theorem en85 : Ent Tryz.prog 85 := Ent.of Tryz.func85 (by kernel_rfl) rfl
theorem allT_no {α : Type} {q : α → Bool} {l : List α} {n i : Nat} (hi : i < l.length) (hn : i < n) (h : q l[i] = false) : (l.take n).all q = false := by
  rw [List.all_eq_false]
  have hm : i < (l.take n).length := by rw [List.length_take]; omega
  exact ⟨(l.take n)[i], List.getElem_mem hm, by rw [List.getElem_take, h]; simp⟩
theorem allT_yes {α : Type} {q : α → Bool} {l : List α} {n : Nat} (h : ∀ i, (hi : i < l.length) → i < n → q l[i] = true) : (l.take n).all q = true := by
  rw [List.all_eq_true]
  intro x hx
  obtain ⟨i, hi, rfl⟩ := List.getElem_of_mem hx
  rw [List.length_take] at hi
  rw [List.getElem_take]; exact h i (by omega) (by omega)
def shortB (l : List (List UInt8)) : Bool := (l.take 20).all (fun r => decide (r.length ≤ 20)) && decide (l.length ≤ 18)
def fewB (l : List Fg) : Bool := (l.take 9).all shortB && decide (l.length ≤ 8)
theorem shortB_sz {l : List (List UInt8)} (h : shortB l = true) : l.length ≤ 18 ∧ ∀ r ∈ l, r.length ≤ 20 := by
  unfold shortB at h
  simp only [Bool.and_eq_true, decide_eq_true_eq] at h
  rw [List.take_of_length_le (by omega)] at h
  exact ⟨h.2, fun r hr => by have := List.all_eq_true.1 h.1 r hr; simpa using this⟩
theorem fewB_sz {l : List Fg} (h : fewB l = true) : l.length ≤ 8 ∧ ∀ f ∈ l, f.length ≤ 18 ∧ ∀ r ∈ f, r.length ≤ 20 := by
  unfold fewB at h
  simp only [Bool.and_eq_true, decide_eq_true_eq] at h
  rw [List.take_of_length_le (by omega)] at h
  exact ⟨h.2, fun f hf => shortB_sz (List.all_eq_true.1 h.1 f hf)⟩
theorem coOK_ref (l : List Fg) : coOK l = (decide (0 < l.length) && ((l.take 6).all fgOK && decide (l.length ≤ 6))) := by
  rw [coOK_eq, Bool.eq_iff_iff]
  simp only [Bool.and_eq_true, inn, decide_eq_true_eq, Bool.not_eq_true', List.any_eq_false, Bool.not_eq_true, Bool.not_eq_false', List.all_eq_true]
  constructor
  · rintro ⟨h1, h2⟩
    exact ⟨by omega, fun f hf => by have := h2 f (List.mem_of_mem_take hf); simpa using this, by omega⟩
  · rintro ⟨h1, h2, h3⟩
    rw [List.take_of_length_le h3] at h2
    exact ⟨by omega, fun f hf => by have := h2 f hf; simp [this]⟩
theorem short_pure (l : List (List UInt8)) : APure Tryz.prog 23 [strs l] (B (shortB l)) := by
  refine apure_of (rs := [.tmp 2]) Tryz.func23 rfl rfl (Nat.le_of_ble_eq_true rfl) (by simp [AV.pureL, AV.pureB, AV.pureE, pureE_map]) (by first | rfl | (simp [AV.pureL, AV.pureB, AV.pureE, pureE_map])) fun e0 he0 => ?_
  refine aw_seq (aw_region (asr J rfl ?_))
  refine sq_nil (aw_seq (aw_seq (aw_region (asr J rfl (sq_nil (aw_block ?_))))))
  refine aw_loopk (ι := { k : Nat // k ≤ l.length ∧ k ≤ 20 ∧ ∀ i, (h : i < l.length) → i < k → decide (l[i].length ≤ 20) = true }) [0] (fun g => [(3, I g.1)]) (fun H g => H) (fun g => 20 - g.1) (⟨0, Nat.zero_le _, by omega, by omega⟩) ⟨J, J, trivial⟩ rfl ?_
  rintro ⟨k, hk, hok⟩
  dsimp only [keepS, St.put, sget, slotsOf, nn1, nn2, nn3, nn4, nn5, nn6, Nat.reduceBEq, Nat.reduceAdd, nn7, nn8]
  refine aw_seq (aw_seq (aw_region (mvr J rfl (mvs rfl J (sq_ev rfl (ev_len_map sl24 J) ?_)))))
  refine sq_ev rfl (ev_lss J J) ?_
  refine mvr J rfl ?_
  refine sq_split 8 J (fun g2_4 => ?_) (fun g2_4 => ?_)
  · skip
    have g2_4' := g2_4
    try simp only [qq] at g2_4'
    have hkL : k < l.length := by omega
    refine sq_yes rfl rfl (less_b g2_4) rfl (ev_mv (v := .raw _) J) ?_
    refine sq_yes rfl rfl (less_b g2_4) rfl (ev_lss J J) ?_
    refine sq_ev rfl (ev_pickT (v := .raw _) (less_b g2_4) J) ?_
    refine sq_nil ?_
    refine aw_cond J (fun c_11 => ?_) (fun c_11 => ?_)
    · skip
      have c_11' := c_11
      try simp only [qq] at c_11'
      refine aw_skip (aw_seq (aw_block (aw_seq (aw_region (mvs rfl J (mvr J rfl (sq_ev rfl (ev_index_map sl24 J J rfl (by omega)) ?_)))))))
      refine sq_ev rfl (ev_load_i J ty9 rfl) ?_
      refine sq_ev rfl (ev_lenS Tryz.underlying9 J) ?_
      refine sq_ev rfl (ev_gtr J J) ?_
      refine sq_nil ?_
      refine aw_cond J (fun c_19 => ?_) (fun c_19 => ?_)
      · skip
        have c_19' := c_19
        try simp only [qq] at c_19'
        refine aw_seq (aw_region (asr J rfl (sq_nil (aw_ret ?_))))
        exact retQ_pure (v := .raw _) rfl rfl (Less.eq (by rw [shortB, allT_no (i := k) (n := 20) hkL (by omega) (by simp only [decide_eq_false_iff_not]; omega)]; rfl))
      · skip
        have c_19' := c_19
        try simp only [qq] at c_19'
        refine aw_skip (aw_region (mvr J rfl (sq_ev rfl (ev_add J J (wr (by omega) (by omega))) ?_)))
        refine asr J rfl (sq_nil ?_)
        have hgood : decide (l[k].length ≤ 20) = true := by simp only [decide_eq_true_eq]; omega
        exact ⟨⟨k + 1, by omega, by omega, fun i h hi => (by by_cases e : i = k; (subst e; exact hgood); exact hok.2 i h (by omega))⟩, by simp only; omega, Sub.slots ⟨J, J, trivial⟩⟩
    · skip
      have c_11' := c_11
      try simp only [qq] at c_11'
      refine aw_exit (aw_seq (aw_region (mvs rfl J (sq_ev rfl (ev_len_map sl24 J) ?_))))
      refine sq_ev rfl (ev_leq J J) ?_
      refine asr J rfl (sq_nil (aw_ret ?_))
      exact retQ_pure (v := .raw _) rfl rfl (Less.eq (by rw [shortB, allT_yes (n := 20) (fun i h hi => hok.2 i h (by omega))]; simp; omega))
  · skip
    have g2_4' := g2_4
    try simp only [qq] at g2_4'
    refine sq_no rfl rfl (less_b g2_4) rfl rfl ?_
    refine sq_no rfl rfl (less_b g2_4) rfl rfl ?_
    refine sq_ev rfl (ev_pickF (v := .raw _) (less_b g2_4) J) ?_
    refine sq_nil ?_
    refine aw_false J ?_
    refine aw_exit (aw_seq (aw_region (mvs rfl J (sq_ev rfl (ev_len_map sl24 J) ?_))))
    refine sq_ev rfl (ev_leq J J) ?_
    refine asr J rfl (sq_nil (aw_ret ?_))
    exact retQ_pure (v := .raw _) rfl rfl (Less.eq (by rw [shortB, allT_yes (n := 20) (fun i h hi => hok.2 i h (by omega))]; simp; omega))
theorem few_pure (l : List Fg) : APure Tryz.prog 34 [figs l] (B (fewB l)) := by
 refine apure_of (rs := [.tmp 2]) Tryz.func34 rfl rfl (Nat.le_of_ble_eq_true rfl) (by simp [AV.pureL, AV.pureB, AV.pureE, pureE_map]) (by first | rfl | (simp [AV.pureL, AV.pureB, AV.pureE, pureE_map])) fun e0 he0 => ?_
 refine aw_seq (aw_region (asr J rfl ?_))
 refine sq_nil (aw_seq (aw_seq (aw_region (asr J rfl (sq_nil (aw_block ?_))))))
 refine aw_loopk (ι := { k : Nat // k ≤ l.length ∧ k ≤ 9 ∧ ∀ i, (h : i < l.length) → i < k → shortB l[i] = true }) [0] (fun g => [(3, I g.1)]) (fun H g => H) (fun g => 9 - g.1) (⟨0, Nat.zero_le _, by omega, by omega⟩) ⟨J, J, trivial⟩ rfl ?_
 rintro ⟨k, hk, hok⟩
 dsimp only [keepS, St.put, sget, slotsOf, nn1, nn2, nn3, nn4, nn5, nn6, Nat.reduceBEq, Nat.reduceAdd, nn7, nn8]
 refine aw_seq (aw_seq (aw_region (mvr J rfl (mvs rfl J (sq_ev rfl (ev_len_map sl45 J) ?_)))))
 refine sq_ev rfl (ev_lss J J) ?_
 refine mvr J rfl ?_
 refine sq_split 8 J (fun g2_4 => ?_) (fun g2_4 => ?_)
 ·
  have g2_4' := g2_4
  try simp only [qq] at g2_4'
  have hkL : k < l.length := by omega
  refine sq_yes rfl rfl (less_b g2_4) rfl (ev_mv (v := .raw _) J) ?_
  refine sq_yes rfl rfl (less_b g2_4) rfl (ev_lss J J) ?_
  refine sq_ev rfl (ev_pickT (v := .raw _) (less_b g2_4) J) ?_
  refine sq_nil ?_
  refine aw_cond J (fun c_11 => ?_) (fun c_11 => ?_)
  ·
   have c_11' := c_11
   try simp only [qq] at c_11'
   refine aw_skip (aw_seq (aw_block (aw_seq (aw_region (mvs rfl J (mvr J rfl (sq_ev rfl (ev_index_map sl45 J J rfl (by omega)) ?_)))))))
   refine sq_ev rfl (ev_fieldAddr_i fo26_0 J) ?_
   refine sq_ev rfl (ev_load_i J ty24 rfl) ?_
   refine sq_ev rfl (ev_call en23 J (short_pure _) ⟨J, trivial⟩) ?_
   refine sq_ev rfl (ev_not J) ?_
   refine sq_nil ?_
   refine aw_cond J (fun c_20 => ?_) (fun c_20 => ?_)
   ·
    have c_20' := c_20
    try simp only [qq] at c_20'
    refine aw_seq (aw_region (asr J rfl (sq_nil (aw_ret ?_))))
    exact retQ_pure (v := .raw _) rfl rfl (Less.eq (by rw [fewB, allT_no (i := k) (n := 9) hkL (by omega) (by simpa using c_20)]; rfl))
   have c_20' := c_20
   try simp only [qq] at c_20'
   refine aw_skip (aw_region (mvr J rfl (sq_ev rfl (ev_add J J (wr (by omega) (by omega))) ?_)))
   refine asr J rfl (sq_nil ?_)
   have hgood : shortB l[k] = true := by simpa using c_20
   exact ⟨⟨k + 1, by omega, by omega, fun i h hi => (by by_cases e : i = k; (subst e; exact hgood); exact hok.2 i h (by omega))⟩, by simp only; omega, Sub.slots ⟨J, J, trivial⟩⟩
  have c_11' := c_11
  try simp only [qq] at c_11'
  refine aw_exit (aw_seq (aw_region (mvs rfl J (sq_ev rfl (ev_len_map sl45 J) ?_))))
  refine sq_ev rfl (ev_leq J J) ?_
  refine asr J rfl (sq_nil (aw_ret ?_))
  exact retQ_pure (v := .raw _) rfl rfl (Less.eq (by rw [fewB, allT_yes (n := 9) (fun i h hi => hok.2 i h (by omega))]; simp; omega))
 have g2_4' := g2_4
 try simp only [qq] at g2_4'
 refine sq_no rfl rfl (less_b g2_4) rfl rfl ?_
 refine sq_no rfl rfl (less_b g2_4) rfl rfl ?_
 refine sq_ev rfl (ev_pickF (v := .raw _) (less_b g2_4) J) ?_
 refine sq_nil ?_
 refine aw_false J ?_
 refine aw_exit (aw_seq (aw_region (mvs rfl J (sq_ev rfl (ev_len_map sl45 J) ?_))))
 refine sq_ev rfl (ev_leq J J) ?_
 refine asr J rfl (sq_nil (aw_ret ?_))
 exact retQ_pure (v := .raw _) rfl rfl (Less.eq (by rw [fewB, allT_yes (n := 9) (fun i h hi => hok.2 i h (by omega))]; simp; omega))
theorem rfigures_pure (l : List Fg) : APure Tryz.prog 85 [figs l] (B ((l.take 6).all fgOK && decide (l.length ≤ 6))) := by
 refine apure_of (rs := [.tmp 2]) Tryz.func85 rfl rfl (Nat.le_of_ble_eq_true rfl) (by simp [AV.pureL, AV.pureB, AV.pureE, pureE_map]) (by first | rfl | (simp [AV.pureL, AV.pureB, AV.pureE, pureE_map])) fun e0 he0 => ?_
 refine aw_seq (aw_region (asr J rfl ?_))
 refine sq_nil (aw_seq (aw_seq (aw_region (asr J rfl (sq_nil (aw_block ?_))))))
 refine aw_loopk (ι := { k : Nat // k ≤ l.length ∧ k ≤ 6 ∧ ∀ i, (h : i < l.length) → i < k → fgOK l[i] = true }) [0] (fun g => [(3, I g.1)]) (fun H g => H) (fun g => 6 - g.1) (⟨0, Nat.zero_le _, by omega, by omega⟩) ⟨J, J, trivial⟩ rfl ?_
 rintro ⟨k, hk, hok⟩
 dsimp only [keepS, St.put, sget, slotsOf, nn1, nn2, nn3, nn4, nn5, nn6, Nat.reduceBEq, Nat.reduceAdd, nn7, nn8]
 refine aw_seq (aw_seq (aw_region (mvr J rfl (mvs rfl J (sq_ev rfl (ev_len_map sl45 J) ?_)))))
 refine sq_ev rfl (ev_lss J J) ?_
 refine mvr J rfl ?_
 refine sq_split 8 J (fun g2_4 => ?_) (fun g2_4 => ?_)
 ·
  have g2_4' := g2_4
  try simp only [qq] at g2_4'
  have hkL : k < l.length := by omega
  refine sq_yes rfl rfl (less_b g2_4) rfl (ev_mv (v := .raw _) J) ?_
  refine sq_yes rfl rfl (less_b g2_4) rfl (ev_lss J J) ?_
  refine sq_ev rfl (ev_pickT (v := .raw _) (less_b g2_4) J) ?_
  refine sq_nil ?_
  refine aw_cond J (fun c_11 => ?_) (fun c_11 => ?_)
  ·
   have c_11' := c_11
   try simp only [qq] at c_11'
   refine aw_skip (aw_seq (aw_block (aw_seq (aw_region (mvs rfl J (mvr J rfl (sq_ev rfl (ev_index_map sl45 J J rfl (by omega)) ?_)))))))
   refine sq_ev rfl (ev_load_agg_i J ty26 (by exact Nat.le_of_ble_eq_true rfl)) ?_
   refine sq_ev rfl (ev_call en25 J (rfigure_pure _) ⟨J, trivial⟩) ?_
   refine sq_ev rfl (ev_not J) ?_
   refine sq_nil ?_
   refine aw_cond J (fun c_19 => ?_) (fun c_19 => ?_)
   ·
    have c_19' := c_19
    try simp only [qq] at c_19'
    refine aw_seq (aw_region (asr J rfl (sq_nil (aw_ret ?_))))
    exact retQ_pure (v := .raw _) rfl rfl (Less.eq (by rw [allT_no (i := k) (n := 6) hkL (by omega) (by simpa using c_19)]; rfl))
   have c_19' := c_19
   try simp only [qq] at c_19'
   refine aw_skip (aw_region (mvr J rfl (sq_ev rfl (ev_add J J (wr (by omega) (by omega))) ?_)))
   refine asr J rfl (sq_nil ?_)
   have hgood : fgOK l[k] = true := by simpa using c_19
   exact ⟨⟨k + 1, by omega, by omega, fun i h hi => (by by_cases e : i = k; (subst e; exact hgood); exact hok.2 i h (by omega))⟩, by simp only; omega, Sub.slots ⟨J, J, trivial⟩⟩
  have c_11' := c_11
  try simp only [qq] at c_11'
  refine aw_exit (aw_seq (aw_region (mvs rfl J (sq_ev rfl (ev_len_map sl45 J) ?_))))
  refine sq_ev rfl (ev_leq J J) ?_
  refine asr J rfl (sq_nil (aw_ret ?_))
  exact retQ_pure (v := .raw _) rfl rfl (Less.eq (by rw [allT_yes (n := 6) (fun i h hi => hok.2 i h (by omega))]; simp; omega))
 have g2_4' := g2_4
 try simp only [qq] at g2_4'
 refine sq_no rfl rfl (less_b g2_4) rfl rfl ?_
 refine sq_no rfl rfl (less_b g2_4) rfl rfl ?_
 refine sq_ev rfl (ev_pickF (v := .raw _) (less_b g2_4) J) ?_
 refine sq_nil ?_
 refine aw_false J ?_
 refine aw_exit (aw_seq (aw_region (mvs rfl J (sq_ev rfl (ev_len_map sl45 J) ?_))))
 refine sq_ev rfl (ev_leq J J) ?_
 refine asr J rfl (sq_nil (aw_ret ?_))
 exact retQ_pure (v := .raw _) rfl rfl (Less.eq (by rw [allT_yes (n := 6) (fun i h hi => hok.2 i h (by omega))]; simp; omega))
theorem rcompany_pure (l : List Fg) : APure Tryz.prog 111 [figs l] (B (coOK l)) := by
 refine apure_of (rs := [.tmp 2]) Tryz.func111 rfl rfl (Nat.le_of_ble_eq_true rfl) (by simp [AV.pureL, AV.pureB, AV.pureE, pureE_map]) (by first | rfl | (simp [AV.pureL, AV.pureB, AV.pureE, pureE_map])) fun e0 he0 => ?_
 refine aw_seq (aw_region (asr J rfl (sq_nil (aw_seq (aw_region (mvs rfl J (sq_ev rfl (ev_len_map sl45 J) ?_)))))))
 refine sq_ev rfl (ev_gtr J J) ?_
 refine mvr J rfl ?_
 refine sq_split 6 J (fun g1_3 => ?_) (fun g1_3 => ?_)
 ·
  have g1_3' := g1_3
  try simp only [qq] at g1_3'
  refine sq_yes rfl rfl (less_b g1_3) rfl (ev_mv (v := .sl _ _) J) ?_
  refine sq_yes rfl rfl (less_b g1_3) rfl (ev_call en85 J (rfigures_pure l) ⟨J, trivial⟩) ?_
  refine sq_ev rfl (ev_pickT (v := .raw _) (less_b g1_3) J) ?_
  refine asr J rfl (sq_nil (aw_ret ?_))
  exact retQ_pure (v := .raw _) rfl rfl (Less.eq (by rw [coOK_ref]; simp [*] <;> (intros; omega)))
 have g1_3' := g1_3
 try simp only [qq] at g1_3'
 refine sq_no rfl rfl (less_b g1_3) rfl rfl ?_
 refine sq_no rfl rfl (less_b g1_3) rfl rfl ?_
 refine sq_ev rfl (ev_pickF (v := .raw _) (less_b g1_3) J) ?_
 refine asr J rfl (sq_nil (aw_ret ?_))
 exact retQ_pure (v := .raw _) rfl rfl (Less.eq (by rw [coOK_ref]; simp [*] <;> (intros; omega)))
end Go.Proofs.YtmbknoaneglilaaGreatDoor
namespace Go.Proofs.YtmbknoaneglilaaGreatDoor
open Go Go.Ab Ni Ol
theorem samec_pure (a b : List (List UInt8)) (ha : a.length ≤ 1000000) (hb : b.length ≤ 1000000) : APure Tryz.prog 77 [strs a, strs b] (B (decide (a = b))) := by
 refine apure_of (rs := [.tmp 4]) Tryz.func77 rfl rfl (Nat.le_of_ble_eq_true rfl) (by simp [AV.pureL, AV.pureB, AV.pureE, pureE_map]) (by first | rfl | (simp [AV.pureL, AV.pureB, AV.pureE, pureE_map])) fun e0 he0 => ?_
 refine aw_seq (aw_region ?_)
 refine asr J rfl (sq_nil (aw_seq (aw_seq (aw_region (mvs rfl J (sq_ev rfl (ev_len_map sl24 J) ?_))))))
 refine mvs rfl J (sq_ev rfl (ev_len_map sl24 J) ?_)
 refine sq_ev rfl (ev_neq J J) ?_
 refine sq_nil ?_
 refine aw_cond J (fun c_10 => ?_) (fun c_10 => ?_)
 ·
  have c_10' := c_10
  try simp only [qq] at c_10'
  refine aw_seq (aw_region (asr J rfl (sq_nil (aw_ret ?_))))
  exact retQ_pure (v := .raw _) rfl rfl (Less.eq (by rw [decide_eq_false (fun h => by rw [h] at c_10'; exact c_10' rfl)]))
 have c_10' := c_10
 try simp only [qq] at c_10'
 have hlen : a.length = b.length := by omega
 refine aw_skip (aw_seq (aw_seq (aw_region (asr J rfl (sq_nil (aw_block ?_))))))
 refine aw_loopk (ι := { k : Nat // k ≤ a.length ∧ ∀ i, (h1 : i < a.length) → (h2 : i < b.length) → i < k → a[i] = b[i] }) [0, 1] (fun g => [(5, I g.1)]) (fun H g => H) (fun g => a.length - g.1) (⟨0, Nat.zero_le _, by omega⟩) ⟨J, J, J, trivial⟩ rfl ?_
 rintro ⟨k, hk, hok⟩
 dsimp only [keepS, St.put, sget, slotsOf, nn1, nn2, nn3, nn4, nn5, nn6, Nat.reduceBEq, Nat.reduceAdd, nn7, nn8]
 refine aw_seq (aw_seq (aw_region (mvr J rfl (mvs rfl J (sq_ev rfl (ev_len_map sl24 J) ?_)))))
 refine sq_ev rfl (ev_lss J J) ?_
 refine sq_nil ?_
 refine aw_cond J (fun c_14 => ?_) (fun c_14 => ?_)
 ·
  have c_14' := c_14
  try simp only [qq] at c_14'
  have hkL : k < a.length := by omega
  refine aw_skip (aw_seq (aw_block (aw_seq ?_)))
  refine aw_draw 9 mo (by kernel_rfl) ?_
  refine dr_ev rfl (ev_mv (v := .sl _ _) J) ?_
  refine dr_ev rfl (ev_mv (v := .raw _) J) ?_
  refine dr_ev rfl (ev_index_map sl24 J J rfl (by omega)) ?_
  refine dr_ev rfl (ev_load_i J ty9 rfl) ?_
  refine dr_ev rfl (ev_mv (v := .sl _ _) J) ?_
  refine dr_ev rfl (ev_mv (v := .raw _) J) ?_
  refine dr_ev rfl (ev_index_map sl24 J J rfl (by omega)) ?_
  refine dr_ev rfl (ev_load_i J ty9 rfl) ?_
  refine dr_ev rfl (ev_sneS J J) ?_
  refine dr_end (sq_nil ?_)
  refine aw_cond J (fun c_25 => ?_) (fun c_25 => ?_)
  ·
   have c_25' := c_25
   try simp only [qq] at c_25'
   refine aw_seq (aw_region (asr J rfl (sq_nil (aw_ret ?_))))
   exact retQ_pure (v := .raw _) rfl rfl (Less.eq (by rw [decide_eq_false (fun h => by subst h; simp at c_25')]))
  have c_25' := c_25
  try simp only [qq] at c_25'
  refine aw_skip (aw_region (mvr J rfl (sq_ev rfl (ev_add J J (wr (by omega) (by omega))) ?_)))
  refine asr J rfl (sq_nil ?_)
  exact ⟨⟨k + 1, by omega, fun i h1 h2 h => (by by_cases e : i = k; (subst e; simpa using c_25'); exact hok i h1 h2 (by omega))⟩, by simp only; omega, Sub.slots ⟨J, J, J, trivial⟩⟩
 have c_14' := c_14
 try simp only [qq] at c_14'
 have heq : a = b := same_ext hlen fun i h1 h2 => hok i h1 h2 (by omega)
 refine aw_exit (aw_seq (aw_region (asr J rfl (sq_nil (aw_ret ?_)))))
 exact retQ_pure (v := .raw _) rfl rfl (Less.eq (by rw [decide_eq_true heq]))
theorem rbook_pure (b : Bk) : APure Tryz.prog 55 [bkA b] (B (bkOK b)) := by
 refine apure_of (rs := [.tmp 2]) Tryz.func55 rfl rfl (Nat.le_of_ble_eq_true rfl) (by simp [AV.pureL, AV.pureB, AV.pureE, pureE_map]) (by first | rfl | (simp [AV.pureL, AV.pureB, AV.pureE, pureE_map])) fun e0 he0 => ?_
 refine aw_seq (aw_region (sq_box rfl J rfl (asr J rfl (sq_nil (aw_seq (aw_region (sq_ev rfl (ev_fieldAddr fo81_0 J) ?_)))))))
 refine sq_ev rfl (ev_load_agg J rfl ty23 rfl) ?_
 refine sq_ev rfl (ev_call en24 J (rstage_pure b.s) ⟨J, trivial⟩) ?_
 refine mvr J rfl ?_
 refine sq_split 6 J (fun g1_3 => ?_) (fun g1_3 => ?_)
 ·
  have g1_3' := g1_3
  try simp only [qq] at g1_3'
  refine sq_yes rfl rfl (less_b g1_3) rfl (ev_fieldAddr fo81_1 J) ?_
  refine sq_yes rfl rfl (less_b g1_3) rfl (ev_load J rfl ty45 rfl) ?_
  refine sq_yes rfl rfl (less_b g1_3) rfl (ev_call en111 J (rcompany_pure b.l) ⟨J, trivial⟩) ?_
  refine sq_ev rfl (ev_pickT (v := .raw _) (less_b g1_3) J) ?_
  refine asr J rfl (sq_nil (aw_ret ?_))
  exact retQ_pure (v := .raw _) rfl rfl (Less.eq (by unfold bkOK; simp [*]))
 have g1_3' := g1_3
 try simp only [qq] at g1_3'
 refine sq_no rfl rfl (less_b g1_3) rfl rfl ?_
 refine sq_no rfl rfl (less_b g1_3) rfl rfl ?_
 refine sq_no rfl rfl (less_b g1_3) rfl rfl ?_
 refine sq_ev rfl (ev_pickF (v := .raw _) (less_b g1_3) J) ?_
 refine asr J rfl (sq_nil (aw_ret ?_))
 exact retQ_pure (v := .raw _) rfl rfl (Less.eq (by unfold bkOK; simp [*]))
end Go.Proofs.YtmbknoaneglilaaGreatDoor
namespace Go.Proofs.YtmbknoaneglilaaGreatDoor
open Go Go.Ab Ni Ol
theorem en27 : Ent Tryz.prog 27 := Ent.of Tryz.func27 (by kernel_rfl) rfl
end Go.Proofs.YtmbknoaneglilaaGreatDoor
namespace Go.Proofs.YtmbknoaneglilaaGreatDoor
open Go Go.Ab Ni Ol
theorem cut_app {c : UInt8} : ∀ {w r : List UInt8}, c ∉ w → cut c (w ++ c :: r) = w :: cut c r
  | [], r, _ => by simp [cut]
  | b :: w, r, h => by
    rw [List.cons_append, cut, if_neg (fun e => h (by simp [e])), cut_app (fun k => h (List.mem_cons_of_mem _ k))]
theorem cut_out {c : UInt8} : ∀ {ls : List (List UInt8)} {r : List UInt8}, (∀ l ∈ ls, c ∉ l) → cut c ((ls.map fun l => l ++ [c]).flatten ++ r) = ls ++ cut c r
  | [], r, _ => by simp
  | l :: ls, r, h => by
    have e : ((l :: ls).map fun l => l ++ [c]).flatten ++ r = l ++ c :: ((ls.map fun l => l ++ [c]).flatten ++ r) := by simp
    rw [e, cut_app (h l (by simp)), cut_out (fun y hy => h y (List.mem_cons_of_mem _ hy))]; rfl
theorem cut_ne (c : UInt8) (l : List UInt8) : cut c l ≠ [] := fun e => by have := (cut_len c l).2; rw [e] at this; simp at this
theorem cut_not (c : UInt8) : ∀ (l : List UInt8), ∀ w ∈ cut c l, c ∉ w
  | [], w, h => by simp [cut] at h; subst h; simp
  | b :: l, w, h => by
    by_cases e : b = c
    · rw [cut, if_pos e] at h
      rcases List.mem_cons.1 h with rfl | h
      · simp
      · exact cut_not c l w h
    · cases hy : cut c l with
      | nil => exact absurd hy (cut_ne c l)
      | cons y ys =>
        rw [cut, if_neg e, hy] at h
        rcases List.mem_cons.1 h with rfl | h
        · have := cut_not c l y (by rw [hy]; simp)
          intro hm; rcases List.mem_cons.1 hm with h | h
          · exact e h.symm
          · exact this h
        · exact cut_not c l w (by rw [hy]; simp [h])
theorem cut_in (c : UInt8) : ∀ (l : List UInt8), ∀ w ∈ cut c l, ∀ b ∈ w, b ∈ l
  | [], w, h => by simp [cut] at h; subst h; simp
  | a :: l, w, h => by
    by_cases e : a = c
    · rw [cut, if_pos e] at h
      rcases List.mem_cons.1 h with rfl | h
      · simp
      · exact fun b hb => List.mem_cons_of_mem _ (cut_in c l w h b hb)
    · cases hy : cut c l with
      | nil => exact absurd hy (cut_ne c l)
      | cons y ys =>
        rw [cut, if_neg e, hy] at h
        rcases List.mem_cons.1 h with rfl | h
        · have := cut_in c l y (by rw [hy]; simp)
          intro b hb; rcases List.mem_cons.1 hb with h | h
          · simp [h]
          · exact List.mem_cons_of_mem _ (this b h)
        · exact fun b hb => List.mem_cons_of_mem _ (cut_in c l w (by rw [hy]; simp [h]) b hb)
theorem itoa_fin : ∀ n : Fin 100, numO (Lib.itoa (n.val : Int)) = some (n.val : Int) ∧ (Lib.itoa (n.val : Int)).all isD = true ∧ (Lib.itoa (n.val : Int)).length ≤ 2 := by decide +kernel
theorem itoa_two {n : Int} (h : 0 ≤ n ∧ n ≤ 99) : numO (Lib.itoa n) = some n ∧ (Lib.itoa n).all isD = true ∧ (Lib.itoa n).length ≤ 2 := by
  have := itoa_fin ⟨n.toNat, by omega⟩
  rwa [show ((⟨n.toNat, by omega⟩ : Fin 100).val : Int) = n from (by simp; omega)] at this
theorem itoa_not {n : Int} (h : 0 ≤ n ∧ n ≤ 99) {c : UInt8} (hc : isD c = false) : c ∉ Lib.itoa n := fun k => by
  have := List.all_eq_true.1 (itoa_two h).2.1 c k
  rw [hc] at this; cases this
structure TdB (b : Bk) : Prop where
  head : ∀ n ∈ stL b.s, 0 ≤ n ∧ n ≤ 99
  fig : ∀ f ∈ b.l, 0 < f.length ∧ ∀ w ∈ f, w ≠ [] ∧ (10 : UInt8) ∉ w ∧ (32 : UInt8) ∉ w
theorem ok_td {b : Bk} (h : bkOK b = true) : TdB b := by
  unfold bkOK at h
  rw [Bool.and_eq_true] at h
  have hs := stOK_iff.1 h.1
  refine ⟨fun n hn => ?_, fun f hf => ?_⟩
  · simp only [stL, List.mem_cons, List.not_mem_nil, or_false] at hn
    rcases hn with rfl | rfl | rfl | rfl | rfl | rfl <;> omega
  · obtain ⟨i, hi, rfl⟩ := List.getElem_of_mem hf
    have hk := (coOK_facts h.2).2 i hi
    obtain ⟨a, w, c⟩ := fgOK_facts hk
    refine ⟨by omega, fun r hr => ?_⟩
    obtain ⟨j, hj, rfl⟩ := List.getElem_of_mem hr
    unfold fgOK at hk
    simp only [Bool.and_eq_true, List.all_eq_true] at hk
    have := hk.1.2 _ (List.getElem_mem hj)
    unfold fgRow at this
    simp only [Bool.and_eq_true, List.all_eq_true, decide_eq_true_eq] at this
    have hl := c j hj
    refine ⟨fun e => by rw [e] at hl; simp at hl; omega, fun hm => ?_, fun hm => ?_⟩
    · rcases this.2 _ hm with e | e <;> cases e
    · rcases this.2 _ hm with e | e <;> cases e
theorem line_pre (s : Sg) (r : Option Fg) : lineO s r = nameW r ++ ((rowW s r).map fun x => 32 :: x).flatten := join_eq _ _
theorem name_not (r : Option Fg) {c : UInt8} (h1 : c ∉ wStage) (h2 : c ∉ wFigure) : c ∉ nameW r := by cases r <;> assumption
theorem words_not {b : Bk} (td : TdB b) {r : Option Fg} (h : r ∈ rowsB b) {c : UInt8} (hc : isD c = false) (h2 : c = 10 ∨ c = 32) : ∀ w ∈ rowW b.s r, c ∉ w := by
  rcases rowsB_mem h with rfl | ⟨f, hf, rfl⟩
  · intro w hw
    obtain ⟨n, hn, rfl⟩ := List.mem_map.1 hw
    exact itoa_not (td.head n hn) hc
  · intro w hw
    have := (td.fig f hf).2 w hw
    rcases h2 with rfl | rfl
    · exact this.2.1
    · exact this.2.2
theorem mem_pre {c : UInt8} (hc : c ≠ 32) {ws : List (List UInt8)} {w : List UInt8} (h : c ∉ w) (k : ∀ x ∈ ws, c ∉ x) : c ∉ w ++ (ws.map fun x => 32 :: x).flatten := fun hm => by
  rcases List.mem_append.1 hm with hm | hm
  · exact h hm
  · obtain ⟨y, hy, hm⟩ := List.mem_flatten.1 hm
    obtain ⟨x, hx, rfl⟩ := List.mem_map.1 hy
    rcases List.mem_cons.1 hm with hm | hm
    · exact hc hm
    · exact k x hx hm
theorem lines_not {b : Bk} (td : TdB b) : ∀ l ∈ linesB b, (10 : UInt8) ∉ l := fun l hl => by
  obtain ⟨r, hr, rfl⟩ := List.mem_map.1 hl
  rw [line_pre]
  exact mem_pre (by decide) (name_not r (by decide) (by decide)) (words_not td hr (by decide) (.inl rfl))
theorem rowsB_eq (b : Bk) : rowsB b = none :: b.l.map some := by unfold rowsB rowsT; rw [List.take_length]
theorem linesB_eq (b : Bk) : linesB b = lineO b.s none :: b.l.map fun f => lineO b.s (some f) := by
  unfold linesB; rw [rowsB_eq, List.map_cons, List.map_map]; rfl
def endL (c : Int) : List UInt8 := [101, 110, 100, 32] ++ digs3 c
theorem end_not {c : Int} (h : 0 ≤ c ∧ c ≤ 999) : (10 : UInt8) ∉ endL c := by
  have a1 := itoa_not (n := c / 100) (by omega) (c := 10) (by decide)
  have a2 := itoa_not (n := c / 10 % 10) (by omega) (c := 10) (by decide)
  have a3 := itoa_not (n := c % 10) (by omega) (c := 10) (by decide)
  unfold endL digs3
  simp [a1, a2, a3]
theorem seal_cut {ls : List (List UInt8)} (h : ∀ l ∈ ls, (10 : UInt8) ∉ l) : cut 10 (sealB ls) = ls ++ [endL (ctT ls ls.length % 173), []] := by
  have e : sealB ls = (ls.map fun l => l ++ [10]).flatten ++ (endL (ctT ls ls.length % 173) ++ 10 :: []) := by
    unfold sealB outT endL; rw [List.take_length]; simp
  rw [e, cut_out h, cut_app (end_not (by omega))]; rfl
theorem prelen {B : Nat} {ws : List (List UInt8)} (h : ∀ w ∈ ws, w.length ≤ B) : ((ws.map fun w => (32 : UInt8) :: w).flatten).length ≤ (B + 1) * ws.length := by
  induction ws with
  | nil => simp
  | cons w ws ih =>
    have h1 := h w (by simp)
    have h2 := ih (fun x hx => h x (List.mem_cons_of_mem _ hx))
    simp only [List.map_cons, List.flatten_cons, List.length_append, List.length_cons, Nat.mul_add]
    omega
theorem outlen {ls : List (List UInt8)} {B : Nat} (h : ∀ l ∈ ls, l.length ≤ B) : ((ls.map fun l => l ++ [10]).flatten).length ≤ (B + 1) * ls.length := by
  induction ls with
  | nil => simp
  | cons w ws ih =>
    have h1 := h w (by simp)
    have h2 := ih (fun x hx => h x (List.mem_cons_of_mem _ hx))
    simp only [List.map_cons, List.flatten_cons, List.length_append, List.length_cons, Nat.mul_add]
    simp only [List.length_nil]
    omega
theorem ok_lines {b : Bk} (h : bkOK b = true) : (linesB b).length ≤ 7 ∧ ∀ l ∈ linesB b, l.length ≤ 48 := by
  have td := ok_td h
  unfold bkOK at h
  rw [Bool.and_eq_true] at h
  obtain ⟨h1, h2⟩ := coOK_facts h.2
  constructor
  · rw [linesB_eq]; simp; omega
  · intro l hl
    obtain ⟨r, hr, rfl⟩ := List.mem_map.1 hl
    rw [line_pre, List.length_append]
    rcases rowsB_mem hr with rfl | ⟨f, hf, rfl⟩
    · have := prelen (B := 2) (ws := rowW b.s none) (fun w hw => by obtain ⟨n, hn, rfl⟩ := List.mem_map.1 hw; exact (itoa_two (td.head n hn)).2.2)
      have e : (rowW b.s none).length = 6 := rfl
      have e2 : (nameW none).length = 5 := rfl
      omega
    · obtain ⟨i, hi, rfl⟩ := List.getElem_of_mem hf
      obtain ⟨a, w, c⟩ := fgOK_facts (h2 i hi)
      have := prelen (B := 6) (ws := rowW b.s (some b.l[i])) (fun r hr => by obtain ⟨j, hj, rfl⟩ := List.getElem_of_mem (show r ∈ b.l[i] from hr); rw [c j hj]; omega)
      have e : (rowW b.s (some b.l[i])).length = b.l[i].length := rfl
      have e2 : (nameW (some b.l[i])).length = 6 := rfl
      have : 7 * b.l[i].length ≤ 42 := by omega
      omega
theorem text_len {b : Bk} (h : bkOK b = true) : (textB b).length ≤ 400 := by
  obtain ⟨h1, h2⟩ := ok_lines h
  have e : textB b = ((linesB b).map fun l => l ++ [10]).flatten ++ [101, 110, 100, 32] ++ digs3 (ctT (linesB b) (linesB b).length % 173) ++ [10] := by
    unfold textB sealB outT; rw [List.take_length]
  have h3 := outlen h2
  have h4 : (digs3 (ctT (linesB b) (linesB b).length % 173)).length ≤ 6 := by
    unfold digs3; simp only [List.length_append]
    have a1 := (itoa_two (n := ctT (linesB b) (linesB b).length % 173 / 100) (by omega)).2.2
    have a2 := (itoa_two (n := ctT (linesB b) (linesB b).length % 173 / 10 % 10) (by omega)).2.2
    have a3 := (itoa_two (n := ctT (linesB b) (linesB b).length % 173 % 10) (by omega)).2.2
    omega
  rw [e]
  simp only [List.length_append, List.length_cons, List.length_nil] at h3 ⊢
  have : (48 + 1) * (linesB b).length ≤ 343 := by omega
  omega
theorem cut_set {n c : UInt8} (hc : c ≠ n) : ∀ (t : List UInt8) (k : Nat) (h : k < t.length), t[k] ≠ n → ∃ i j x, (cut n t)[i]? = some x ∧ x[j]? = some t[k] ∧ cut n (t.set k c) = (cut n t).set i (x.set j c)
  | [], k, h, _ => by simp at h
  | b :: l, 0, h, hb => by
    have hb : b ≠ n := hb
    cases hy : cut n l with
    | nil => exact absurd hy (cut_ne n l)
    | cons y ys =>
      refine ⟨0, 0, b :: y, ?_, ?_, ?_⟩
      · rw [cut, if_neg hb, hy]; rfl
      · rfl
      · rw [List.set_cons_zero, cut, if_neg hc, cut, if_neg hb, hy]; rfl
  | b :: l, k + 1, h, hb => by
    obtain ⟨i, j, x, h1, h2, h3⟩ := cut_set hc l k (by simpa using h) (by simpa using hb)
    rw [List.set_cons_succ]
    by_cases e : b = n
    · refine ⟨i + 1, j, x, ?_, by simpa using h2, ?_⟩
      · rw [cut, if_pos e]; simpa using h1
      · rw [cut, if_pos e, cut, if_pos e, h3]; rfl
    · cases hy : cut n l with
      | nil => exact absurd hy (cut_ne n l)
      | cons y ys =>
        rw [hy] at h1 h3
        rcases i with _ | i
        · simp only [List.getElem?_cons_zero, Option.some.injEq] at h1
          subst h1
          refine ⟨0, j + 1, b :: y, ?_, by simpa using h2, ?_⟩
          · rw [cut, if_neg e, hy]; rfl
          · rw [cut, if_neg e, cut, if_neg e, h3, hy]; rfl
        · refine ⟨i + 1, j, x, ?_, by simpa using h2, ?_⟩
          · rw [cut, if_neg e, hy]; simpa using h1
          · rw [cut, if_neg e, cut, if_neg e, h3, hy]; rfl
theorem csT_s (m : Int) (l : List UInt8) (k : Nat) : csT m l (k + 1) = csT m l k + ((l.getD k 0).toNat : Int) * ((k : Int) + 1) * m := by simp [csT, List.range_succ]
theorem getD_set {α : Type} {l : List α} {j : Nat} (hj : j < l.length) (c d : α) (k : Nat) : (l.set j c).getD k d = if k = j then c else l.getD k d := by
  simp only [List.getD_eq_getElem?_getD, List.getElem?_set]
  by_cases e : k = j
  · subst e; simp [hj]
  · rw [if_neg (fun h => e h.symm), if_neg e]
theorem csT_set {m : Int} {l : List UInt8} {j : Nat} {c : UInt8} (hj : j < l.length) : ∀ k, csT m (l.set j c) k = csT m l k + (if j < k then ((c.toNat : Int) - (l.getD j 0).toNat) * ((j : Int) + 1) * m else 0)
  | 0 => by simp [csT]
  | k + 1 => by
    rw [csT_s, csT_s, csT_set hj k, getD_set hj]
    by_cases e : k = j
    · subst e
      rw [if_pos rfl, if_neg (by omega), if_pos (by omega), Int.sub_mul, Int.sub_mul]; omega
    · rw [if_neg e]
      by_cases h : j < k
      · rw [if_pos h, if_pos (by omega)]; omega
      · rw [if_neg h, if_neg (by omega)]; omega
theorem csL_set {m : Int} {l : List UInt8} {j : Nat} {c : UInt8} (hj : j < l.length) : csL m (l.set j c) = csL m l + ((c.toNat : Int) - (l.getD j 0).toNat) * ((j : Int) + 1) * m := by
  unfold csL; rw [List.length_set, csT_set hj, if_pos hj]
theorem ctT_s (ls : List (List UInt8)) (i : Nat) : ctT ls (i + 1) = ctT ls i + csL ((i : Int) + 1) (ls.getD i []) := by simp [ctT, List.range_succ]
theorem ctT_set {ls : List (List UInt8)} {i : Nat} {x : List UInt8} (hi : i < ls.length) : ∀ n, ctT (ls.set i x) n = ctT ls n + (if i < n then csL ((i : Int) + 1) x - csL ((i : Int) + 1) (ls.getD i []) else 0)
  | 0 => by simp [ctT]
  | n + 1 => by
    rw [ctT_s, ctT_s, ctT_set hi n, getD_set hi]
    by_cases e : n = i
    · subst e
      rw [if_pos rfl, if_neg (by omega), if_pos (by omega)]; omega
    · rw [if_neg e]
      by_cases h : i < n
      · rw [if_pos h, if_pos (by omega)]; omega
      · rw [if_neg h, if_neg (by omega)]; omega
theorem digs_val : ∀ c : Fin 173, valN (digs3 (c.val : Int)) = (c.val : Int) := by decide +kernel
theorem endL_inj {a b : Int} (ha : 0 ≤ a ∧ a < 173) (hb : 0 ≤ b ∧ b < 173) (h : endL a = endL b) : a = b := by
  have h := List.append_cancel_left h
  have h1 := digs_val ⟨a.toNat, by omega⟩
  have h2 := digs_val ⟨b.toNat, by omega⟩
  rw [show ((⟨a.toNat, by omega⟩ : Fin 173).val : Int) = a from (by simp; omega)] at h1
  rw [show ((⟨b.toNat, by omega⟩ : Fin 173).val : Int) = b from (by simp; omega)] at h2
  rw [← h1, ← h2, h]
theorem no173 : ∀ a : Fin 10, ∀ b : Fin 50, ∀ d : Fin 8, a.val ≠ 0 → (a.val * (b.val + 1) * (d.val + 1)) % 173 ≠ 0 := by decide +kernel
theorem not173 {D : Int} {j i : Nat} (hD : D ≠ 0) (h1 : -9 ≤ D) (h2 : D ≤ 9) (hj : j < 50) (hi : i < 8) : ¬ (D * ((j : Int) + 1) * ((i : Int) + 1)) % 173 = 0 := fun h => by
  have hd : (173 : Int) ∣ D * ((j : Int) + 1) * ((i : Int) + 1) := Int.dvd_of_emod_eq_zero h
  have hn := Int.natAbs_dvd_natAbs.2 hd
  rw [Int.natAbs_mul, Int.natAbs_mul] at hn
  have e1 : ((j : Int) + 1).natAbs = j + 1 := by omega
  have e2 : ((i : Int) + 1).natAbs = i + 1 := by omega
  rw [e1, e2] at hn
  exact no173 ⟨D.natAbs, by omega⟩ ⟨j, hj⟩ ⟨i, hi⟩ (by simp only; omega) (Nat.mod_eq_zero_of_dvd hn)
theorem numsO_inv : ∀ {ws : List (List UInt8)} {l : List Int}, numsO ws = some l → l.length = ws.length ∧ ∀ n ∈ l, 0 ≤ n ∧ n ≤ 99
  | [], l, h => by simp only [numsO, Option.some.injEq] at h; subst h; simp
  | w :: ws, l, h => by
    rw [numsO] at h
    split at h
    · rename_i n l h1 h2
      simp only [Option.some.injEq] at h; subst h
      obtain ⟨h3, h4⟩ := numsO_inv h2
      refine ⟨by simp [h3], fun m hm => ?_⟩
      rcases List.mem_cons.1 hm with rfl | hm
      · exact numO_bd h1
      · exact h4 m hm
    · cases h
theorem rowsO_inv : ∀ {ws : List (List UInt8)} {l : List Fg}, rowsO ws = some l → l.length = ws.length ∧ ∀ f ∈ l, ∃ r ∈ ws, rowO r = some f
  | [], l, h => by simp only [rowsO, Option.some.injEq] at h; subst h; simp
  | w :: ws, l, h => by
    rw [rowsO] at h
    split at h
    · rename_i n l h1 h2
      simp only [Option.some.injEq] at h; subst h
      obtain ⟨h3, h4⟩ := rowsO_inv h2
      refine ⟨by simp [h3], fun m hm => ?_⟩
      rcases List.mem_cons.1 hm with rfl | hm
      · exact ⟨w, by simp, h1⟩
      · obtain ⟨r, hr, h5⟩ := h4 m hm; exact ⟨r, by simp [hr], h5⟩
    · cases h
theorem parse0_td {s : List UInt8} {b : Bk} (h : parse0 s = some b) : TdB b := by
  unfold parse0 at h
  split at h
  · rename_i r0 rs hr
    split at h
    · cases h
    · split at h
      · rename_i w0 ws hw
        split at h
        · rename_i h6
          split at h
          · rename_i ns l hn hl
            simp only [Option.some.injEq] at h
            obtain ⟨n1, n2⟩ := numsO_inv hn
            obtain ⟨_, l2⟩ := rowsO_inv hl
            subst h
            rw [h6] at n1
            refine ⟨fun n hm => ?_, fun f hf => ?_⟩
            · obtain ⟨a1, a2, a3, a4, a5, a6, rfl⟩ := six n1
              exact n2 n hm
            · obtain ⟨r, hr1, hr2⟩ := l2 f hf
              have hr3 : r ∈ cut 10 s := by rw [hr]; exact List.mem_cons_of_mem _ (List.mem_of_mem_take hr1)
              unfold rowO at hr2
              split at hr2
              · rename_i hc
                simp only [Option.some.injEq] at hr2; subst hr2
                refine ⟨hc.1, fun w hw => ?_⟩
                have hw2 := List.mem_of_mem_drop hw
                exact ⟨fun e => hc.2 (e ▸ hw), fun hm => cut_not 10 s r hr3 (cut_in 32 r w hw2 10 hm), cut_not 32 r w hw2⟩
              · cases hr2
          · cases h
        · cases h
      · cases h
  · cases h
/-- **A text of which one digit was changed is no text.** -/
theorem spoilt {b : Bk} (ok : bkOK b = true) {k : Nat} (hk : k < (textB b).length) {c : UInt8} (hd : isD (textB b)[k] = true) (hc : isD c = true) (hne : (textB b)[k] ≠ c) : parseB ((textB b).set k c) = none := by
  have td := ok_td ok
  obtain ⟨hlp, hll⟩ := ok_lines ok
  cases hq : parseB ((textB b).set k c) with
  | none => rfl
  | some q =>
    exfalso
    unfold parseB at hq
    cases h0 : parse0 ((textB b).set k c) with
    | none => rw [h0] at hq; cases hq
    | some q' =>
      rw [h0] at hq
      simp only at hq
      split at hq
      · rename_i hs
        simp only [Option.some.injEq] at hq
        subst hq
        have tq := parse0_td h0
        have cp := seal_cut (lines_not td)
        have cq := seal_cut (lines_not tq)
        change cut 10 (textB b) = _ at cp
        change cut 10 (textB q') = _ at cq
        have h10 : (textB b)[k] ≠ 10 := fun e => by rw [e] at hd; revert hd; decide
        have c10 : c ≠ 10 := fun e => by rw [e] at hc; revert hc; decide
        obtain ⟨i, j, x, g1, g2, g3⟩ := cut_set c10 (textB b) k hk h10
        rw [← hs, cq, cp] at g3
        rw [cp] at g1
        have hj : j < x.length := (List.getElem?_eq_some_iff.1 g2).1
        have hxj : x.getD j 0 = (textB b)[k] := by rw [List.getD_eq_getElem?_getD, g2]; rfl
        have rp : 0 ≤ ctT (linesB b) (linesB b).length % 173 ∧ ctT (linesB b) (linesB b).length % 173 < 173 := by omega
        have rq : 0 ≤ ctT (linesB q') (linesB q').length % 173 ∧ ctT (linesB q') (linesB q').length % 173 < 173 := by omega
        have b1 := (isD_iff _).1 hd
        have b2 := (isD_iff _).1 hc
        rcases Nat.lt_trichotomy i (linesB b).length with hi | hi | hi
        · rw [List.set_append_left _ _ hi] at g3
          rw [List.getElem?_append_left hi] at g1
          obtain ⟨e1, e2⟩ := List.append_inj' g3 rfl
          have e2 := List.cons.inj e2 |>.1
          have e3 := endL_inj rq rp e2
          have hxm : x ∈ linesB b := List.mem_of_getElem? g1
          have hxl := hll x hxm
          have hxd : (linesB b).getD i [] = x := by rw [List.getD_eq_getElem?_getD, g1]; rfl
          rw [e1, List.length_set, ctT_set hi, if_pos hi, hxd, csL_set hj, hxj] at e3
          refine not173 (D := (c.toNat : Int) - ((textB b)[k]).toNat) (j := j) (i := i) ?_ (by omega) (by omega) (by omega) (by omega) (by omega)
          intro e
          exact hne (UInt8.toNat_inj.1 (by omega))
        · subst hi
          rw [List.set_append_right _ _ (Nat.le_refl _), Nat.sub_self] at g3
          rw [List.getElem?_append_right (Nat.le_refl _), Nat.sub_self] at g1
          obtain ⟨e1, e2⟩ := List.append_inj' g3 rfl
          simp only [List.getElem?_cons_zero, Option.some.injEq] at g1
          simp only [List.set_cons_zero, List.cons.injEq, and_true] at e2
          rw [e1, g1] at e2
          have := congrArg (fun l : List UInt8 => l[j]?) e2
          simp only [List.getElem?_set_self hj] at this
          rw [g2] at this
          exact hne (Option.some.inj this)
        · rw [List.getElem?_append_right (by omega)] at g1
          obtain ⟨d, hd'⟩ : ∃ d, i - (linesB b).length = d + 1 := ⟨i - (linesB b).length - 1, by omega⟩
          rw [hd'] at g1
          rcases d with _ | d
          · simp only [List.getElem?_cons_succ, List.getElem?_cons_zero, Option.some.injEq] at g1
            subst g1; simp at hj
          · simp at g1
      · cases hq
end Go.Proofs.YtmbknoaneglilaaGreatDoor
namespace Go.Proofs.YtmbknoaneglilaaGreatDoor
open Go Go.Ab Ni Ol
theorem en58 : Ent Tryz.prog 58 := Ent.of Tryz.func58 (by kernel_rfl) rfl
theorem fieldsOf_st {P : Program} {t : TypeId} {fs : Array Field} (h : P.underlying t = some (.struct fs)) : P.fieldsOf t = fs := by unfold Program.fieldsOf; rw [h]
abbrev stVals (x : Sg) : Array Value := #[.int .i64 x.wide, .int .i64 x.high, .int .i64 x.far, .int .i64 x.flame, .int .i64 x.x, .int .i64 x.y]
theorem stEq (a b : Sg) (w : World) : (Op.equalIn 10000 23 (.agg (stVals a)) (.agg (stVals b))).run Tryz.prog w = .ok (decide (a = b)) w := by
  have h3 : Tryz.prog.underlying 3 = some (.int .i64) := Tryz.underlying3
  rw [run_equalIn_struct w 9999 23 _ _ (by rw [fieldsOf_st Tryz.underlying23]; exact Tryz.underlying23) (by kernel_rfl), fieldsOf_st Tryz.underlying23]
  have q0 : ∀ (x : Sg) (w : World), (part 3 (stVals x) 0).run Tryz.prog w = .ok (.int .i64 x.wide) w := fun x w => by simp [part, Tryz.isAgg3]
  have q1 : ∀ (x : Sg) (w : World), (part 3 (stVals x) 1).run Tryz.prog w = .ok (.int .i64 x.high) w := fun x w => by simp [part, Tryz.isAgg3]
  have q2 : ∀ (x : Sg) (w : World), (part 3 (stVals x) 2).run Tryz.prog w = .ok (.int .i64 x.far) w := fun x w => by simp [part, Tryz.isAgg3]
  have q3 : ∀ (x : Sg) (w : World), (part 3 (stVals x) 3).run Tryz.prog w = .ok (.int .i64 x.flame) w := fun x w => by simp [part, Tryz.isAgg3]
  have q4 : ∀ (x : Sg) (w : World), (part 3 (stVals x) 4).run Tryz.prog w = .ok (.int .i64 x.x) w := fun x w => by simp [part, Tryz.isAgg3]
  have q5 : ∀ (x : Sg) (w : World), (part 3 (stVals x) 5).run Tryz.prog w = .ok (.int .i64 x.y) w := fun x w => by simp [part, Tryz.isAgg3]
  simp [Op.eqFields, q0, q1, q2, q3, q4, q5, run_equalIn_int _ _ _ _ _ _ _ h3]
  obtain ⟨a1, a2, a3, a4, a5, a6⟩ := a
  obtain ⟨b1, b2, b3, b4, b5, b6⟩ := b
  simp only [Sg.mk.injEq]
  by_cases e1 : a1 = b1 <;> by_cases e2 : a2 = b2 <;> by_cases e3 : a3 = b3 <;> by_cases e4 : a4 = b4 <;> by_cases e5 : a5 = b5 <;> by_cases e6 : a6 = b6 <;> simp [e1, e2, e3, e4, e5, e6]
structure Rz where
  fig : Int
  p : Pc
  deriving DecidableEq
section
variable {r : Option Nat} {H : List AObj} {ρ : Operand → AV} {d : Option Tmp} {t : TypeId} {p : String} {af : Array Edge} {g : Option (Nat × Bool)} {x y : Operand} {yt : TypeId}
theorem ev_st_neq {a b : Sg} (hx : Less (ρ x) (stA a)) (hy : Less (ρ y) (stA b)) : Ev Tryz.prog r ⟨d, .binOp .neq 23 x y yt, t, p, af, g⟩ H ρ (B (!decide (a = b))) :=
  ev_neq_agg (by kernel_rfl) (stEq a b) (Less.trans hx (less_agg_raw (vs := [.int .i64 a.wide, .int .i64 a.high, .int .i64 a.far, .int .i64 a.flame, .int .i64 a.x, .int .i64 a.y]) rfl)) (Less.trans hy (less_agg_raw (vs := [.int .i64 b.wide, .int .i64 b.high, .int .i64 b.far, .int .i64 b.flame, .int .i64 b.x, .int .i64 b.y]) rfl))
end
theorem bk_eq {a b : Bk} : a = b ↔ a.s = b.s ∧ a.l = b.l := by cases a; cases b; simp only [Bk.mk.injEq]
theorem rbooks_pure (a b : Bk) (ha : a.l.length ≤ 1000000 ∧ ∀ f ∈ a.l, f.length ≤ 1000000) (hb : b.l.length ≤ 1000000 ∧ ∀ f ∈ b.l, f.length ≤ 1000000) : APure Tryz.prog 58 [bkA a, bkA b] (B (decide (a = b))) := by
 refine apure_of (rs := [.tmp 4]) Tryz.func58 rfl rfl (Nat.le_of_ble_eq_true rfl) (by simp [AV.pureL, AV.pureB, AV.pureE, pureE_map]) (by first | rfl | (simp [AV.pureL, AV.pureB, AV.pureE, pureE_map])) fun e0 he0 => ?_
 refine aw_seq (aw_region (sq_box rfl J rfl ?_))
 refine sq_box rfl J rfl (asr J rfl (sq_nil (aw_seq (aw_seq (aw_region (sq_ev rfl (ev_fieldAddr fo81_0 J) ?_))))))
 refine sq_ev rfl (ev_load_agg J rfl ty23 rfl) ?_
 refine sq_ev rfl (ev_fieldAddr fo81_0 J) ?_
 refine sq_ev rfl (ev_load_agg J rfl ty23 rfl) ?_
 refine sq_ev rfl (ev_st_neq (a := a.s) (b := b.s) J J) ?_
 refine mvr J rfl ?_
 refine sq_split 11 J (fun g1_5 => ?_) (fun g1_5 => ?_)
 ·
  have g1_5' := g1_5
  try simp only [qq] at g1_5'
  refine sq_no rfl rfl (less_b g1_5) rfl rfl ?_
  refine sq_no rfl rfl (less_b g1_5) rfl rfl ?_
  refine sq_no rfl rfl (less_b g1_5) rfl rfl ?_
  refine sq_no rfl rfl (less_b g1_5) rfl rfl ?_
  refine sq_no rfl rfl (less_b g1_5) rfl rfl ?_
  refine sq_no rfl rfl (less_b g1_5) rfl rfl ?_
  refine sq_no rfl rfl (less_b g1_5) rfl rfl ?_
  refine sq_ev rfl (ev_pickT (v := .raw _) (less_b g1_5) J) ?_
  refine sq_nil ?_
  refine aw_true J ?_
  refine aw_seq (aw_region (asr J rfl (sq_nil (aw_ret ?_))))
  exact retQ_pure (v := .raw _) rfl rfl (Less.eq (by rw [decide_eq_false (fun h => by subst h; simp at g1_5')]))
 have g1_5' := g1_5
 try simp only [qq] at g1_5'
 have hst : a.s = b.s := by first | exact g1_5' | simpa using g1_5
 refine sq_yes rfl rfl (less_b g1_5) rfl (ev_fieldAddr fo81_1 J) ?_
 refine sq_yes rfl rfl (less_b g1_5) rfl (ev_load J rfl ty45 rfl) ?_
 refine sq_yes rfl rfl (less_b g1_5) rfl (ev_len_map sl45 J) ?_
 refine sq_yes rfl rfl (less_b g1_5) rfl (ev_fieldAddr fo81_1 J) ?_
 refine sq_yes rfl rfl (less_b g1_5) rfl (ev_load J rfl ty45 rfl) ?_
 refine sq_yes rfl rfl (less_b g1_5) rfl (ev_len_map sl45 J) ?_
 refine sq_yes rfl rfl (less_b g1_5) rfl (ev_neq J J) ?_
 refine sq_ev rfl (ev_pickF (v := .raw _) (less_b g1_5) J) ?_
 refine sq_nil ?_
 refine aw_cond J (fun c_19 => ?_) (fun c_19 => ?_)
 ·
  have c_19' := c_19
  try simp only [qq] at c_19'
  refine aw_seq (aw_region (asr J rfl (sq_nil (aw_ret ?_))))
  exact retQ_pure (v := .raw _) rfl rfl (Less.eq (by rw [decide_eq_false (fun h => by subst h; simp at c_19')]))
 have c_19' := c_19
 try simp only [qq] at c_19'
 have hlen : a.l.length = b.l.length := by omega
 refine aw_skip (aw_seq (aw_seq (aw_region (asr J rfl (sq_nil (aw_block ?_))))))
 refine aw_loopk (ι := { k : Nat // k ≤ a.l.length ∧ ∀ i, (h1 : i < a.l.length) → (h2 : i < b.l.length) → i < k → a.l[i] = b.l[i] }) [2, 3] (fun g => [(5, I g.1)]) (fun H g => H) (fun g => a.l.length - g.1) (⟨0, Nat.zero_le _, by omega⟩) ⟨J, J, J, trivial⟩ rfl ?_
 rintro ⟨k, hk, hok⟩
 dsimp only [keepS, St.put, sget, slotsOf, nn1, nn2, nn3, nn4, nn5, nn6, Nat.reduceBEq, Nat.reduceAdd, nn7, nn8]
 refine aw_seq (aw_seq (aw_region (mvr J rfl (sq_ev rfl (ev_fieldAddr fo81_1 J) ?_))))
 refine sq_ev rfl (ev_load J rfl ty45 rfl) ?_
 refine sq_ev rfl (ev_len_map sl45 J) ?_
 refine sq_ev rfl (ev_lss J J) ?_
 refine sq_nil ?_
 refine aw_cond J (fun c_24 => ?_) (fun c_24 => ?_)
 ·
  have c_24' := c_24
  try simp only [qq] at c_24'
  have hkL : k < a.l.length := by omega
  refine aw_skip (aw_seq (aw_block (aw_seq ?_)))
  refine aw_draw 14 mo (by kernel_rfl) ?_
  refine dr_ev rfl (ev_fieldAddr fo81_1 J) ?_
  refine dr_ev rfl (ev_load J rfl ty45 rfl) ?_
  refine dr_ev rfl (ev_mv (v := .raw _) J) ?_
  refine dr_ev rfl (ev_index_map sl45 J J rfl (by omega)) ?_
  refine dr_ev rfl (ev_fieldAddr_i fo26_0 J) ?_
  refine dr_ev rfl (ev_load_i J ty24 rfl) ?_
  refine dr_ev rfl (ev_fieldAddr fo81_1 J) ?_
  refine dr_ev rfl (ev_load J rfl ty45 rfl) ?_
  refine dr_ev rfl (ev_mv (v := .raw _) J) ?_
  refine dr_ev rfl (ev_index_map sl45 J J rfl (by omega)) ?_
  refine dr_ev rfl (ev_fieldAddr_i fo26_0 J) ?_
  refine dr_ev rfl (ev_load_i J ty24 rfl) ?_
  refine dr_ev rfl (ev_call en77 J (samec_pure _ _ (ha.2 _ (List.getElem_mem hkL)) (hb.2 _ (List.getElem_mem (by omega)))) ⟨J, J, trivial⟩) ?_
  refine dr_ev rfl (ev_not J) ?_
  refine dr_end (sq_nil ?_)
  refine aw_cond J (fun c_40 => ?_) (fun c_40 => ?_)
  ·
   have c_40' := c_40
   try simp only [qq] at c_40'
   refine aw_seq (aw_region (asr J rfl (sq_nil (aw_ret ?_))))
   exact retQ_pure (v := .raw _) rfl rfl (Less.eq (by rw [decide_eq_false (fun h => by subst h; simp at c_40')]))
  have c_40' := c_40
  try simp only [qq] at c_40'
  refine aw_skip (aw_region (mvr J rfl (sq_ev rfl (ev_add J J (wr (by omega) (by omega))) ?_)))
  refine asr J rfl (sq_nil ?_)
  exact ⟨⟨k + 1, by omega, fun i h1 h2 h => (by by_cases e : i = k; (subst e; simpa using c_40'); exact hok i h1 h2 (by omega))⟩, by simp only; omega, Sub.slots ⟨J, J, J, trivial⟩⟩
 have c_24' := c_24
 try simp only [qq] at c_24'
 have heq : a = b := bk_eq.2 ⟨hst, same_ext hlen fun i h1 h2 => hok i h1 h2 (by omega)⟩
 refine aw_exit (aw_seq (aw_region (asr J rfl (sq_nil (aw_ret ?_)))))
 exact retQ_pure (v := .raw _) rfl rfl (Less.eq (by rw [decide_eq_true heq]))
end Go.Proofs.YtmbknoaneglilaaGreatDoor
namespace Go.Proofs.YtmbknoaneglilaaGreatDoor
open Go Go.Ab Ni Ol
theorem en54 : Ent Tryz.prog 54 := Ent.of Tryz.func54 (by kernel_rfl) rfl
theorem en55 : Ent Tryz.prog 55 := Ent.of Tryz.func55 (by kernel_rfl) rfl
section
variable [Tabs]
def markO (et : TypeId) (cs : Array Value) : Obj := .cells cs et (cs.size, cs.size + 1)
def setMark (e : Env) (i b : Nat) (et : TypeId) (cs : Array Value) : Env := { e with H := e.H.set i (.raw (markO et cs)), w := e.w.setRow b cs }
theorem setMark_T {e : Env} {i b : Nat} {et : TypeId} {o : Obj} {cs : Array Value} (h : e.H[i]? = some (.raw o)) (j : Nat) : (setMark e i b et cs).T j = e.T j := by
  unfold Env.T setMark
  by_cases hj : i = j
  · subst hj
    simp only [List.getElem?_set_self (lt_of_get? h), h, tokOf]
  · simp only [List.getElem?_set_ne hj]
theorem setMark_le {e : Env} (ok : EnvOK e) {i b : Nat} {et : TypeId} {o : Obj} {cs : Array Value} (h : e.H[i]? = some (.raw o)) (hb : e.μ i = some b) (hg : e.G b = 0) : e.Le (setMark e i b et cs) := by
  have hi := lt_of_get? h
  refine ⟨by simp [setMark], fun j _ ht => ⟨by rw [setMark_T h]; exact ht, fun _ hb => hb⟩, fun b' off ho => ⟨ho, ?_⟩, fun j n ht => ⟨n, by rw [setMark_T h]; exact ht, Nat.le_refl _, fun _ => ⟨rfl, fun b' cs' t hm hh => ⟨rfl, cs', ?_, rfl⟩⟩⟩⟩
  · have hne : b' ≠ b := fun e1 => by subst e1; rw [hg] at ho; omega
    exact cell?_of_heap (setRow_other _ _ _ _ hne)
  · have hj : j < e.H.length := by
      rcases Nat.lt_or_ge j e.H.length with k | k
      · exact k
      · unfold Env.T at ht; rw [List.getElem?_eq_none k] at ht; simp [tokOf] at ht
    have hne : b' ≠ b := fun e1 => by
      subst e1
      have := ok.inj i j b' hi hj hb hm
      subst this
      unfold Env.T at ht; rw [h] at ht; simp [tokOf] at ht
    exact (setRow_other _ _ _ _ hne).trans hh
section seq
variable {c : Ctx} {ops : Array Oper} {Q : AExit → St → Prop} {rest : List Oper} {s : St} {i : Nat}
variable {d : Option Tmp} {t : TypeId} {p : String} {af : Array Edge}
theorem setMark_sim {e : Env} {a : Act} (hs : Sim c s e a) {i b : Nat} {et : TypeId} {cs cs0 : Array Value} (h : s.H[i]? = some (.raw (markO et cs0))) (hb : e.μ i = some b) (hg : e.G b = 0)
    (hh : e.w.heap[b]? = some (markO et cs0)) (hsz : cs.size = cs0.size) : Sim c { s with H := s.H.set i (.raw (markO et cs)) } (setMark e i b et cs) a := by
  have h' : e.H[i]? = some (.raw (markO et cs0)) := by rw [hs.H]; exact h
  have hi := lt_of_get? h'
  have le := setMark_le hs.ok (et := et) (cs := cs) h' hb hg
  have hnew : (e.w.setRow b cs).heap[b]? = some (markO et cs) := by
    have := setRow_heap e.w b _ cs _ _ hh
    rw [this, markO, hsz]
  refine ⟨hs.size, fun t => Rep.mono le _ (hs.slots t), hs.defers.mono le, by simp [setMark, hs.H], ⟨fun b' hb' => hs.ok.fresh b' (by simpa [setMark] using hb'), fun j o ho => ?_, fun j k b' hj hk => hs.ok.inj j k b' (by simpa [setMark] using hj) (by simpa [setMark] using hk), fun j b' hj hm => by
    have := hs.ok.live j b' (by simpa [setMark] using hj) hm; simpa [setMark] using this,
    hs.ok.tabs.of (by simp [setMark]) (fun b' _ hn => setRow_other _ _ _ _ fun e1 => by subst e1; exact hn i hi hb) fun j b' hj hm => .inr ⟨j, by simpa [setMark] using hj, hm⟩⟩, ⟨by simpa [setMark] using hs.fr.size, hs.fr.still.trans ⟨rfl, rfl⟩, fun b' hb' hn => ?_, fun j b' hj hm => hs.fr.objs j b' (by simpa [setMark] using hj) hm, hs.fr.le.trans le⟩⟩
  · by_cases hj : i = j
    · subst hj
      simp only [setMark, List.getElem?_set_self hi, Option.some.injEq] at ho
      subst ho
      exact ⟨b, hb, hnew, hg⟩
    · simp only [setMark, List.getElem?_set_ne hj] at ho
      refine ObjSim.mono le (hs.ok.objs j o ho) rfl (fun b' hb' => ⟨setRow_other _ _ _ _ ?_, rfl⟩)
      intro e1; subst e1
      exact hj (hs.ok.inj i j b' hi (lt_of_get? ho) hb hb')
  · obtain ⟨h2, h3⟩ := hs.fr.heap b' hb' hn
    have hne : b' ≠ b := fun e1 => by
      subst e1
      rcases hs.fr.objs i b' hi hb with h4 | ⟨j, hj, h4⟩
      · omega
      · exact hn j hj h4
    exact ⟨(setRow_other _ _ _ _ hne).trans h2, h3⟩
theorem sq_bytes {src dst et : TypeId} {x : Operand} {b : ByteArray} (hd : dOK c.nt d = true) (hsr : c.P.underlying src = some .string) (hds : c.P.underlying dst = some (.slice et)) (he : c.P.underlying et = some (.int .u8))
    (hx : Less (s.op x) (.raw (.string b)))
    (k : ∀ cap, b.size ≤ cap → SeqWP c ops Q (i + 1) rest (St.put { s with H := s.H ++ [.raw (markO et (bytesRow b cap))] } d (.msl s.H.length 0 b.size cap))) :
    SeqWP c ops Q i (⟨d, .convert src dst x, t, p, af, none⟩ :: rest) s := by
  refine sq_op fun e ac hs next hn' => ?_
  have hv := hx e _ (hs.op x)
  rw [Rep] at hv
  have hrun := run_bytes_of_string (P := c.P) e.w src dst et b hsr hds he
  have hle := grownCap_ge e.w b.size 0 et
  generalize grownCap e.w b.size 0 et = cap at hrun hle
  have hs1 := hs.ext (EnvOK.drew hs.ok)
  have hs2 := hs1.push (push_raw hs1.ok (markO et (bytesRow b cap)))
  refine ⟨about_FW _ _ _ _ _, ?_⟩
  show Oper.uponIn (FW c.r) 0 c.P _ ac next (lift c Q) (((Oper.semAt c.r ac.eval ⟨d, .convert src dst x, t, p, af, none⟩)).run c.P e.w)
  rw [semAt_of (by intro c h; cases h)]
  have : (execOp ac.eval ⟨d, .convert src dst x, t, p, af, none⟩).run c.P e.w = .ok (.value (.slice (some ⟨e.w.heap.size, 0, none⟩) b.size cap)) (e.w.drew.alloc (markO et (bytesRow b cap))) := by
    simp [execOp, hv, hrun, Result.andThen, markO]
  rw [this]
  refine hn' _ _ _ (k cap hle) (hs2.put hd ?_)
  rw [Rep]
  refine ⟨?_, ?_, e.w.heap.size, ?_, rfl, hle⟩
  · simp [Env.push, hs.H]
  · simp [Env.T, Env.push, hs.H, tokOf]
  · simp [Env.push, hs.H]
theorem sq_store_mark {st et : TypeId} {x y : Operand} {j off : Nat} {bb : Bool} {v : Value} {cs : Array Value} (hd : dOK c.nt d = true)
    (hx : Less (s.op x) (.ptr j off)) (hy : Less (s.op y) (.raw v)) (hj : s.H[j]? = some (.raw (markO et cs))) (ht : tySz c.P st = some (bb, 1)) (hvc : v.cells = #[v]) (hv1 : isCell v = true) (hle : off < cs.size)
    (k : SeqWP c ops Q (i + 1) rest (St.put { s with H := s.H.set j (.raw (markO et (cs.setIfInBounds off v))) } d .any)) : SeqWP c ops Q i (⟨d, .store st x y, t, p, af, none⟩ :: rest) s := by
  refine sq_op fun e ac hs next hn' => ?_
  have hyv := hy e _ (hs.op y)
  rw [Rep] at hyv
  have hp := hx e _ (hs.op x)
  rw [Rep] at hp
  obtain ⟨a1, a2, b, hb, hpv⟩ := hp
  obtain ⟨b', k1, k2, k3⟩ := hs.ok.objs j _ (by rw [hs.H]; exact hj)
  rw [hb] at k1; cases k1
  have h2 := (run_tyAgg (w := e.w) ht).2
  have h3 := run_storeCells_cells (P := c.P) b off [v] 0 e.w (fun m hm => by
      have : m = 0 := by simpa using hm
      subst this
      unfold World.cell?; simp only [k2, markO]; simp [hle]) (fun m hm => by
      have : m = 0 := by simpa using hm
      subst this
      unfold World.frozen?; simp only [k2, markO]; simp; omega) (fun u hu => by
      have : u = v := by simpa using hu
      subst this; exact hv1)
  simp only [Nat.add_zero] at h3
  have h4 : e.w.setCells b off [v] = e.w.setRow b (cs.setIfInBounds off v) := by
    simp only [World.setCells]
    exact setCell_eq_setRow e.w b off cs et _ v k2
  have hrun : (storeVar st ⟨b, off, none⟩ v).run c.P e.w = .ok () (e.w.setRow b (cs.setIfInBounds off v)) := by
    simp [storeVar, h2, hvc, h3, h4]
  have hsim := setMark_sim hs (cs := cs.setIfInBounds off v) hj hb k3 k2 (by simp)
  refine ⟨about_FW _ _ _ _ _, ?_⟩
  show Oper.uponIn (FW c.r) 0 c.P _ ac next (lift c Q) (((Oper.semAt c.r ac.eval ⟨d, .store st x y, t, p, af, none⟩)).run c.P e.w)
  rw [semAt_of (by intro c h; cases h)]
  have : (execOp ac.eval ⟨d, .store st x y, t, p, af, none⟩).run c.P e.w = .ok .skip (e.w.setRow b (cs.setIfInBounds off v)) := by
    simp [execOp, Instr.storeAt, hpv, Instr.sureAddr, hyv, hrun]
  rw [this]
  exact hn' _ _ _ k (hsim.put hd (by rw [Rep]; trivial))
end seq
section ev
variable {P : Program} {r : Option Nat} {H : List AObj} {ρ : Operand → AV}
variable {d : Option Tmp} {t : TypeId} {p : String} {af : Array Edge} {g : Option (Nat × Bool)}
theorem ev_string_mark {src dst et : TypeId} {x : Operand} {j cap : Nat} {cs : Array Value} {l : List UInt8} (hsr : P.underlying src = some (.slice et)) (he : P.underlying et = some (.int .u8)) (hds : P.underlying dst = some .string)
    (hx : Less (ρ x) (.msl j 0 l.length cap)) (hj : H[j]? = some (.raw (markO et cs))) (hc : ∀ m (h : m < l.length), cs[m]? = some (.int .u8 (l[m].toNat : Int))) :
    Ev P r ⟨d, .convert src dst x, t, p, af, g⟩ H ρ (.raw (.string ⟨l.toArray⟩)) :=
  Ev.pure (by intro c h; cases h) fun e ρc ok hE hs => by
    have hp := hx e _ (hs x (by simp [Op.operands]))
    rw [Rep] at hp
    obtain ⟨a1, a2, b, hb, hpv, _⟩ := hp
    obtain ⟨b', k1, k2, k3⟩ := ok.objs j _ (hE j _ hj (fun n e => by cases e))
    rw [hb] at k1; cases k1
    have hrun := run_convert_bytes_back (P := P) e.w src dst et ⟨b, 0, none⟩ cap l hsr he hds (fun m hm => by
      rw [Addr.add_lit]
      unfold World.cell?; simp only [k2, markO]
      simpa using hc m hm)
    refine ⟨.string ⟨l.toArray⟩, ?_, by rw [Rep]⟩
    simp [execOp, hpv, hrun]
end ev
end
theorem less_mslx {i o n m c : Nat} (h : n = m) : Less (.msl i o n c) (.msl i o m c) := by subst h; exact J
theorem bytesRow_size (s : List UInt8) (cap : Nat) : (bytesRow ⟨s.toArray⟩ cap).size = s.length + (cap - s.length) := by
  simp [bytesRow, ByteArray.size]
theorem mark_at {s : List UInt8} {cap k : Nat} {c : UInt8} {v : Int} (hv : v = (c.toNat : Int)) : ∀ m (h : m < (s.set k c).length), ((bytesRow ⟨s.toArray⟩ cap).setIfInBounds k (.int .u8 v))[m]? = some (.int .u8 ((s.set k c)[m].toNat : Int)) := fun m h => by
  have hm : m < s.length := by simpa using h
  have h0 := bytesRow_at ⟨s.toArray⟩ cap m (by simpa using hm)
  rw [Array.getElem?_setIfInBounds, List.getElem_set]
  by_cases e : k = m
  · subst e
    rw [if_pos rfl, if_pos rfl, if_pos (by rw [bytesRow_size]; omega), hv]
  · rw [if_neg e, if_neg e, h0]; simp
theorem digit_c {v : Int} (h : 48 ≤ v ∧ v ≤ 57) : isD (UInt8.ofNat v.toNat) = true ∧ ((UInt8.ofNat v.toNat).toNat : Int) = v := by
  have e : (UInt8.ofNat v.toNat).toNat = v.toNat := by rw [UInt8.toNat_ofNat']; omega
  refine ⟨(isD_iff _).2 (by omega), by omega⟩
theorem spoilt_gate (b : Bk) (k d : Int) (hg : (fewB b.l && (bkOK b && decide (0 ≤ d ∧ d ≤ 9))) = false) : APure Tryz.prog 12 [bkA b, I k, I d] (B true) := by
  refine apure_of (rs := [.tmp 6]) Tryz.func12 rfl rfl (Nat.le_of_ble_eq_true rfl) (by simp [AV.pureL, AV.pureB, AV.pureE, pureE_map]) (by first | rfl | (simp [AV.pureL, AV.pureB, AV.pureE, pureE_map])) fun e0 he0 => ?_
  refine aw_seq (aw_region ?_)
  refine sq_box rfl J rfl (asr J rfl (sq_nil (aw_seq (aw_seq (aw_region (sq_ev rfl (ev_fieldAddr fo81_1 J) ?_))))))
  refine sq_ev rfl (ev_load J rfl ty45 rfl) ?_
  refine sq_ev rfl (ev_call en34 J (few_pure b.l) ⟨J, trivial⟩) ?_
  refine sq_ev rfl (ev_not J) ?_
  refine mvr J rfl ?_
  refine sq_split 16 J (fun g1_4 => ?_) (fun g1_4 => ?_)
  · skip
    have g1_4' := g1_4
    try simp only [qq] at g1_4'
    refine sq_no rfl rfl (less_b g1_4) rfl rfl ?_
    refine sq_no rfl rfl (less_b g1_4) rfl rfl ?_
    refine sq_no rfl rfl (less_b g1_4) rfl rfl ?_
    refine sq_ev rfl (ev_pickT (v := .raw _) (less_b g1_4) J) ?_
    refine mvr J rfl (sq_no rfl rfl J rfl rfl (sq_no rfl rfl J rfl rfl (sq_ev rfl (ev_pickT (v := .raw _) J J) ?_)))
    refine mvr J rfl (sq_no rfl rfl J rfl rfl (sq_no rfl rfl J rfl rfl (sq_ev rfl (ev_pickT (v := .raw _) J J) ?_)))
    refine sq_nil ?_
    refine aw_true J ?_
    refine aw_seq (aw_region (sq_ev rfl (ev_call en27 J (known_pure) trivial) ?_))
    refine asr J rfl (sq_nil (aw_ret ?_))
    exact retQ_pure (v := .raw _) rfl rfl J
  · skip
    have g1_4' := g1_4
    try simp only [qq] at g1_4'
    refine sq_yes rfl rfl (less_b g1_4) rfl (ev_load_agg J rfl ty81 rfl) ?_
    refine sq_yes rfl rfl (less_b g1_4) rfl (ev_call en55 J (rbook_pure b) ⟨J, trivial⟩) ?_
    refine sq_yes rfl rfl (less_b g1_4) rfl (ev_not J) ?_
    refine sq_ev rfl (ev_pickF (v := .raw _) (less_b g1_4) J) ?_
    refine mvr J rfl ?_
    refine sq_split 21 J (fun g1_9 => ?_) (fun g1_9 => ?_)
    · skip
      have g1_9' := g1_9
      try simp only [qq] at g1_9'
      refine sq_no rfl rfl (less_b g1_9) rfl rfl ?_
      refine sq_no rfl rfl (less_b g1_9) rfl rfl ?_
      refine sq_ev rfl (ev_pickT (v := .raw _) (less_b g1_9) J) ?_
      refine mvr J rfl (sq_no rfl rfl J rfl rfl (sq_no rfl rfl J rfl rfl (sq_ev rfl (ev_pickT (v := .raw _) J J) ?_)))
      refine sq_nil ?_
      refine aw_true J ?_
      refine aw_seq (aw_region (sq_ev rfl (ev_call en27 J (known_pure) trivial) ?_))
      refine asr J rfl (sq_nil (aw_ret ?_))
      exact retQ_pure (v := .raw _) rfl rfl J
    · skip
      have g1_9' := g1_9
      try simp only [qq] at g1_9'
      refine sq_yes rfl rfl (less_b g1_9) rfl (ev_mv (v := .raw _) J) ?_
      refine sq_yes rfl rfl (less_b g1_9) rfl (ev_lss J J) ?_
      refine sq_ev rfl (ev_pickF (v := .raw _) (less_b g1_9) J) ?_
      refine mvr J rfl ?_
      refine sq_split 25 J (fun g1_13 => ?_) (fun g1_13 => ?_)
      · skip
        have g1_13' := g1_13
        try simp only [qq] at g1_13'
        refine sq_no rfl rfl (less_b g1_13) rfl rfl ?_
        refine sq_no rfl rfl (less_b g1_13) rfl rfl ?_
        refine sq_ev rfl (ev_pickT (v := .raw _) (less_b g1_13) J) ?_
        refine sq_nil ?_
        refine aw_true J ?_
        refine aw_seq (aw_region (sq_ev rfl (ev_call en27 J (known_pure) trivial) ?_))
        refine asr J rfl (sq_nil (aw_ret ?_))
        exact retQ_pure (v := .raw _) rfl rfl J
      · skip
        have g1_13' := g1_13
        try simp only [qq] at g1_13'
        refine sq_yes rfl rfl (less_b g1_13) rfl (ev_mv (v := .raw _) J) ?_
        refine sq_yes rfl rfl (less_b g1_13) rfl (ev_gtr J J) ?_
        refine sq_ev rfl (ev_pickF (v := .raw _) (less_b g1_13) J) ?_
        refine sq_nil ?_
        refine aw_cond J (fun c_28 => ?_) (fun c_28 => ?_)
        · skip
          have c_28' := c_28
          try simp only [qq] at c_28'
          refine aw_seq (aw_region (sq_ev rfl (ev_call en27 J (known_pure) trivial) ?_))
          refine asr J rfl (sq_nil (aw_ret ?_))
          exact retQ_pure (v := .raw _) rfl rfl J
        · skip
          have c_28' := c_28
          try simp only [qq] at c_28'
          first | (exfalso; simp_all; done) | (exfalso; simp_all; omega)
theorem spoilt_rng (b : Bk) (k d : Int) (k34 : APure Tryz.prog 34 [figs b.l] (B true)) (k54 : APure Tryz.prog 54 [bkA b] (.tup [S (textB b), I 0])) (k55 : APure Tryz.prog 55 [bkA b] (B true)) (hd : 0 ≤ d ∧ d ≤ 9) (hl : (textB b).length ≤ 400) (ho : ¬ (0 ≤ k ∧ k < ((textB b).length : Int))) : APure Tryz.prog 12 [bkA b, I k, I d] (B true) := by
 refine apure_of (rs := [.tmp 6]) Tryz.func12 rfl rfl (Nat.le_of_ble_eq_true rfl) (by simp [AV.pureL, AV.pureB, AV.pureE, pureE_map]) (by first | rfl | (simp [AV.pureL, AV.pureB, AV.pureE, pureE_map])) fun e0 he0 => ?_
 refine aw_seq (aw_region ?_)
 refine sq_box rfl J rfl (asr J rfl (sq_nil (aw_seq (aw_seq (aw_region (sq_ev rfl (ev_fieldAddr fo81_1 J) ?_))))))
 refine sq_ev rfl (ev_load J rfl ty45 rfl) ?_
 refine sq_ev rfl (ev_call en34 J (k34) ⟨J, trivial⟩) ?_
 refine sq_ev rfl (ev_not J) ?_
 refine mvr J rfl (sq_yes rfl rfl J rfl (ev_load_agg J rfl ty81 rfl) ?_)
 refine sq_yes rfl rfl J rfl (ev_call en55 J (k55) ⟨J, trivial⟩) ?_
 refine sq_yes rfl rfl J rfl (ev_not J) ?_
 refine pf rfl J J (mvr J rfl (ymr rfl rfl J rfl J (sq_yes rfl rfl J rfl (ev_lss J J) ?_)))
 refine pf rfl J J (mvr J rfl ?_)
 refine sq_split 25 J (fun g1_13 => ?_) (fun g1_13 => ?_)
 ·
  have g1_13' := of_decide_eq_true g1_13
  exfalso; omega
 have g1_13' := of_decide_eq_false g1_13
 refine sq_yes rfl rfl (less_b g1_13) rfl (ev_mv (v := .raw _) J) ?_
 refine sq_yes rfl rfl (less_b g1_13) rfl (ev_gtr J J) ?_
 refine sq_ev rfl (ev_pickF (v := .raw _) (less_b g1_13) J) ?_
 refine sq_nil ?_
 refine aw_cond J (fun c_28 => ?_) (fun c_28 => ?_)
 ·
  have c_28' := of_decide_eq_true c_28
  exfalso; omega
 have c_28' := of_decide_eq_false c_28
 refine aw_skip (aw_seq (aw_region (sq_ev rfl (ev_load_agg J rfl ty81 rfl) ?_)))
 refine sq_ev rfl (ev_call en54 J (k54) ⟨J, trivial⟩) ?_
 refine sq_ev rfl (ev_mv (v := .tup _) J) ?_
 refine xtr rfl J rfl (xtr rfl J rfl (asr J rfl ?_))
 refine asr J rfl (sq_nil (aw_seq (aw_seq (aw_region (mvr J rfl (sq_ev rfl (ev_neq J J) ?_))))))
 refine sq_nil ?_
 refine aw_false J ?_
 refine aw_skip (aw_seq (aw_seq (aw_region (mvr J rfl (sq_ev rfl (ev_lss J J) ?_)))))
 refine mvr J rfl ?_
 refine sq_split 39 J (fun g6_2 => ?_) (fun g6_2 => ?_)
 ·
  have g6_2' := of_decide_eq_true g6_2
  refine sq_no rfl rfl (less_b g6_2) rfl rfl ?_
  refine sq_no rfl rfl (less_b g6_2) rfl rfl ?_
  refine sq_no rfl rfl (less_b g6_2) rfl rfl ?_
  refine sq_no rfl rfl (less_b g6_2) rfl rfl ?_
  refine sq_ev rfl (ev_pickT (v := .raw _) (less_b g6_2) J) ?_
  refine mvr J rfl (sq_no rfl rfl J rfl rfl (sq_no rfl rfl J rfl rfl (sq_no rfl rfl J rfl rfl (sq_no rfl rfl J rfl rfl (sq_ev rfl (ev_pickT (v := .raw _) J J) ?_)))))
  refine mvr J rfl (sq_no rfl rfl J rfl rfl (sq_no rfl rfl J rfl rfl (sq_no rfl rfl J rfl rfl (sq_no rfl rfl J rfl rfl (sq_ev rfl (ev_pickT (v := .raw _) J J) ?_)))))
  refine mvr J rfl (sq_no rfl rfl J rfl rfl ?_)
  refine sq_no rfl rfl J rfl rfl (sq_no rfl rfl J rfl rfl (sq_no rfl rfl J rfl rfl (sq_no rfl rfl J rfl rfl (sq_no rfl rfl J rfl rfl (sq_no rfl rfl J rfl rfl (sq_ev rfl (ev_pickT (v := .raw _) J J) ?_))))))
  refine sq_nil ?_
  refine aw_true J ?_
  refine aw_seq (aw_region (sq_ev rfl (ev_call en27 J (known_pure) trivial) ?_))
  refine asr J rfl (sq_nil (aw_ret ?_))
  exact retQ_pure (v := .raw _) rfl rfl J
 have g6_2' := of_decide_eq_false g6_2
 refine sq_yes rfl rfl (less_b g6_2) rfl (ev_mv (v := .raw _) J) ?_
 refine sq_yes rfl rfl (less_b g6_2) rfl (ev_mv (v := .raw _) J) ?_
 refine sq_yes rfl rfl (less_b g6_2) rfl (ev_lenS Tryz.underlying9 J) ?_
 refine sq_yes rfl rfl (less_b g6_2) rfl (ev_geq J J) ?_
 refine sq_ev rfl (ev_pickF (v := .raw _) (less_b g6_2) J) ?_
 refine mvr J rfl ?_
 refine sq_split 45 J (fun g6_8 => ?_) (fun g6_8 => ?_)
 ·
  have g6_8' := of_decide_eq_true g6_8
  refine sq_no rfl rfl (less_b g6_8) rfl rfl ?_
  refine sq_no rfl rfl (less_b g6_8) rfl rfl ?_
  refine sq_no rfl rfl (less_b g6_8) rfl rfl ?_
  refine sq_no rfl rfl (less_b g6_8) rfl rfl ?_
  refine sq_ev rfl (ev_pickT (v := .raw _) (less_b g6_8) J) ?_
  refine mvr J rfl (sq_no rfl rfl J rfl rfl (sq_no rfl rfl J rfl rfl (sq_no rfl rfl J rfl rfl (sq_no rfl rfl J rfl rfl (sq_ev rfl (ev_pickT (v := .raw _) J J) ?_)))))
  refine mvr J rfl (sq_no rfl rfl J rfl rfl ?_)
  refine sq_no rfl rfl J rfl rfl (sq_no rfl rfl J rfl rfl (sq_no rfl rfl J rfl rfl (sq_no rfl rfl J rfl rfl (sq_no rfl rfl J rfl rfl (sq_no rfl rfl J rfl rfl (sq_ev rfl (ev_pickT (v := .raw _) J J) ?_))))))
  refine sq_nil ?_
  refine aw_true J ?_
  refine aw_seq (aw_region (sq_ev rfl (ev_call en27 J (known_pure) trivial) ?_))
  refine asr J rfl (sq_nil (aw_ret ?_))
  exact retQ_pure (v := .raw _) rfl rfl J
 have g6_8' := of_decide_eq_false g6_8
 exfalso; omega
set_option maxRecDepth 10000 in
theorem spoilt_main (b : Bk) (k : Nat) (d : Int) (k34 : APure Tryz.prog 34 [figs b.l] (B true)) (k54 : APure Tryz.prog 54 [bkA b] (.tup [S (textB b), I 0])) (k55 : APure Tryz.prog 55 [bkA b] (B true)) (hd : 0 ≤ d ∧ d ≤ 9) (hl : (textB b).length ≤ 400) (ho : k < (textB b).length) (hu : ((textB b)[k].toNat : Int) ≤ 255) (k58 : APure Tryz.prog 58 [bkA bk0, bkA bk0] (B true))
    (h56 : 48 ≤ ((textB b)[k].toNat : Int) → ((textB b)[k].toNat : Int) ≤ 57 → ¬ ((textB b)[k].toNat : Int) - 48 = d → APure Tryz.prog 56 [S ((textB b).set k (UInt8.ofNat (48 + d).toNat))] (.tup [bkA bk0, I 4])) : APure Tryz.prog 12 [bkA b, I (k : Int), I d] (B true) := by
  refine apure_of (rs := [.tmp 6]) Tryz.func12 rfl rfl (Nat.le_of_ble_eq_true rfl) (by simp [AV.pureL, AV.pureB, AV.pureE, pureE_map]) (by first | rfl | (simp [AV.pureL, AV.pureB, AV.pureE, pureE_map])) fun e0 he0 => ?_
  refine aw_seq (aw_region ?_)
  refine sq_box rfl J rfl (asr J rfl (sq_nil (aw_seq (aw_seq (aw_region (sq_ev rfl (ev_fieldAddr fo81_1 J) ?_))))))
  refine sq_ev rfl (ev_load J rfl ty45 rfl) ?_
  refine sq_ev rfl (ev_call en34 J (k34) ⟨J, trivial⟩) ?_
  refine sq_ev rfl (ev_not J) ?_
  refine mvr J rfl (sq_yes rfl rfl J rfl (ev_load_agg J rfl ty81 rfl) ?_)
  refine sq_yes rfl rfl J rfl (ev_call en55 J (k55) ⟨J, trivial⟩) ?_
  refine sq_yes rfl rfl J rfl (ev_not J) ?_
  refine pf rfl J J (mvr J rfl (ymr rfl rfl J rfl J (sq_yes rfl rfl J rfl (ev_lss J J) ?_)))
  refine pf rfl J J (mvr J rfl ?_)
  refine sq_split 25 J (fun g1_13 => ?_) (fun g1_13 => ?_)
  · skip
    have g1_13' := of_decide_eq_true g1_13
    exfalso; omega
  · skip
    have g1_13' := of_decide_eq_false g1_13
    refine sq_yes rfl rfl (less_b g1_13) rfl (ev_mv (v := .raw _) J) ?_
    refine sq_yes rfl rfl (less_b g1_13) rfl (ev_gtr J J) ?_
    refine sq_ev rfl (ev_pickF (v := .raw _) (less_b g1_13) J) ?_
    refine sq_nil ?_
    refine aw_cond J (fun c_28 => ?_) (fun c_28 => ?_)
    · skip
      have c_28' := of_decide_eq_true c_28
      exfalso; omega
    · skip
      have c_28' := of_decide_eq_false c_28
      refine aw_skip (aw_seq (aw_region (sq_ev rfl (ev_load_agg J rfl ty81 rfl) ?_)))
      refine sq_ev rfl (ev_call en54 J (k54) ⟨J, trivial⟩) ?_
      refine sq_ev rfl (ev_mv (v := .tup _) J) ?_
      refine xtr rfl J rfl (xtr rfl J rfl (asr J rfl ?_))
      refine asr J rfl (sq_nil (aw_seq (aw_seq (aw_region (mvr J rfl (sq_ev rfl (ev_neq J J) ?_))))))
      refine sq_nil ?_
      refine aw_false J ?_
      refine aw_skip (aw_seq (aw_seq (aw_region (mvr J rfl (sq_ev rfl (ev_lss J J) ?_)))))
      refine mvr J rfl (ymr rfl rfl J rfl J (ymr rfl rfl J rfl J (sq_yes rfl rfl J rfl (ev_lenS Tryz.underlying9 J) ?_)))
      refine sq_yes rfl rfl J rfl (ev_geq J J) ?_
      refine pf rfl J J (mvr J rfl ?_)
      refine sq_split 45 J (fun g6_8 => ?_) (fun g6_8 => ?_)
      · skip
        have g6_8' := of_decide_eq_true g6_8
        exfalso; omega
      · skip
        have g6_8' := of_decide_eq_false g6_8
        refine sq_yes rfl rfl (less_b g6_8) rfl (ev_mv (v := .raw _) J) ?_
        refine sq_yes rfl rfl (less_b g6_8) rfl (ev_mv (v := .raw _) J) ?_
        refine sq_yes rfl rfl (less_b g6_8) rfl (ev_idxS Tryz.underlying9 J J rfl (by omega)) ?_
        refine sq_yes rfl rfl (less_b g6_8) rfl (ev_lss J J) ?_
        refine sq_ev rfl (ev_pickF (v := .raw _) (less_b g6_8) J) ?_
        refine mvr J rfl ?_
        refine sq_split 51 J (fun g6_14 => ?_) (fun g6_14 => ?_)
        · skip
          have g6_14' := of_decide_eq_true g6_14
          refine sq_no rfl rfl (less_b g6_14) rfl rfl ?_
          refine sq_no rfl rfl (less_b g6_14) rfl rfl ?_
          refine sq_no rfl rfl (less_b g6_14) rfl rfl ?_
          refine sq_no rfl rfl (less_b g6_14) rfl rfl ?_
          refine sq_ev rfl (ev_pickT (v := .raw _) (less_b g6_14) J) ?_
          refine mvr J rfl (sq_no rfl rfl J rfl rfl ?_)
          refine sq_no rfl rfl J rfl rfl (sq_no rfl rfl J rfl rfl (sq_no rfl rfl J rfl rfl (sq_no rfl rfl J rfl rfl (sq_no rfl rfl J rfl rfl (sq_no rfl rfl J rfl rfl (sq_ev rfl (ev_pickT (v := .raw _) J J) ?_))))))
          refine sq_nil ?_
          refine aw_true J ?_
          refine aw_seq (aw_region (sq_ev rfl (ev_call en27 J (known_pure) trivial) ?_))
          refine asr J rfl (sq_nil (aw_ret ?_))
          exact retQ_pure (v := .raw _) rfl rfl J
        · skip
          have g6_14' := of_decide_eq_false g6_14
          refine sq_yes rfl rfl (less_b g6_14) rfl (ev_mv (v := .raw _) J) ?_
          refine sq_yes rfl rfl (less_b g6_14) rfl (ev_mv (v := .raw _) J) ?_
          refine sq_yes rfl rfl (less_b g6_14) rfl (ev_idxS Tryz.underlying9 J J rfl (by omega)) ?_
          refine sq_yes rfl rfl (less_b g6_14) rfl (ev_gtr J J) ?_
          refine sq_ev rfl (ev_pickF (v := .raw _) (less_b g6_14) J) ?_
          refine mvr J rfl ?_
          refine sq_split 57 J (fun g6_20 => ?_) (fun g6_20 => ?_)
          · skip
            have g6_20' := of_decide_eq_true g6_20
            refine sq_no rfl rfl (less_b g6_20) rfl rfl ?_
            refine sq_no rfl rfl (less_b g6_20) rfl rfl ?_
            refine sq_no rfl rfl (less_b g6_20) rfl rfl ?_
            refine sq_no rfl rfl (less_b g6_20) rfl rfl ?_
            refine sq_no rfl rfl (less_b g6_20) rfl rfl ?_
            refine sq_no rfl rfl (less_b g6_20) rfl rfl ?_
            refine sq_no rfl rfl (less_b g6_20) rfl rfl ?_
            refine sq_ev rfl (ev_pickT (v := .raw _) (less_b g6_20) J) ?_
            refine sq_nil ?_
            refine aw_true J ?_
            refine aw_seq (aw_region (sq_ev rfl (ev_call en27 J (known_pure) trivial) ?_))
            refine asr J rfl (sq_nil (aw_ret ?_))
            exact retQ_pure (v := .raw _) rfl rfl J
          · skip
            have g6_20' := of_decide_eq_false g6_20
            refine sq_yes rfl rfl (less_b g6_20) rfl (ev_mv (v := .raw _) J) ?_
            refine sq_yes rfl rfl (less_b g6_20) rfl (ev_mv (v := .raw _) J) ?_
            refine sq_yes rfl rfl (less_b g6_20) rfl (ev_idxS Tryz.underlying9 J J rfl (by omega)) ?_
            refine sq_yes rfl rfl (less_b g6_20) rfl (ev_sub J J (wr8 (by omega) (by omega))) ?_
            refine sq_yes rfl rfl (less_b g6_20) rfl (ev_conv_int Tryz.underlying5 Tryz.underlying3 J (wr (by omega) (by omega))) ?_
            refine sq_yes rfl rfl (less_b g6_20) rfl (ev_mv (v := .raw _) J) ?_
            refine sq_yes rfl rfl (less_b g6_20) rfl (ev_eql J J) ?_
            refine sq_ev rfl (ev_pickF (v := .raw _) (less_b g6_20) J) ?_
            refine sq_nil ?_
            refine aw_cond J (fun c_65 => ?_) (fun c_65 => ?_)
            · skip
              have c_65' := of_decide_eq_true c_65
              refine aw_seq (aw_region (sq_ev rfl (ev_call en27 J (known_pure) trivial) ?_))
              refine asr J rfl (sq_nil (aw_ret ?_))
              exact retQ_pure (v := .raw _) rfl rfl J
            · skip
              have c_65' := of_decide_eq_false c_65
              refine aw_skip (aw_seq (aw_region (mvr J rfl ?_)))
              refine sq_bytes rfl Tryz.underlying9 Tryz.underlying92 Tryz.underlying5 J fun cap hcap => ?_
              refine sq_ev rfl (ev_as (v := .msl _ _ _ _) J) ?_
              refine sq_nil (aw_seq (aw_region (sq_ev rfl (ev_mv (v := .msl _ _ _ _) J) ?_)))
              refine mvr J rfl (mvr J rfl (sq_ev rfl (ev_add J J (wr (by omega) (by omega))) ?_))
              refine sq_ev rfl (ev_conv_int Tryz.underlying3 Tryz.underlying5 J (wr8 (by omega) (by omega))) ?_
              refine sq_ev rfl (ev_less (v' := .ptr 1 k) (ev_index_msl sl92 J J rfl (by rw [bs_size]; omega)) (Less.eq (congrArg (AV.ptr 1) (by omega)))) ?_
              refine sq_store_mark rfl J J rfl ty5 rfl rfl (by rw [bytesRow_size]; omega) ?_
              refine sq_nil (aw_seq (aw_region (sq_ev rfl (ev_mv (v := .msl _ _ _ _) J) ?_)))
              refine sq_ev rfl (ev_string_mark (l := (textB b).set k (UInt8.ofNat (48 + d).toNat)) Tryz.underlying92 Tryz.underlying5 Tryz.underlying9 (less_mslx (by rw [bs_size, List.length_set])) rfl (mark_at (digit_c (by omega)).2.symm)) ?_
              refine sq_ev rfl (ev_call en56 J ((h56 (by omega) (by omega) c_65')) ⟨J, trivial⟩) ?_
              refine sq_ev rfl (ev_mv (v := .tup _) J) ?_
              refine xtr rfl J rfl (xtr rfl J rfl ?_)
              refine sq_alloc rfl z81 ?_
              refine sq_store rfl J J rfl rfl ty81 rfl rfl ?_
              refine asr J rfl (sq_nil (aw_seq (aw_region (mvr J rfl (sq_ev rfl (ev_eql J J) ?_)))))
              refine mvr J rfl (sq_yes rfl rfl J rfl (ev_load_agg J rfl ty81 rfl) ?_)
              refine sq_yes rfl rfl J rfl (ev_build bi81 rfl) ?_
              refine sq_yes rfl rfl J rfl (ev_call en58 J (k58) ⟨J, less_bk0, trivial⟩) ?_
              refine sq_ev rfl (ev_pickT (v := .raw _) J J) ?_
              refine mvr J rfl (sq_yes rfl rfl J rfl (ev_call en27 J (known_pure) trivial) ?_)
              refine sq_ev rfl (ev_pickT (v := .raw _) J J) ?_
              refine asr J rfl (sq_nil (aw_ret ?_))
              exact retQ_pure (v := .raw _) rfl rfl J
/-- **OutlineSpoilt.** -/
theorem law12 (b : Bk) (k : Int) (_ : -9223372036854775808 ≤ k) (_ : k ≤ 9223372036854775807) (d : Int) (_ : -9223372036854775808 ≤ d) (_ : d ≤ 9223372036854775807) : APure Tryz.prog 12 [bkA b, I k, I d] (B true) := by
  cases hg : (fewB b.l && (bkOK b && decide (0 ≤ d ∧ d ≤ 9))) with
  | false => exact spoilt_gate b k d hg
  | true =>
    simp only [Bool.and_eq_true, decide_eq_true_eq] at hg
    obtain ⟨hf, hk, hd⟩ := hg
    have k34 : APure Tryz.prog 34 [figs b.l] (B true) := by have := few_pure b.l; rwa [hf] at this
    have hsz := fewB_sz hf
    have k54 := print_pure b (by omega)
    have k55 := rbook_pure b
    rw [hk] at k54 k55
    have hl := text_len hk
    by_cases ho : 0 ≤ k ∧ k < ((textB b).length : Int)
    · obtain ⟨m, rfl⟩ : ∃ m : Nat, k = (m : Int) := ⟨k.toNat, by omega⟩
      have hm : m < (textB b).length := by omega
      have k58 := rbooks_pure bk0 bk0 ⟨by simp, by simp⟩ ⟨by simp, by simp⟩
      rw [decide_eq_true rfl] at k58
      refine spoilt_main b m d k34 k54 k55 hd hl hm (by have := (textB b)[m].toNat_lt; omega) k58 fun h1 h2 h3 => ?_
      obtain ⟨c1, c2⟩ := digit_c (v := 48 + d) (by omega)
      have hn := spoilt hk hm ((isD_iff _).2 (by omega)) c1 fun e => by rw [← e] at c2; omega
      have k56 := read_pure ((textB b).set m (UInt8.ofNat (48 + d).toNat))
      unfold readAV at k56
      rw [readE_none (by rw [List.length_set]; omega) hn] at k56
      exact k56
    · exact spoilt_rng b k d k34 k54 k55 hd hl ho
end Go.Proofs.YtmbknoaneglilaaGreatDoor
